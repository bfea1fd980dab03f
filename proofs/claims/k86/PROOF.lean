import PyProof.Rows.All
import Wide.All
import OpenK.AllK
import Wide.FinOn
import HandS.ForMost
import HandS.Wide
import HandS.WideBits
import HandS.Style
import HandS.EndBits
import PyProof.ReprRoads
import PyProof.ReprLen
import PyProof.StrLawsRepr
import PyProof.FitsInt
import HandS.More
import HandS.SortInts
import HandS.SortRule
import HandS.Zip
import KE.GoesEnum
import HandS.IsInst
import HandS.TupAny
import HandS.Deep
import HandS.SetFor
import HandS.Dict
import HandS.Strs
import KE.KDictZip
import HandS.TupMul
import PySem.Challenge.RW_divisorways_k86_whole_primes_counted_two
set_option Elab.async false
set_option maxRecDepth 100000
set_option maxHeartbeats 4000000
set_option linter.all false
/-! W0: worlds, the mirror's monads, the judgement of an expression and its mirror in lockstep -/
namespace Wk
open PySem L2
open PyProof.Rows hiding St

/-! ### heaps -/
def Ex (S H : Hp) : Prop := ∀ a o, S a = some o → H a = some o
theorem Ex.rf {S : Hp} : Ex S S := fun _ _ h => h
theorem Ex.tr {S H K : Hp} (a : Ex S H) (b : Ex H K) : Ex S K := fun x o h => b x o (a x o h)
theorem Ex.no {S H : Hp} (e : Ex S H) {a : Addr} (h : H a = none) : S a = none := by
  cases q : S a with
  | none => rfl
  | some o => rw [e a o q] at h; cases h
structure Gm (M : List Addr) (S H S' H' : Hp) : Prop where
  s : Ex S S'
  i : Ex S' H'
  h : ∀ a o, a ∉ M → H a = some o → H' a = some o
  f : ∀ a o, H a = some o → S a = none → S' a = none
  t : ∀ a o, H a = some o → ∃ u, H' a = some u
theorem Gm.rf {M : List Addr} {S H : Hp} (e : Ex S H) : Gm M S H S H := ⟨Ex.rf, e, fun _ _ _ h => h, fun _ _ _ h => h, fun _ o h => ⟨o, h⟩⟩
theorem Gm.tr {M : List Addr} {S H S1 H1 S2 H2 : Hp} (a : Gm M S H S1 H1) (b : Gm M S1 H1 S2 H2) : Gm M S H S2 H2 :=
  ⟨a.s.tr b.s, b.i, fun x o m h => b.h x o m (a.h x o m h), fun x o h n => let ⟨u, q⟩ := a.t x o h; b.f x u q (a.f x o h n), fun x o h => let ⟨u, q⟩ := a.t x o h; b.t x u q⟩
theorem Gm.up {M : List Addr} {S H S1 H1 : Hp} (a : Gm [] S H S1 H1) : Gm M S H S1 H1 := ⟨a.s, a.i, fun x o _ h => a.h x o (by simp) h, a.f, a.t⟩
/-- a new object that stays as it is -/
theorem Gm.new {M : List Addr} {S H : Hp} {p : Addr} {o : HO} (e : Ex S H) (n : H p = none) : Gm M S H (upd S p o) (upd H p o) := by
  have ns := e.no n
  refine ⟨fun a u h => ?_, fun a u h => ?_, fun a u _ h => ?_, fun a u h m => ?_, fun a u h => ⟨u, ?_⟩⟩
  · rw [upd_ne (ne_of_none h ns)]; exact h
  · by_cases q : a = p
    · subst q; rw [upd_same] at h ⊢; exact h
    · rw [upd_ne q] at h ⊢; exact e a u h
  · rw [upd_ne (ne_of_none h n)]; exact h
  · rw [upd_ne (ne_of_none h n)]; exact m
  · rw [upd_ne (ne_of_none h n)]; exact h
/-- a new object that may change -/
theorem Gm.own {M : List Addr} {S H : Hp} {p : Addr} {o : HO} (e : Ex S H) (n : H p = none) : Gm M S H S (upd H p o) := by
  refine ⟨Ex.rf, fun a u h => ?_, fun a u _ h => ?_, fun a u h m => m, fun a u h => ⟨u, ?_⟩⟩
  · rw [upd_ne (ne_of_none (e a u h) n)]; exact e a u h
  · rw [upd_ne (ne_of_none h n)]; exact h
  · rw [upd_ne (ne_of_none h n)]; exact h

/-! ### what changes beside: a lot of cells -/
structure Pt (τ : Type) where
  M : List Addr
  cells : τ → List (Addr × HO)
  adr : ∀ s, (cells s).map (·.1) = M
  nd : M.Nodup
def pt0 : Pt Unit := ⟨[], fun _ => [], fun _ => rfl, List.nodup_nil⟩
def PotAt {τ : Type} (p : Pt τ) (s : τ) (S H : Hp) : Prop := ∀ c ∈ p.cells s, H c.1 = some c.2 ∧ S c.1 = none
theorem pot0 {S H : Hp} : PotAt pt0 () S H := fun _ h => nomatch h
theorem PotAt.go {τ : Type} {p : Pt τ} {s : τ} {S H S1 H1 : Hp} (a : PotAt p s S H) (g : Gm [] S H S1 H1) : PotAt p s S1 H1 := fun c hc =>
  ⟨g.h _ _ (by simp) (a c hc).1, g.f _ _ (a c hc).1 (a c hc).2⟩

/-! ### the mirror's monads -/
class Mir (μ : Type → Type) (τ : outParam Type) extends Monad μ where
  run : {α : Type} → μ α → τ → Option (α × τ)
  run_pure : ∀ {α : Type} (a : α) (s : τ), run (pure a : μ α) s = some (a, s)
  run_bind : ∀ {α β : Type} (m : μ α) (k : α → μ β) (s : τ), run (m >>= k) s = (run m s).bind fun z => run (k z.1) z.2
  lft : {α : Type} → Option α → μ α
  run_lft : ∀ {α : Type} (o : Option α) (s : τ), run (lft o : μ α) s = o.map fun a => (a, s)
instance : Mir Option Unit where
  run o _ := o.map fun a => (a, ())
  run_pure _ _ := rfl
  run_bind m k s := by cases m <;> rfl
  lft o := o
  run_lft _ _ := rfl
def PM (τ α : Type) : Type := τ → Option (α × τ)
instance (τ : Type) : Monad (PM τ) where
  pure a := fun s => some (a, s)
  bind m k := fun s => (m s).bind fun z => k z.1 z.2
instance (τ : Type) : Mir (PM τ) τ where
  run m s := m s
  run_pure _ _ := rfl
  run_bind _ _ _ := rfl
  lft o := fun s => o.map fun a => (a, s)
  run_lft _ _ := rfl
/-- a name for a value -/
def bnd {α β : Type} (a : α) (k : α → β) : β := k a
/-- a condition that must hold -/
def grd (c : Prop) [Decidable c] : Option Unit := if c then some () else none
section
variable {μ : Type → Type} {τ : Type} [Mir μ τ] {α β : Type}
theorem run_of_bind {m : μ α} {k : α → μ β} {s : τ} {z : β × τ} (h : Mir.run (m >>= k) s = some z) : ∃ a s1, Mir.run m s = some (a, s1) ∧ Mir.run (k a) s1 = some z := by
  rw [Mir.run_bind] at h
  cases e : Mir.run m s with
  | none => rw [e] at h; cases h
  | some y => rw [e] at h; exact ⟨y.1, y.2, rfl, h⟩
theorem run_of_lft {o : Option α} {k : α → μ β} {s : τ} {z : β × τ} (h : Mir.run (Mir.lft o >>= k) s = some z) : ∃ a, o = some a ∧ Mir.run (k a) s = some z := by
  obtain ⟨a, s1, h1, h2⟩ := run_of_bind h
  rw [Mir.run_lft] at h1
  cases e : o with
  | none => rw [e] at h1; cases h1
  | some y =>
    rw [e] at h1
    have q : (y, s) = (a, s1) := Option.some.inj h1
    cases q
    exact ⟨_, rfl, h2⟩
theorem run_of_pure {a : α} {s : τ} {z : α × τ} (h : Mir.run (pure a : μ α) s = some z) : z = (a, s) := by
  rw [Mir.run_pure] at h
  exact (Option.some.inj h).symm
theorem run_of_pureB {a : α} {k : α → μ β} {s : τ} {z : β × τ} (h : Mir.run (pure a >>= k) s = some z) : Mir.run (k a) s = some z := by
  obtain ⟨b, s1, h1, h2⟩ := run_of_bind h
  cases run_of_pure h1
  exact h2
theorem grd_of {c : Prop} [Decidable c] {u : Unit} (h : grd c = some u) : c := by
  unfold grd at h
  split at h
  · assumption
  · cases h
end

/-! ### what stands for what -/
abbrev Rp (α : Type) := α → V → Hp → Prop
abbrev Rq (α : Type) := α → List V → Hp → Prop
class Mo {α β : Type} (R : α → β → Hp → Prop) : Prop where
  mo : ∀ {a : α} {v : β} {S S' : Hp}, Ex S S' → R a v S → R a v S'
def rI : Rp Int := fun a v _ => v = .int a
def rB : Rp Bool := fun a v _ => v = .bl a
def rS : Rp Str := fun a v _ => v = .str a
def rN : Rp Unit := fun _ v _ => v = .non
instance : Mo rI := ⟨fun _ h => h⟩
instance : Mo rB := ⟨fun _ h => h⟩
instance : Mo rS := ⟨fun _ h => h⟩
instance : Mo rN := ⟨fun _ h => h⟩
/-- None or a value -/
def rO {α : Type} (R : Rp α) : Rp (Option α) := fun a v S => match a with | none => v = .non | some x => R x v S
instance {α : Type} (R : Rp α) [Mo R] : Mo (rO R) := ⟨fun {a v S S'} e h => by
  cases a with
  | none => exact h
  | some x => exact Mo.mo (R := R) e h⟩
/-- one or the other -/
def rU {α β : Type} (R : Rp α) (R' : Rp β) : Rp (α ⊕ β) := fun a v S => match a with | .inl x => R x v S | .inr y => R' y v S
instance {α β : Type} (R : Rp α) (R' : Rp β) [Mo R] [Mo R'] : Mo (rU R R') := ⟨fun {a v S S'} e h => by
  cases a with
  | inl x => exact Mo.mo (R := R) e h
  | inr x => exact Mo.mo (R := R') e h⟩
def aNil : Rq Unit := fun _ vs _ => vs = []
def aOne {α : Type} (R : Rp α) : Rq α := fun a vs S => ∃ v, vs = [v] ∧ R a v S
def aCons {α β : Type} (R : Rp α) (A : Rq β) : Rq (α × β) := fun a vs S => ∃ v r, vs = v :: r ∧ R a.1 v S ∧ A a.2 r S
inductive All {α : Type} (R : Rp α) (S : Hp) : List α → List V → Prop
  | nil : All R S [] []
  | cons {a : α} {as : List α} {v : V} {vs : List V} : R a v S → All R S as vs → All R S (a :: as) (v :: vs)
def aAll {α : Type} (R : Rp α) : Rq (List α) := fun xs vs S => All R S xs vs
instance : Mo aNil := ⟨fun _ h => h⟩
instance {α : Type} (R : Rp α) [Mo R] : Mo (aOne R) := ⟨fun e ⟨v, h1, h2⟩ => ⟨v, h1, Mo.mo e h2⟩⟩
instance {α β : Type} (R : Rp α) (A : Rq β) [Mo R] [Mo A] : Mo (aCons R A) := ⟨fun e ⟨v, r, h1, h2, h3⟩ => ⟨v, r, h1, Mo.mo e h2, Mo.mo e h3⟩⟩
theorem All.mo {α : Type} {R : Rp α} [Mo R] {S S' : Hp} (e : Ex S S') : ∀ {xs : List α} {vs : List V}, All R S xs vs → All R S' xs vs
  | _, _, .nil => .nil
  | _, _, .cons h t => .cons (Mo.mo e h) (t.mo e)
instance {α : Type} (R : Rp α) [Mo R] : Mo (aAll R) := ⟨fun e h => All.mo e h⟩
theorem All.len {α : Type} {R : Rp α} {S : Hp} : ∀ {xs : List α} {vs : List V}, All R S xs vs → xs.length = vs.length
  | _, _, .nil => rfl
  | _, _, .cons _ t => by simp [t.len]
theorem All.get {α : Type} {R : Rp α} {S : Hp} : ∀ {xs : List α} {vs : List V} {i : Nat} {x : α}, All R S xs vs → xs[i]? = some x → ∃ v, vs[i]? = some v ∧ R x v S
  | _, _, _, _, .nil, e => by simp at e
  | _, _, 0, _, .cons h _, e => by simp at e; subst e; exact ⟨_, rfl, h⟩
  | _, _, i + 1, x, .cons _ t, e => by
    obtain ⟨v, h1, h2⟩ := t.get (i := i) (x := x) (by simpa using e)
    exact ⟨v, by simpa using h1, h2⟩
theorem All.app {α : Type} {R : Rp α} {S : Hp} : ∀ {xs ys : List α} {vs us : List V}, All R S xs vs → All R S ys us → All R S (xs ++ ys) (vs ++ us)
  | _, _, _, _, .nil, h => h
  | _, _, _, _, .cons h t, g => .cons h (t.app g)
theorem All.take {α : Type} {R : Rp α} {S : Hp} : ∀ {xs : List α} {vs : List V} (n : Nat), All R S xs vs → All R S (xs.take n) (vs.take n)
  | _, _, 0, _ => .nil
  | _, _, _ + 1, .nil => .nil
  | _, _, n + 1, .cons h t => .cons h (t.take n)
theorem All.drop {α : Type} {R : Rp α} {S : Hp} : ∀ {xs : List α} {vs : List V} (n : Nat), All R S xs vs → All R S (xs.drop n) (vs.drop n)
  | _, _, 0, h => h
  | _, _, _ + 1, .nil => .nil
  | _, _, n + 1, .cons _ t => t.drop n
theorem All.set {α : Type} {R : Rp α} {S : Hp} {x : α} {v : V} (h : R x v S) : ∀ {xs : List α} {vs : List V} (n : Nat), All R S xs vs → All R S (xs.set n x) (vs.set n v)
  | _, _, _, .nil => .nil
  | _, _, 0, .cons _ t => .cons h t
  | _, _, n + 1, .cons g t => .cons g (t.set h n)
theorem All.ints {S : Hp} : ∀ {xs : List Int} {vs : List V}, All rI S xs vs → vs = xs.map V.int
  | _, _, .nil => rfl
  | _, _, .cons h t => by rw [t.ints, show _ = V.int _ from h]; rfl
theorem All.ofInts {S : Hp} : ∀ xs : List Int, All rI S xs (xs.map V.int)
  | [] => .nil
  | x :: xs => .cons rfl (All.ofInts xs)
theorem All.bools {S : Hp} : ∀ {xs : List Bool} {vs : List V}, All rB S xs vs → vs = xs.map V.bl
  | _, _, .nil => rfl
  | _, _, .cons h t => by rw [t.bools, show _ = V.bl _ from h]; rfl
/-- a tuple, a list that stays -/
def rT {α : Type} (K : PySem.W.Frag) (A : Rq α) : Rp α := fun a v S => ∃ p vs, v = .ref p ∧ SqT K S p vs ∧ A a vs S
def rL {α : Type} (A : Rq α) : Rp α := fun a v S => ∃ p vs, v = .ref p ∧ S p = some (.lst vs) ∧ A a vs S
theorem rd_ex {S S' : Hp} (e : Ex S S') {a : Addr} {u : HO} (h : Rd S a u) : Rd S' a u := by
  rcases h with h | ⟨o, h⟩
  · exact .inl (e _ _ h)
  · exact .inr ⟨o, e _ _ h⟩
theorem sqT_ex {K : PySem.W.Frag} {S S' : Hp} (e : Ex S S') {a : Addr} {xs : List V} (h : SqT K S a xs) : SqT K S' a xs := by
  rcases h with h | h
  · exact .inl (rd_ex e h)
  · exact .inr h
theorem sqL_ex {K : PySem.W.Frag} {S S' : Hp} (e : Ex S S') {a : Addr} {xs : List V} (h : SqL K S a xs) : SqL K S' a xs := by
  rcases h with h | h
  · exact .inl (rd_ex e h)
  · exact .inr h
instance {α : Type} (K : PySem.W.Frag) (A : Rq α) [Mo A] : Mo (rT K A) := ⟨fun e ⟨p, vs, h1, h2, h3⟩ => ⟨p, vs, h1, sqT_ex e h2, Mo.mo e h3⟩⟩
instance {α : Type} (A : Rq α) [Mo A] : Mo (rL A) := ⟨fun e ⟨p, vs, h1, h2, h3⟩ => ⟨p, vs, h1, e _ _ h2, Mo.mo e h3⟩⟩

/-! ### the judgements: the program's reading and the mirror go in lockstep -/
section
variable {μ : Type → Type} {τ : Type} [Mir μ τ] {α β γ δ : Type}
def Ev (p : Pt τ) (te : TE) (σ : St) (S H : Hp) (m : (α → μ β) → μ β) (R : Rp α) : Prop :=
  ∀ S1 H1 s, Gm p.M S H S1 H1 → PotAt p s S1 H1 → ∀ (k : α → μ β) z, Mir.run (m k) s = some z → ∀ Q : VK,
    (∀ a v S2 H2 s2, Gm p.M S1 H1 S2 H2 → PotAt p s2 S2 H2 → R a v S2 → Mir.run (k a) s2 = some z → Q v H2) → te σ H1 Q
/-- a new list -/
def EvL (p : Pt τ) (te : TE) (σ : St) (S H : Hp) (m : (α → μ β) → μ β) (A : Rq α) : Prop :=
  ∀ S1 H1 s, Gm p.M S H S1 H1 → PotAt p s S1 H1 → ∀ (k : α → μ β) z, Mir.run (m k) s = some z → ∀ Q : VK,
    (∀ a q vs S2 H2 s2, Gm p.M S1 H1 S2 H2 → PotAt p s2 S2 H2 → H1 q = none → H2 q = some (.lst vs) → S2 q = none → q ∉ p.M → A a vs S2 → Mir.run (k a) s2 = some z → Q (.ref q) H2) → te σ H1 Q
/-- a list that can be read -/
def EvR (p : Pt τ) (te : TE) (σ : St) (S H : Hp) (m : (α → μ β) → μ β) (A : Rq α) : Prop :=
  ∀ S1 H1 s, Gm p.M S H S1 H1 → PotAt p s S1 H1 → ∀ (k : α → μ β) z, Mir.run (m k) s = some z → ∀ Q : VK,
    (∀ a q vs S2 H2 s2, Gm p.M S1 H1 S2 H2 → PotAt p s2 S2 H2 → H2 q = some (.lst vs) → q ∉ p.M → A a vs S2 → Mir.run (k a) s2 = some z → Q (.ref q) H2) → te σ H1 Q
def EvT (p : Pt τ) (tt : TT) (σ : St) (S H : Hp) (m : (Bool → μ β) → μ β) : Prop :=
  ∀ S1 H1 s, Gm p.M S H S1 H1 → PotAt p s S1 H1 → ∀ (k : Bool → μ β) z, Mir.run (m k) s = some z → ∀ Q : Bool → Hp → Prop,
    (∀ b S2 H2 s2, Gm p.M S1 H1 S2 H2 → PotAt p s2 S2 H2 → Mir.run (k b) s2 = some z → Q b H2) → tt σ H1 Q
def EvA (p : Pt τ) (ta : TA) (σ : St) (S H : Hp) (m : (α → μ β) → μ β) (A : Rq α) : Prop :=
  ∀ S1 H1 s, Gm p.M S H S1 H1 → PotAt p s S1 H1 → ∀ (k : α → μ β) z, Mir.run (m k) s = some z → ∀ Q : List V → Hp → Prop,
    (∀ a vs S2 H2 s2, Gm p.M S1 H1 S2 H2 → PotAt p s2 S2 H2 → A a vs S2 → Mir.run (k a) s2 = some z → Q vs H2) → ta σ H1 Q
variable {p : Pt τ} {σ : St} {S H : Hp} {te ta tb : TE} {tt tu : TT}
theorem Ev.go {m : (α → μ β) → μ β} {R : Rp α} {S1 H1 : Hp} (h : Ev p te σ S H m R) (g : Gm p.M S H S1 H1) : Ev p te σ S1 H1 m R :=
  fun S2 H2 s g2 ps => h S2 H2 s (g.tr g2) ps

theorem e_var {i : Nat} {a : α} {v : V} {R : Rp α} [Mo R] (e : σ[i]? = some (some v)) (r : R a v S) : Ev (μ := μ) (β := β) p (tVar i) σ S H (fun k => k a) R :=
  fun _ _ _ g ps _ _ hm _ q => ⟨v, e, q _ _ _ _ _ (Gm.rf g.i) ps (Mo.mo g.s r) hm⟩
theorem e_cI {i : Int} : Ev (μ := μ) (β := β) p (tC (.int i)) σ S H (fun k => k i) rI := fun _ _ _ g ps _ _ hm _ q => q _ _ _ _ _ (Gm.rf g.i) ps rfl hm
theorem e_cB {b : Bool} : Ev (μ := μ) (β := β) p (tC (.bl b)) σ S H (fun k => k b) rB := fun _ _ _ g ps _ _ hm _ q => q _ _ _ _ _ (Gm.rf g.i) ps rfl hm
theorem e_cS {x : Str} : Ev (μ := μ) (β := β) p (tC (.str x)) σ S H (fun k => k x) rS := fun _ _ _ g ps _ _ hm _ q => q _ _ _ _ _ (Gm.rf g.i) ps rfl hm
theorem e_cN : Ev (μ := μ) (β := β) p (tC .non) σ S H (fun k => k ()) rN := fun _ _ _ g ps _ _ hm _ q => q _ _ _ _ _ (Gm.rf g.i) ps rfl hm
/-- a value is also one of more kinds -/
theorem Ev.map {m : (α → μ β) → μ β} {R : Rp α} {R' : Rp γ} (f : α → γ) (h : Ev p te σ S H m R) (hr : ∀ a v S, R a v S → R' (f a) v S) : Ev p te σ S H (fun k => m fun a => k (f a)) R' :=
  fun S1 H1 s g ps k z hm Q q => h S1 H1 s g ps _ z hm Q fun a v S2 H2 s2 g2 p2 r hm2 => q _ v S2 H2 s2 g2 p2 (hr _ _ _ r) hm2
theorem Ev.some {m : (α → μ β) → μ β} {R : Rp α} (h : Ev p te σ S H m R) : Ev p te σ S H (fun k => m fun a => k (Option.some a)) (rO R) := h.map Option.some fun _ _ _ r => r
theorem Ev.none {m : (Unit → μ β) → μ β} {R : Rp α} (h : Ev p te σ S H m rN) : Ev p te σ S H (fun k => m fun _ => k Option.none) (rO R) := h.map (fun _ => Option.none) fun _ _ _ r => r
theorem Ev.inl {m : (α → μ β) → μ β} {R : Rp α} {R' : Rp γ} (h : Ev p te σ S H m R) : Ev p te σ S H (fun k => m fun a => k (Sum.inl a)) (rU R R') := h.map Sum.inl fun _ _ _ r => r
theorem Ev.inr {m : (α → μ β) → μ β} {R : Rp α} {R' : Rp γ} (h : Ev p te σ S H m R) : Ev p te σ S H (fun k => m fun a => k (Sum.inr a)) (rU R' R) := h.map Sum.inr fun _ _ _ r => r

/-! operators of two ints -/
theorem e_op {r : R2} {mA mB : (Int → μ β) → μ β} {f : Int → Int → (γ → μ β) → μ β} {R : Rp γ} (ha : Ev p ta σ S H mA rI) (hb : Ev p tb σ S H mB rI)
    (hr : ∀ i j H1 S1 s, Ex S1 H1 → ∀ (k : γ → μ β) z, Mir.run (f i j k) s = some z → ∀ Q : VK, (∀ c v, R c v S1 → Mir.run (k c) s = some z → Q v H1) → r (.int i) (.int j) H1 Q) :
    Ev p (tOp r ta tb) σ S H (fun k => mA fun i => mB fun j => f i j k) R := fun S1 H1 s g ps k z hm Q q =>
  ha S1 H1 s g ps _ z hm _ fun i v S2 H2 s2 g2 p2 r2 hm2 => hb S2 H2 s2 (g.tr g2) p2 _ z hm2 _ fun j u S3 H3 s3 g3 p3 r3 hm3 => by
    cases (show v = .int i from r2)
    cases (show u = .int j from r3)
    exact hr i j H3 S3 s3 g3.i k z hm3 Q fun c w rc hk => q c w S3 H3 s3 (g2.tr g3) p3 rc hk
/-- a total operator -/
theorem e_op0 {C : Int → Int → V} {D : Int → Int → γ} {mA mB : (Int → μ β) → μ β} {R : Rp γ} (ha : Ev p ta σ S H mA rI) (hb : Ev p tb σ S H mB rI) (hR : ∀ i j S, R (D i j) (C i j) S) :
    Ev p (tOp (rI0 C) ta tb) σ S H (fun k => mA fun i => mB fun j => k (D i j)) R :=
  e_op (f := fun i j k => k (D i j)) ha hb fun i j _ S1 s _ k z hm Q q => ⟨i, j, rfl, rfl, q _ _ (hR i j S1) hm⟩
/-- one with a condition -/
theorem e_opC {P : Int → Int → Prop} {C : Int → Int → V} {D : Int → Int → γ} {c : Int → Int → Prop} [∀ i j, Decidable (c i j)] {mA mB : (Int → μ β) → μ β} {R : Rp γ} (ha : Ev p ta σ S H mA rI) (hb : Ev p tb σ S H mB rI)
    (hc : ∀ i j, c i j → P i j) (hR : ∀ i j S, c i j → R (D i j) (C i j) S) :
    Ev p (tOp (L2.rI P C) ta tb) σ S H (fun k => mA fun i => mB fun j => Mir.lft (grd (c i j)) >>= fun _ => k (D i j)) R :=
  e_op (f := fun i j k => Mir.lft (grd (c i j)) >>= fun _ => k (D i j)) ha hb fun i j _ S1 s _ k z hm Q q => by
    obtain ⟨_, e, hm⟩ := run_of_lft hm
    have h := grd_of e
    exact ⟨i, j, rfl, rfl, hc i j h, q _ _ (hR i j S1 h) hm⟩
end
/-- of a size that no bound of the model meets -/
def Sm (a : Int) : Prop := a.natAbs.log2 < 60000000
instance (a : Int) : Decidable (Sm a) := inferInstanceAs (Decidable (_ < _))
theorem Sm.of {a : Int} {n : Nat} (h : a.natAbs < 2 ^ n) (h0 : 0 < n) (hn : n ≤ 60000000) : Sm a := Nat.lt_of_lt_of_le (PySem.Flt.log2_lt_of h0 h) hn
theorem bits_log (a : Int) : Builtin.Int.intBits a ≤ a.natAbs.log2 + 1 := by
  unfold Builtin.Int.intBits
  split <;> omega
theorem Sm.mul {a b : Int} (h : Sm a ∧ Sm b) : CMulX a b := by
  have h1 := bits_log a
  have h2 := bits_log b
  unfold Sm at h
  unfold CMulX
  omega
end Wk
set_option Elab.async false
set_option maxRecDepth 100000
set_option maxHeartbeats 4000000
set_option linter.all false
/-! W1: the world of a def's body, statements, loops, comprehensions -/
namespace Wk
open PySem L2
open PyProof.Rows hiding St
section
variable {μ : Type → Type} {τ : Type} [Mir μ τ] {α β γ δ : Type} {p : Pt τ} {σ : St} {S H S0 H0 : Hp} {te ta tb : TE} {tt : TT} {L : List (Addr × HO)} {K : PySem.W.Frag}

/-- what a body knows: how it stands to its entry (S0, H0), its own objects L -/
structure Wd (p : Pt τ) (S0 H0 S H : Hp) (L : List (Addr × HO)) : Prop where
  g : Gm p.M S0 H0 S H
  o : ∀ c ∈ L, H c.1 = some c.2 ∧ S c.1 = none ∧ H0 c.1 = none
  n : (p.M ++ L.map (·.1)).Nodup
theorem Wd.start (e : Ex S H) : Wd p S H S H [] := ⟨Gm.rf e, fun _ h => (nomatch h), by simpa using p.nd⟩
theorem Wd.i (w : Wd p S0 H0 S H L) : Ex S H := w.g.i
theorem Wd.nm (w : Wd p S0 H0 S H L) {c : Addr × HO} (h : c ∈ L) : c.1 ∉ p.M := fun q => by
  have z := List.nodup_append.mp w.n
  exact z.2.2 c.1 q c.1 (List.mem_map_of_mem h) rfl
theorem Wd.go {S1 H1 : Hp} (w : Wd p S0 H0 S H L) (g : Gm p.M S H S1 H1) : Wd p S0 H0 S1 H1 L :=
  ⟨w.g.tr g, fun c h => ⟨g.h _ _ (w.nm h) (w.o c h).1, g.f _ _ (w.o c h).1 (w.o c h).2.1, (w.o c h).2.2⟩, w.n⟩
theorem Wd.add {S1 H1 : Hp} {q : Addr} {o : HO} (w : Wd p S0 H0 S H L) (g : Gm p.M S H S1 H1) (n : H q = none) (e : H1 q = some o) (s : S1 q = none) (m : q ∉ p.M) : Wd p S0 H0 S1 H1 ((q, o) :: L) := by
  have w1 := w.go g
  have n0 : H0 q = none := by
    cases z : H0 q with
    | none => rfl
    | some u =>
      obtain ⟨u', z'⟩ := w.g.t q u z
      rw [n] at z'; cases z'
  have nL : q ∉ L.map (·.1) := fun z => by
    obtain ⟨c, hc, e'⟩ := List.mem_map.mp z
    have := (w.o c hc).1
    rw [e', n] at this; cases this
  refine ⟨w1.g, fun c h => ?_, ?_⟩
  · rcases List.mem_cons.mp h with z | z
    · subst z; exact ⟨e, s, n0⟩
    · exact w1.o c z
  · have z := List.nodup_append.mp w.n
    rw [List.map_cons]
    refine List.nodup_append.mpr ⟨z.1, List.nodup_cons.mpr ⟨nL, z.2.1⟩, fun a ha b hb e' => ?_⟩
    rcases List.mem_cons.mp hb with z' | z'
    · have z2 : b = q := z'
      exact m (by rw [← z2, ← e']; exact ha)
    · exact z.2.2 a ha b z' e'
theorem Wd.at {i : Nat} {q : Addr} {o : HO} (w : Wd p S0 H0 S H L) (h : L[i]? = some (q, o)) : H q = some o ∧ S q = none ∧ H0 q = none := w.o (q, o) (List.mem_of_getElem? h)
theorem set_fst {q : Addr} {o o' : HO} : ∀ {L : List (Addr × HO)} {i : Nat}, L[i]? = some (q, o) → (L.set i (q, o')).map (·.1) = L.map (·.1)
  | [], _, h => by simp at h
  | c :: L, 0, h => by
    simp at h; subst h; rfl
  | c :: L, i + 1, h => by
    show c.1 :: (L.set i (q, o')).map (·.1) = c.1 :: L.map (·.1)
    rw [set_fst (i := i) (by simpa using h)]
theorem Gm.put {M : List Addr} {S1 H1 : Hp} {q : Addr} {o : HO} (g : Gm M S H S1 H1) (n : H q = none) (s : S1 q = none) : Gm M S H S1 (upd H1 q o) := by
  refine ⟨g.s, fun a u h => ?_, fun a u m h => ?_, g.f, fun a u h => ?_⟩
  · rw [upd_ne (ne_of_none h s)]; exact g.i a u h
  · rw [upd_ne (ne_of_none h n)]; exact g.h a u m h
  · rw [upd_ne (ne_of_none h n)]; exact g.t a u h
theorem Wd.put {i : Nat} {q : Addr} {o o' : HO} (w : Wd p S0 H0 S H L) (h : L[i]? = some (q, o)) : Wd p S0 H0 S (upd H q o') (L.set i (q, o')) := by
  obtain ⟨h1, h2, h3⟩ := w.at h
  refine ⟨w.g.put h3 h2, fun c hc => ?_, by rw [set_fst h]; exact w.n⟩
  have nd : (L.map (·.1)).Nodup := (List.nodup_append.mp w.n).2.1
  have hi : i < L.length := (List.getElem?_eq_some_iff.mp h).1
  obtain ⟨j, hj, e⟩ := List.mem_iff_getElem.mp hc
  by_cases ej : j = i
  · subst ej
    rw [List.getElem_set_self] at e
    subst e
    exact ⟨upd_same, h2, h3⟩
  · rw [List.getElem_set_ne (Ne.symm ej)] at e
    have hj' : j < L.length := by simpa using hj
    have mem : c ∈ L := by rw [← e]; exact List.getElem_mem hj'
    have ne : c.1 ≠ q := fun z => ej <| by
      have z1 : (L.map (·.1))[j]? = some q := by rw [List.getElem?_map, List.getElem?_eq_getElem hj', e]; simp [z]
      have z2 : (L.map (·.1))[i]? = some q := by rw [List.getElem?_map, h]; rfl
      exact nd_ix nd z1 z2
    obtain ⟨a, b, d⟩ := w.o c mem
    exact ⟨by rw [upd_ne ne]; exact a, b, d⟩
theorem PotAt.put {s : τ} {q : Addr} {o : HO} (a : PotAt p s S H) (m : q ∉ p.M) : PotAt p s S (upd H q o) := fun c hc => by
  have : c.1 ≠ q := fun z => m (by rw [← z, ← p.adr s]; exact List.mem_map_of_mem hc)
  exact ⟨by rw [upd_ne this]; exact (a c hc).1, (a c hc).2⟩
theorem PotAt.frz {s : τ} {q : Addr} {o : HO} (a : PotAt p s S H) (m : q ∉ p.M) : PotAt p s (upd S q o) H := fun c hc => by
  have : c.1 ≠ q := fun z => m (by rw [← z, ← p.adr s]; exact List.mem_map_of_mem hc)
  exact ⟨(a c hc).1, by rw [upd_ne this]; exact (a c hc).2⟩
theorem erase_sub {i : Nat} {c : Addr × HO} (h : c ∈ L.eraseIdx i) : c ∈ L := List.mem_of_mem_eraseIdx h
theorem ex_frz {q : Addr} {o : HO} (s : S q = none) : Ex S (upd S q o) := fun a u h => by rw [upd_ne (ne_of_none h s)]; exact h
/-- an own object stays from now on -/
theorem Wd.frz {i : Nat} {q : Addr} {o : HO} (w : Wd p S0 H0 S H L) (h : L[i]? = some (q, o)) : Wd p S0 H0 (upd S q o) H (L.eraseIdx i) := by
  obtain ⟨h1, h2, h3⟩ := w.at h
  have hi : i < L.length := (List.getElem?_eq_some_iff.mp h).1
  refine ⟨⟨w.g.s.tr (ex_frz h2), fun a u e => ?_, w.g.h, fun a u e n => ?_, w.g.t⟩, fun c hc => ?_, ?_⟩
  · by_cases z : a = q
    · subst z; rw [upd_same] at e; cases e; exact h1
    · rw [upd_ne z] at e; exact w.g.i a u e
  · rw [upd_ne (ne_of_none e h3)]; exact w.g.f a u e n
  · obtain ⟨a, b, d⟩ := w.o c (erase_sub hc)
    have nd : (L.map (·.1)).Nodup := (List.nodup_append.mp w.n).2.1
    have ne : c.1 ≠ q := fun z => by
      obtain ⟨j, hj, e⟩ := List.mem_iff_getElem.mp hc
      have e1 : L.eraseIdx i = L.take i ++ L.drop (i + 1) := List.eraseIdx_eq_take_drop_succ L i
      have e2 : L = L.take i ++ (q, o) :: L.drop (i + 1) := by
        have ev : L[i] = (q, o) := by
          have := List.getElem?_eq_getElem hi
          rw [h] at this
          exact (Option.some.inj this).symm
        rw [← ev]
        simp
      rw [e2, List.map_append, List.map_cons] at nd
      have nd' := List.nodup_append.mp nd
      rw [e1] at hc
      rcases List.mem_append.mp hc with z1 | z1
      · exact nd'.2.2 c.1 (List.mem_map_of_mem z1) q (by simp) z
      · exact (List.nodup_cons.mp nd'.2.1).1 (by show q ∈ _; rw [← z]; exact List.mem_map_of_mem (f := fun c : Addr × HO => c.1) z1)
    exact ⟨a, by rw [upd_ne ne]; exact b, d⟩
  · refine w.n.sublist (List.Sublist.append (List.Sublist.refl _) (List.Sublist.map _ (List.eraseIdx_sublist L i)))
theorem Wd.drop {i : Nat} (w : Wd p S0 H0 S H L) : Wd p S0 H0 S H (L.eraseIdx i) :=
  ⟨w.g, fun c h => w.o c (erase_sub h), w.n.sublist (List.Sublist.append (List.Sublist.refl _) (List.Sublist.map _ (List.eraseIdx_sublist L i)))⟩
/-- the values at some places -/
def pick {α : Type} (ix : List Nat) (l : List α) : List α := ix.filterMap fun i => l[i]?
theorem mem_pick {α : Type} {ix : List Nat} {l : List α} {a : α} (h : a ∈ pick ix l) : ∃ i ∈ ix, l[i]? = some a := List.mem_filterMap.mp h
theorem pick_nd {L : List (Addr × HO)} (nd : (L.map (·.1)).Nodup) : ∀ {ix : List Nat}, ix.Nodup → ((pick ix L).map (·.1)).Nodup
  | [], _ => List.nodup_nil
  | i :: ix, h => by
    have h' := List.nodup_cons.mp h
    have t := pick_nd nd h'.2
    unfold pick at t ⊢
    rw [List.filterMap_cons]
    cases e : L[i]? with
    | none => exact t
    | some c =>
      refine List.nodup_cons.mpr ⟨fun z => ?_, t⟩
      obtain ⟨d, hd, e2⟩ := List.mem_map.mp z
      obtain ⟨j, hj, e3⟩ := mem_pick hd
      have z1 : (L.map (·.1))[j]? = some c.1 := by rw [List.getElem?_map, e3]; simp [e2]
      have z2 : (L.map (·.1))[i]? = some c.1 := by rw [List.getElem?_map, e]; rfl
      exact h'.1 (nd_ix nd z2 z1 ▸ hj)
theorem Wd.pick (ix : List Nat) (w : Wd p S0 H0 S H L) (h : ix.Nodup) : Wd p S0 H0 S H (Wk.pick ix L) := by
  have z := List.nodup_append.mp w.n
  have sub : ∀ c ∈ Wk.pick ix L, c ∈ L := fun c hc => by
    obtain ⟨i, _, e⟩ := mem_pick hc
    exact List.mem_of_getElem? e
  refine ⟨w.g, fun c hc => w.o c (sub c hc), List.nodup_append.mpr ⟨z.1, pick_nd z.2.1 h, fun a ha b hb => ?_⟩⟩
  obtain ⟨c, hc, e⟩ := List.mem_map.mp hb
  exact z.2.2 a ha b (List.mem_map.mpr ⟨c, sub c hc, e⟩)
theorem Wd.nmAt {i : Nat} {q : Addr} {o : HO} (w : Wd p S0 H0 S H L) (h : L[i]? = some (q, o)) : q ∉ p.M := w.nm (c := (q, o)) (List.mem_of_getElem? h)

/-! ### lists that are made, read -/
theorem EvL.frz {A : Rq α} {m : (α → μ β) → μ β} [Mo A] (h : EvL p te σ S H m A) : Ev p te σ S H m (rL A) := fun S1 H1 s g ps k z hm Q q =>
  h S1 H1 s g ps k z hm Q fun a x vs S2 H2 s2 g2 p2 n1 e2 n2 m2 r hm2 => by
    refine q a (.ref x) (upd S2 x (.lst vs)) H2 s2 ⟨g2.s.tr (ex_frz n2), fun b u e => ?_, g2.h, fun b u e n => ?_, g2.t⟩ (p2.frz m2) ⟨x, vs, rfl, upd_same, Mo.mo (ex_frz n2) r⟩ hm2
    · by_cases z : b = x
      · subst z; rw [upd_same] at e; cases e; exact e2
      · rw [upd_ne z] at e; exact g2.i b u e
    · rw [upd_ne (ne_of_none e n1)]; exact g2.f b u e n
theorem EvL.rd {A : Rq α} {m : (α → μ β) → μ β} (h : EvL p te σ S H m A) : EvR p te σ S H m A := fun S1 H1 s g ps k z hm Q q =>
  h S1 H1 s g ps k z hm Q fun a x vs S2 H2 s2 g2 p2 _ e2 _ m2 r hm2 => q a x vs S2 H2 s2 g2 p2 e2 m2 r hm2
theorem pot_nM {s : τ} (ps : PotAt p s S H) {x : Addr} {o : HO} (hx : S x = some o) : x ∉ p.M := fun z => by
  rw [← p.adr s] at z
  obtain ⟨c, hc, e⟩ := List.mem_map.mp z
  have := (ps c hc).2
  rw [e, hx] at this; cases this
theorem Ev.rd {A : Rq α} {m : (α → μ β) → μ β} (h : Ev p te σ S H m (rL A)) : EvR p te σ S H m A := fun S1 H1 s g ps k z hm Q q =>
  h S1 H1 s g ps k z hm Q fun a v S2 H2 s2 g2 p2 ⟨x, vs, e, h1, h2⟩ hm2 => by
    subst e
    exact q a x vs S2 H2 s2 g2 p2 (g2.i _ _ h1) (pot_nM p2 h1) h2 hm2
theorem e_own {i : Nat} {a : α} {q : Addr} {vs : List V} {A : Rq α} [Mo A] (e : σ[i]? = some (some (.ref q))) (hq : H q = some (.lst vs)) (hM : q ∉ p.M) (r : A a vs S) : EvR (μ := μ) (β := β) p (tVar i) σ S H (fun k => k a) A :=
  fun _ _ _ g ps _ _ hm _ k => ⟨.ref q, e, k _ _ _ _ _ _ (Gm.rf g.i) ps (g.h _ _ hM hq) hM (Mo.mo g.s r) hm⟩
theorem w_own {i j : Nat} {a : α} {q : Addr} {vs : List V} {A : Rq α} [Mo A] (w : Wd p S0 H0 S H L) (hj : L[j]? = some (q, .lst vs)) (e : σ[i]? = some (some (.ref q))) (r : A a vs S) : EvR (μ := μ) (β := β) p (tVar i) σ S H (fun k => k a) A :=
  e_own e (w.at hj).1 (w.nmAt hj) r

/-! ### arguments, displays -/
theorem a_nil : EvA (μ := μ) (β := β) p tNil σ S H (fun k => k ()) aNil := fun _ _ _ g ps _ _ hm _ q => q _ _ _ _ _ (Gm.rf g.i) ps rfl hm
theorem a_one {m : (α → μ β) → μ β} {R : Rp α} (h : Ev p te σ S H m R) : EvA p (tCons te tNil) σ S H m (aOne R) := fun S1 H1 s g ps k z hm Q q =>
  h S1 H1 s g ps k z hm _ fun a v S2 H2 s2 g2 p2 r hm2 => q a [v] S2 H2 s2 g2 p2 ⟨v, rfl, r⟩ hm2
theorem a_cons {tr : TA} {m : (α → μ β) → μ β} {m' : (γ → μ β) → μ β} {R : Rp α} {A : Rq γ} [Mo R] (h : Ev p te σ S H m R) (h' : EvA p tr σ S H m' A) : EvA p (tCons te tr) σ S H (fun k => m fun a => m' fun b => k (a, b)) (aCons R A) := fun S1 H1 s g ps k z hm Q q =>
  h S1 H1 s g ps _ z hm _ fun a v S2 H2 s2 g2 p2 r hm2 => h' S2 H2 s2 (g.tr g2) p2 _ z hm2 _ fun b vs S3 H3 s3 g3 p3 r3 hm3 => q (a, b) (v :: vs) S3 H3 s3 (g2.tr g3) p3 ⟨v, vs, rfl, Mo.mo g3.s r, r3⟩ hm3
theorem a_nilL {R : Rp α} : EvA (μ := μ) (β := β) p tNil σ S H (fun k => k []) (aAll R) := fun _ _ _ g ps _ _ hm _ q => q _ _ _ _ _ (Gm.rf g.i) ps .nil hm
theorem a_consL {tr : TA} {m : (α → μ β) → μ β} {m' : (List α → μ β) → μ β} {R : Rp α} [Mo R] (h : Ev p te σ S H m R) (h' : EvA p tr σ S H m' (aAll R)) : EvA p (tCons te tr) σ S H (fun k => m fun a => m' fun b => k (a :: b)) (aAll R) := fun S1 H1 s g ps k z hm Q q =>
  h S1 H1 s g ps _ z hm _ fun a v S2 H2 s2 g2 p2 r hm2 => h' S2 H2 s2 (g.tr g2) p2 _ z hm2 _ fun b vs S3 H3 s3 g3 p3 r3 hm3 => q (a :: b) (v :: vs) S3 H3 s3 (g2.tr g3) p3 (.cons (Mo.mo g3.s r) r3) hm3
/-- how many values there are -/
def ArN (n : Nat) (A : Rq α) : Prop := ∀ a vs S, A a vs S → vs.length ≤ n
theorem arN_nil : ArN 0 aNil := fun _ vs _ h => by rw [show vs = [] from h]; exact Nat.le_refl _
theorem arN_one {R : Rp α} : ArN 1 (aOne R) := fun _ vs _ ⟨v, e, _⟩ => by rw [e]; exact Nat.le_refl _
theorem arN_cons {n : Nat} {R : Rp α} {A : Rq γ} (h : ArN n A) : ArN (n + 1) (aCons R A) := fun _ vs _ ⟨v, r, e, _, h2⟩ => by
  rw [e]
  exact Nat.succ_le_succ (h _ _ _ h2)
theorem e_tup {m : (α → μ β) → μ β} {A : Rq α} {t : TA} {n : Nat} [Mo A] (h : EvA p t σ S H m A) (hn : ArN n A) (hz : n ≤ sizeLine) : Ev p (tTup t) σ S H m (rT K A) := fun S1 H1 s g ps k z hm Q q =>
  h S1 H1 s g ps k z hm _ fun a vs S2 H2 s2 g2 p2 r hm2 => ⟨Nat.le_trans (hn _ _ _ r) hz, fun x hx =>
    have g3 : Gm p.M S2 H2 (upd S2 x (.tup vs)) (upd H2 x (.tup vs)) := Gm.new g2.i hx
    q a _ _ _ s2 (g2.tr g3) (p2.go (Gm.new g2.i hx)) ⟨x, vs, rfl, .of upd_same, Mo.mo g3.s r⟩ hm2⟩
/-- a display of one kind of items -/
theorem e_tupL {m : (List α → μ β) → μ β} {R : Rp α} {t : TA} [Mo R] (h : EvA p t σ S H m (aAll R)) : Ev p (tTup t) σ S H (fun k => m fun a => Mir.lft (grd (a.length ≤ 16000000)) >>= fun _ => k a) (rT K (aAll R)) := fun S1 H1 s g ps k z hm Q q =>
  h S1 H1 s g ps _ z hm _ fun a vs S2 H2 s2 g2 p2 r hm2 => by
    obtain ⟨_, e, hm2⟩ := run_of_lft hm2
    have hl := grd_of e
    have hr : All R S2 a vs := r
    refine ⟨by rw [← hr.len, sizeLine_eq]; omega, fun x hx => ?_⟩
    have g3 : Gm p.M S2 H2 (upd S2 x (.tup vs)) (upd H2 x (.tup vs)) := Gm.new g2.i hx
    exact q a _ _ _ s2 (g2.tr g3) (p2.go (Gm.new g2.i hx)) ⟨x, vs, rfl, .of upd_same, Mo.mo (R := aAll R) g3.s r⟩ hm2
theorem new_nM {s : τ} (ps : PotAt p s S H) {x : Addr} (hx : H x = none) : x ∉ p.M := fun z => by
  rw [← p.adr s] at z
  obtain ⟨c, hc, e⟩ := List.mem_map.mp z
  have := (ps c hc).1
  rw [e, hx] at this; cases this
theorem l_lst {m : (α → μ β) → μ β} {A : Rq α} {t : TA} {n : Nat} [Mo A] (h : EvA p t σ S H m A) (hn : ArN n A) (hz : n ≤ sizeLine) : EvL p (tLst t) σ S H m A := fun S1 H1 s g ps k z hm Q q =>
  h S1 H1 s g ps k z hm _ fun a vs S2 H2 s2 g2 p2 r hm2 => ⟨Nat.le_trans (hn _ _ _ r) hz, fun x hx =>
    have g3 : Gm p.M S2 H2 S2 (upd H2 x (.lst vs)) := Gm.own g2.i hx
    have n1 : H1 x = none := by
      cases e : H1 x with
      | none => rfl
      | some u => obtain ⟨u', e'⟩ := g2.t x u e; rw [hx] at e'; cases e'
    q a x vs S2 _ s2 (g2.tr g3) (p2.go (Gm.own g2.i hx)) n1 upd_same (g2.i.no hx) (new_nM p2 hx) r hm2⟩
theorem l_lstL {m : (List α → μ β) → μ β} {R : Rp α} {t : TA} [Mo R] (h : EvA p t σ S H m (aAll R)) : EvL p (tLst t) σ S H (fun k => m fun a => Mir.lft (grd (a.length ≤ 16000000)) >>= fun _ => k a) (aAll R) := fun S1 H1 s g ps k z hm Q q =>
  h S1 H1 s g ps _ z hm _ fun a vs S2 H2 s2 g2 p2 r hm2 => by
    obtain ⟨_, e, hm2⟩ := run_of_lft hm2
    have hl := grd_of e
    have hr : All R S2 a vs := r
    refine ⟨by rw [← hr.len, sizeLine_eq]; omega, fun x hx => ?_⟩
    have g3 : Gm p.M S2 H2 S2 (upd H2 x (.lst vs)) := Gm.own g2.i hx
    have n1 : H1 x = none := by
      cases e : H1 x with
      | none => rfl
      | some u => obtain ⟨u', e'⟩ := g2.t x u e; rw [hx] at e'; cases e'
    exact q a x vs S2 _ s2 (g2.tr g3) (p2.go (Gm.own g2.i hx)) n1 upd_same (g2.i.no hx) (new_nM p2 hx) r hm2

/-! ### tests, choices -/
theorem t_B {m : (Bool → μ β) → μ β} (h : Ev p te σ S H m rB) : EvT p (tB te) σ S H m := fun S1 H1 s g ps k z hm Q q =>
  h S1 H1 s g ps k z hm _ fun b v S2 H2 s2 g2 p2 r hm2 => ⟨b, r, q b S2 H2 s2 g2 p2 hm2⟩
theorem t_Test {m : (Bool → μ β) → μ β} (h : Ev p te σ S H m rB) : EvT p (tTest te) σ S H m := fun S1 H1 s g ps k z hm Q q =>
  h S1 H1 s g ps k z hm _ fun b v S2 H2 s2 g2 p2 r hm2 => ⟨b, r, q b S2 H2 s2 g2 p2 hm2⟩
theorem EvT.go {m : (Bool → μ β) → μ β} {S1 H1 : Hp} (h : EvT p tt σ S H m) (g : Gm p.M S H S1 H1) : EvT p tt σ S1 H1 m := fun S2 H2 s g2 ps => h S2 H2 s (g.tr g2) ps
theorem t_and {tu : TT} {m : (Bool → μ β) → μ β} {m' : (Bool → μ Bool) → μ Bool} (h : EvT p tt σ S H m) (h' : EvT p tu σ S H m') : EvT p (tAnd tt tu) σ S H (fun k => m fun a => (if a = true then m' pure else pure false) >>= k) := fun S1 H1 s g ps k z hm Q q =>
  h S1 H1 s g ps _ z hm _ fun b S2 H2 s2 g2 p2 hm2 => by
    obtain ⟨c, s3, e1, e2⟩ := run_of_bind hm2
    cases b with
    | true => exact iteT (h' S2 H2 s2 (g.tr g2) p2 pure (c, s3) (by simpa using e1) Q fun d S3 H3 s4 g3 p3 hm3 => by cases run_of_pure hm3; exact q _ S3 H3 _ (g2.tr g3) p3 e2)
    | false => exact iteF (by cases run_of_pure (show Mir.run (pure false : μ Bool) s2 = some (c, s3) by simpa using e1); exact q _ S2 H2 _ g2 p2 e2)
theorem t_or {tu : TT} {m : (Bool → μ β) → μ β} {m' : (Bool → μ Bool) → μ Bool} (h : EvT p tt σ S H m) (h' : EvT p tu σ S H m') : EvT p (tOr tt tu) σ S H (fun k => m fun a => (if a = true then pure true else m' pure) >>= k) := fun S1 H1 s g ps k z hm Q q =>
  h S1 H1 s g ps _ z hm _ fun b S2 H2 s2 g2 p2 hm2 => by
    obtain ⟨c, s3, e1, e2⟩ := run_of_bind hm2
    cases b with
    | true => exact iteT (by cases run_of_pure (show Mir.run (pure true : μ Bool) s2 = some (c, s3) by simpa using e1); exact q _ S2 H2 _ g2 p2 e2)
    | false => exact iteF (h' S2 H2 s2 (g.tr g2) p2 pure (c, s3) (by simpa using e1) Q fun d S3 H3 s4 g3 p3 hm3 => by cases run_of_pure hm3; exact q _ S3 H3 _ (g2.tr g3) p3 e2)
/-- the second one is asked without a condition -/
theorem t_andT {tu : TT} {m : (Bool → μ β) → μ β} {c : Bool} (h : EvT p tt σ S H m) (h' : EvT (μ := μ) (β := β) p tu σ S H (fun k => k c)) : EvT p (tAnd tt tu) σ S H (fun k => m fun a => k (a && c)) := fun S1 H1 s g ps k z hm Q q =>
  h S1 H1 s g ps _ z hm _ fun b S2 H2 s2 g2 p2 hm2 => by
    cases b with
    | true => exact iteT (h' S2 H2 s2 (g.tr g2) p2 k z (by simpa using hm2) Q fun d S3 H3 s3 g3 p3 hm3 => q d S3 H3 s3 (g2.tr g3) p3 hm3)
    | false => exact iteF (q false S2 H2 s2 g2 p2 (by simpa using hm2))
theorem t_orT {tu : TT} {m : (Bool → μ β) → μ β} {c : Bool} (h : EvT p tt σ S H m) (h' : EvT (μ := μ) (β := β) p tu σ S H (fun k => k c)) : EvT p (tOr tt tu) σ S H (fun k => m fun a => k (a || c)) := fun S1 H1 s g ps k z hm Q q =>
  h S1 H1 s g ps _ z hm _ fun b S2 H2 s2 g2 p2 hm2 => by
    cases b with
    | true => exact iteT (q true S2 H2 s2 g2 p2 (by simpa using hm2))
    | false => exact iteF (h' S2 H2 s2 (g.tr g2) p2 k z (by simpa using hm2) Q fun d S3 H3 s3 g3 p3 hm3 => q d S3 H3 s3 (g2.tr g3) p3 hm3)
theorem t_not {m : (Bool → μ β) → μ β} (h : EvT p tt σ S H m) : EvT p (tNot tt) σ S H (fun k => m fun a => k (!a)) := fun S1 H1 s g ps k z hm Q q =>
  h S1 H1 s g ps _ z hm _ fun b S2 H2 s2 g2 p2 hm2 => q (!b) S2 H2 s2 g2 p2 hm2
theorem e_and {m : (Bool → μ β) → μ β} {m' : (Bool → μ Bool) → μ Bool} (h : Ev p ta σ S H m rB) (h' : Ev p tb σ S H m' rB) : Ev p (tAndV ta tb) σ S H (fun k => m fun a => (if a = true then m' pure else pure false) >>= k) rB := fun S1 H1 s g ps k z hm Q q =>
  h S1 H1 s g ps _ z hm _ fun b v S2 H2 s2 g2 p2 r hm2 => ⟨b, r, by
    obtain ⟨c, s3, e1, e2⟩ := run_of_bind hm2
    cases b with
    | true => exact iteT (h' S2 H2 s2 (g.tr g2) p2 pure (c, s3) (by simpa using e1) Q fun d u S3 H3 s4 g3 p3 r3 hm3 => by cases run_of_pure hm3; exact q _ u S3 H3 _ (g2.tr g3) p3 r3 e2)
    | false => exact iteF (by cases run_of_pure (show Mir.run (pure false : μ Bool) s2 = some (c, s3) by simpa using e1); exact q _ _ S2 H2 _ g2 p2 rfl e2)⟩
theorem e_or {m : (Bool → μ β) → μ β} {m' : (Bool → μ Bool) → μ Bool} (h : Ev p ta σ S H m rB) (h' : Ev p tb σ S H m' rB) : Ev p (tOrV ta tb) σ S H (fun k => m fun a => (if a = true then pure true else m' pure) >>= k) rB := fun S1 H1 s g ps k z hm Q q =>
  h S1 H1 s g ps _ z hm _ fun b v S2 H2 s2 g2 p2 r hm2 => ⟨b, r, by
    obtain ⟨c, s3, e1, e2⟩ := run_of_bind hm2
    cases b with
    | true => exact iteT (by cases run_of_pure (show Mir.run (pure true : μ Bool) s2 = some (c, s3) by simpa using e1); exact q _ _ S2 H2 _ g2 p2 rfl e2)
    | false => exact iteF (h' S2 H2 s2 (g.tr g2) p2 pure (c, s3) (by simpa using e1) Q fun d u S3 H3 s4 g3 p3 r3 hm3 => by cases run_of_pure hm3; exact q _ u S3 H3 _ (g2.tr g3) p3 r3 e2)⟩
theorem e_andT {m : (Bool → μ β) → μ β} {c : Bool} (h : Ev p ta σ S H m rB) (h' : Ev (μ := μ) (β := β) p tb σ S H (fun k => k c) rB) : Ev p (tAndV ta tb) σ S H (fun k => m fun a => k (a && c)) rB := fun S1 H1 s g ps k z hm Q q =>
  h S1 H1 s g ps _ z hm _ fun b v S2 H2 s2 g2 p2 r hm2 => ⟨b, r, by
    cases b with
    | true => exact iteT (h' S2 H2 s2 (g.tr g2) p2 k z (by simpa using hm2) Q fun d u S3 H3 s3 g3 p3 r3 hm3 => q d u S3 H3 s3 (g2.tr g3) p3 r3 hm3)
    | false => exact iteF (q false _ S2 H2 s2 g2 p2 rfl (by simpa using hm2))⟩
theorem e_orT {m : (Bool → μ β) → μ β} {c : Bool} (h : Ev p ta σ S H m rB) (h' : Ev (μ := μ) (β := β) p tb σ S H (fun k => k c) rB) : Ev p (tOrV ta tb) σ S H (fun k => m fun a => k (a || c)) rB := fun S1 H1 s g ps k z hm Q q =>
  h S1 H1 s g ps _ z hm _ fun b v S2 H2 s2 g2 p2 r hm2 => ⟨b, r, by
    cases b with
    | true => exact iteT (q true _ S2 H2 s2 g2 p2 rfl (by simpa using hm2))
    | false => exact iteF (h' S2 H2 s2 (g.tr g2) p2 k z (by simpa using hm2) Q fun d u S3 H3 s3 g3 p3 r3 hm3 => q d u S3 H3 s3 (g2.tr g3) p3 r3 hm3)⟩
theorem e_not {m : (Bool → μ β) → μ β} (h : Ev p ta σ S H m rB) : Ev p (tNotV ta) σ S H (fun k => m fun a => k (!a)) rB := fun S1 H1 s g ps k z hm Q q =>
  h S1 H1 s g ps _ z hm _ fun b v S2 H2 s2 g2 p2 r hm2 => ⟨b, r, q _ _ S2 H2 s2 g2 p2 rfl hm2⟩
/-- a if t else b: the ways meet again -/
theorem e_if {mt : (Bool → μ β) → μ β} {ma mb : (α → μ α) → μ α} {R : Rp α} (h : EvT p tt σ S H mt) (h1 : Ev p ta σ S H ma R) (h2 : Ev p tb σ S H mb R) :
    Ev p (tIf tt ta tb) σ S H (fun k => mt fun b => (if b = true then ma pure else mb pure) >>= k) R := fun S1 H1 s g ps k z hm Q q =>
  h S1 H1 s g ps _ z hm _ fun b S2 H2 s2 g2 p2 hm2 => by
    obtain ⟨a, s3, e1, e2⟩ := run_of_bind hm2
    cases b with
    | true => exact iteT (h1 S2 H2 s2 (g.tr g2) p2 pure (a, s3) (by simpa using e1) Q fun c u S3 H3 s4 g3 p3 r3 hm3 => by cases run_of_pure hm3; exact q _ u S3 H3 _ (g2.tr g3) p3 r3 e2)
    | false => exact iteF (h2 S2 H2 s2 (g.tr g2) p2 pure (a, s3) (by simpa using e1) Q fun c u S3 H3 s4 g3 p3 r3 hm3 => by cases run_of_pure hm3; exact q _ u S3 H3 _ (g2.tr g3) p3 r3 e2)
/-- both ways are asked without a condition -/
theorem e_ifT {mt : (Bool → μ β) → μ β} {x y : α} {R : Rp α} (h : EvT p tt σ S H mt) (h1 : Ev (μ := μ) (β := β) p ta σ S H (fun k => k x) R) (h2 : Ev (μ := μ) (β := β) p tb σ S H (fun k => k y) R) :
    Ev p (tIf tt ta tb) σ S H (fun k => mt fun b => k (if b = true then x else y)) R := fun S1 H1 s g ps k z hm Q q =>
  h S1 H1 s g ps _ z hm _ fun b S2 H2 s2 g2 p2 hm2 => by
    cases b with
    | true => exact iteT (h1 S2 H2 s2 (g.tr g2) p2 k z (by simpa using hm2) Q fun c u S3 H3 s4 g3 p3 r3 hm3 => q _ u S3 H3 _ (g2.tr g3) p3 r3 hm3)
    | false => exact iteF (h2 S2 H2 s2 (g.tr g2) p2 k z (by simpa using hm2) Q fun c u S3 H3 s4 g3 p3 r3 hm3 => q _ u S3 H3 _ (g2.tr g3) p3 r3 hm3)
theorem l_if {mt : (Bool → μ β) → μ β} {ma mb : (α → μ α) → μ α} {A : Rq α} (h : EvT p tt σ S H mt) (h1 : EvL p ta σ S H ma A) (h2 : EvL p tb σ S H mb A) :
    EvL p (tIf tt ta tb) σ S H (fun k => mt fun b => (if b = true then ma pure else mb pure) >>= k) A := fun S1 H1 s g ps k z hm Q q =>
  h S1 H1 s g ps _ z hm _ fun b S2 H2 s2 g2 p2 hm2 => by
    obtain ⟨a, s3, e1, e2⟩ := run_of_bind hm2
    have back : ∀ {x : Addr}, H2 x = none → H1 x = none := fun {x} hx => by
      cases e : H1 x with
      | none => rfl
      | some u => obtain ⟨u', e'⟩ := g2.t x u e; rw [hx] at e'; cases e'
    cases b with
    | true => exact iteT (h1 S2 H2 s2 (g.tr g2) p2 pure (a, s3) (by simpa using e1) Q fun c x vs S3 H3 s4 g3 p3 n1 e3 n3 m3 r3 hm3 => by cases run_of_pure hm3; exact q _ x vs S3 H3 _ (g2.tr g3) p3 (back n1) e3 n3 m3 r3 e2)
    | false => exact iteF (h2 S2 H2 s2 (g.tr g2) p2 pure (a, s3) (by simpa using e1) Q fun c x vs S3 H3 s4 g3 p3 n1 e3 n3 m3 r3 hm3 => by cases run_of_pure hm3; exact q _ x vs S3 H3 _ (g2.tr g3) p3 (back n1) e3 n3 m3 r3 e2)
end
end Wk
set_option Elab.async false
set_option maxRecDepth 100000
set_option maxHeartbeats 4000000
set_option linter.all false
/-! W2: targets, statements, loops, comprehensions -/
namespace Wk
open PySem L2
open PyProof.Rows hiding St
section
variable {μ : Type → Type} {τ : Type} [Mir μ τ] {α β γ δ ζ : Type} {p : Pt τ} {σ : St} {S H S0 H0 : Hp} {te ta tb : TE} {tt : TT} {L : List (Addr × HO)} {K : PySem.W.Frag} {tz tu tw : TS} {D : Ends} {s : τ} {z : β × τ}

/-! ### targets: what an item is, how the slots then stand -/
def Tg (g : TG) (R : Rp α) (P : α → St → St → Hp → Prop) : Prop := ∀ a v σ S H (Q : St → Hp → Prop), Ex S H → R a v S → (∀ σ', P a σ σ' S → Q σ' H) → g v σ H Q
def pN (j : Nat) (R : Rp α) : α → St → St → Hp → Prop := fun a σ σ' S => ∃ v, σ' = σ.set j (some v) ∧ R a v S
theorem g_nm {j : Nat} {R : Rp α} : Tg (gName j) R (pN j R) := fun _ v _ _ _ _ _ r q => q _ ⟨v, rfl, r⟩
/-- the items of a tuple, one after another -/
def TgQ (n : Nat) (g : TGs) (A : Rq α) (P : α → St → St → Hp → Prop) : Prop := ∀ a vs σ S H (Q : St → Hp → Prop), Ex S H → A a vs S → vs.length = n ∧ ((∀ σ', P a σ σ' S → Q σ' H) → g vs σ H Q)
theorem gq_one {g : TG} {R : Rp α} {P : α → St → St → Hp → Prop} (h : Tg g R P) : TgQ 1 (gCons g gNil) (aOne R) P := fun a vs σ S H Q e ⟨v, e1, r⟩ => by
  subst e1
  exact ⟨rfl, fun q => ⟨v, [], rfl, h a v σ S H _ e r fun σ' p' => ⟨rfl, q σ' p'⟩⟩⟩
theorem gq_cons {n : Nat} {g : TG} {gs : TGs} {R : Rp α} {A : Rq γ} {P : α → St → St → Hp → Prop} {P' : γ → St → St → Hp → Prop} (h : Tg g R P) (h' : TgQ n gs A P') :
    TgQ (n + 1) (gCons g gs) (aCons R A) (fun x σ σ2 S => ∃ σ1, P x.1 σ σ1 S ∧ P' x.2 σ1 σ2 S) := fun a vs σ S H Q e ⟨v, r, e1, h1, h2⟩ => by
  subst e1
  refine ⟨congrArg Nat.succ (h' a.2 r σ S H Q e h2).1, fun q => ⟨v, r, rfl, h a.1 v σ S H _ e h1 fun σ1 p1 => (h' a.2 r σ1 S H Q e h2).2 fun σ2 p2 => q σ2 ⟨σ1, p1, p2⟩⟩⟩
theorem g_tp {n : Nat} {gs : TGs} {A : Rq α} {P : α → St → St → Hp → Prop} (h : TgQ n gs A P) : Tg (gTup K n gs) (rT K A) P := fun a v σ S H Q e ⟨x, vs, e1, h1, h2⟩ q => by
  subst e1
  exact ⟨x, vs, rfl, sqT_ex e h1, (h a vs σ S H Q e h2).1, (h a vs σ S H Q e h2).2 q⟩

/-- what the slots are told stays told -/
def PMo (P : α → St → St → Hp → Prop) : Prop := ∀ x σ σ' S1 S2, Ex S1 S2 → P x σ σ' S1 → P x σ σ' S2
theorem pm_nm {j : Nat} {R : Rp α} [Mo R] : PMo (pN j R) := fun _ _ _ _ _ e ⟨v, h, r⟩ => ⟨v, h, Mo.mo e r⟩
theorem pm_cons {P : α → St → St → Hp → Prop} {P' : γ → St → St → Hp → Prop} (h : PMo P) (h' : PMo P') : PMo (fun (x : α × γ) σ σ2 S => ∃ σ1, P x.1 σ σ1 S ∧ P' x.2 σ1 σ2 S) :=
  fun _ _ _ _ _ e ⟨σ1, a, b⟩ => ⟨σ1, h _ _ _ _ _ e a, h' _ _ _ _ _ e b⟩

/-! ### statements -/
theorem nx_done (h : tz D σ H) : tNext { D with nx := tz D } σ H := h
theorem q_set {i : Nat} {m : (α → μ β) → μ β} {R : Rp α} {k : α → μ β} (σ' : V → St) (hσ : ∀ v, σ.set i (some v) = σ' v) (w : Wd p S0 H0 S H L) (ps : PotAt p s S H) (h : Ev p te σ S H m R) (hm : Mir.run (m fun a => bnd a k) s = some z)
    (nx : ∀ a v S1 H1 s1, Wd p S0 H0 S1 H1 L → PotAt p s1 S1 H1 → Gm p.M S H S1 H1 → R a v S1 → Mir.run (k a) s1 = some z → tz D (σ' v) H1) : tSeq (tAsg te (gName i)) tz D σ H :=
  h S H s (Gm.rf w.i) ps _ z hm _ fun a v S1 H1 s1 g p1 r hm1 => by
    have q := nx a v S1 H1 s1 (w.go g) p1 g r hm1
    rw [← hσ v] at q
    exact q
theorem q_setL {i : Nat} {m : (α → μ β) → μ β} {A : Rq α} {k : α → μ β} (σ' : V → St) (hσ : ∀ v, σ.set i (some v) = σ' v) (w : Wd p S0 H0 S H L) (ps : PotAt p s S H) (h : EvL p te σ S H m A) (hm : Mir.run (m fun a => bnd a k) s = some z)
    (nx : ∀ a q vs S1 H1 s1, Wd p S0 H0 S1 H1 ((q, .lst vs) :: L) → PotAt p s1 S1 H1 → Gm p.M S H S1 H1 → A a vs S1 → Mir.run (k a) s1 = some z → tz D (σ' (.ref q)) H1) : tSeq (tAsg te (gName i)) tz D σ H :=
  h S H s (Gm.rf w.i) ps _ z hm _ fun a q vs S1 H1 s1 g p1 n e sn m r hm1 => by
    have q := nx a q vs S1 H1 s1 (w.add g n e sn m) p1 g r hm1
    rw [← hσ] at q
    exact q
/-- some expression is asked, what is wanted of it goes on -/
theorem x_ev {m : (α → μ β) → μ β} {R : Rp α} {k : α → μ β} {Q : VK} (w : Wd p S0 H0 S H L) (ps : PotAt p s S H) (h : Ev p te σ S H m R) (hm : Mir.run (m fun a => bnd a k) s = some z)
    (nx : ∀ a v S1 H1 s1, Wd p S0 H0 S1 H1 L → PotAt p s1 S1 H1 → Gm p.M S H S1 H1 → R a v S1 → Mir.run (k a) s1 = some z → Q v H1) : te σ H Q :=
  h S H s (Gm.rf w.i) ps _ z hm _ fun a v S1 H1 s1 g p1 r hm1 => nx a v S1 H1 s1 (w.go g) p1 g r hm1
theorem x_evL {m : (α → μ β) → μ β} {A : Rq α} {k : α → μ β} {Q : VK} (w : Wd p S0 H0 S H L) (ps : PotAt p s S H) (h : EvL p te σ S H m A) (hm : Mir.run (m fun a => bnd a k) s = some z)
    (nx : ∀ a q vs S1 H1 s1, Wd p S0 H0 S1 H1 ((q, .lst vs) :: L) → PotAt p s1 S1 H1 → Gm p.M S H S1 H1 → A a vs S1 → Mir.run (k a) s1 = some z → Q (.ref q) H1) : te σ H Q :=
  h S H s (Gm.rf w.i) ps _ z hm _ fun a q vs S1 H1 s1 g p1 n e sn m r hm1 => nx a q vs S1 H1 s1 (w.add g n e sn m) p1 g r hm1
theorem par_go {i j : Nat} {t1 t2 : TE} (h : t1 σ H fun x H1 => t2 σ H1 fun y H2 => ∃ v w, [x, y] = [v, w] ∧ tz D ((σ.set i (some v)).set j (some w)) H2) : tSeq (tPar i j (tCons t1 (tCons t2 tNil))) tz D σ H := h
theorem par_end {i j : Nat} {x y : V} (σ' : St) (hσ : (σ.set i (some x)).set j (some y) = σ') (h : tz D σ' H) : ∃ v w, [x, y] = [v, w] ∧ tz D ((σ.set i (some v)).set j (some w)) H := ⟨x, y, rfl, by rw [hσ]; exact h⟩
theorem par3_go {i j l : Nat} {t1 t2 t3 : TE} (h : t1 σ H fun x H1 => t2 σ H1 fun y H2 => t3 σ H2 fun w H3 => ∃ a b c, [x, y, w] = [a, b, c] ∧ tz D (((σ.set i (some a)).set j (some b)).set l (some c)) H3) : tSeq (tPar3 i j l (tCons t1 (tCons t2 (tCons t3 tNil)))) tz D σ H := h
theorem par3_end {i j l : Nat} {x y w : V} (σ' : St) (hσ : ((σ.set i (some x)).set j (some y)).set l (some w) = σ') (h : tz D σ' H) : ∃ a b c, [x, y, w] = [a, b, c] ∧ tz D (((σ.set i (some a)).set j (some b)).set l (some c)) H := ⟨x, y, w, rfl, by rw [hσ]; exact h⟩
/-- a, b, .. = x, y, ..: the tuple is made -/
def gSeq : List Nat → TGs
  | [] => gNil
  | i :: is => gCons (gName i) (gSeq is)
def setAll : St → List Nat → List V → St
  | σ, i :: is, v :: vs => setAll (σ.set i (some v)) is vs
  | σ, _, _ => σ
theorem gSeq_go {Q : St → Hp → Prop} : ∀ (is : List Nat) (vs : List V) (σ : St) (H : Hp), is.length = vs.length → Q (setAll σ is vs) H → gSeq is vs σ H Q
  | [], [], σ, H, _, h => ⟨rfl, h⟩
  | i :: is, v :: vs, σ, H, e, h => ⟨v, vs, rfl, gSeq_go is vs (σ.set i (some v)) H (by simpa using e) h⟩
  | [], _ :: _, _, _, e, _ => by simp at e
  | _ :: _, [], _, _, e, _ => by simp at e
theorem tup_end {is : List Nat} {vs : List V} {Q : St → Hp → Prop} (σ' : St) (w : Wd p S0 H0 S H L) (ps : PotAt p s S H) (hl : is.length = vs.length) (hz : vs.length ≤ 1000) (hσ : setAll σ is vs = σ')
    (nx : ∀ S1 H1, Wd p S0 H0 S1 H1 L → PotAt p s S1 H1 → Gm p.M S H S1 H1 → Q σ' H1) :
    vs.length ≤ sizeLine ∧ ∀ x, H x = none → gTup K is.length (gSeq is) (.ref x) σ (upd H x (.tup vs)) Q :=
  ⟨Nat.le_trans hz (by decide), fun x hx => ⟨x, vs, rfl, .of upd_same, hl.symm, gSeq_go is vs σ _ hl (by
    rw [hσ]
    exact nx (upd S x (.tup vs)) _ (w.go (Gm.new w.i hx)) (ps.go (Gm.new w.i hx)) (Gm.new w.i hx))⟩⟩
/-- a, b = e -/
theorem q_unp {g : TG} {m : (α → μ β) → μ β} {R : Rp α} {P : α → St → St → Hp → Prop} {k : α → μ β} (w : Wd p S0 H0 S H L) (ps : PotAt p s S H) (h : Ev p te σ S H m R) (hg : Tg g R P) (hm : Mir.run (m fun a => bnd a k) s = some z)
    (nx : ∀ a σ' S1 H1 s1, Wd p S0 H0 S1 H1 L → PotAt p s1 S1 H1 → Gm p.M S H S1 H1 → P a σ σ' S1 → Mir.run (k a) s1 = some z → tz D σ' H1) : tSeq (tAsg te g) tz D σ H :=
  h S H s (Gm.rf w.i) ps _ z hm _ fun a v S1 H1 s1 g1 p1 r hm1 => hg a v σ S1 H1 _ g1.i r fun σ' hp => nx a σ' S1 H1 s1 (w.go g1) p1 g1 hp hm1
/-- a, b = x, y of two plain local names -/
theorem q_par {i j : Nat} {ta : TA} {m : (α × γ → μ β) → μ β} {R : Rp α} {R' : Rp γ} {k : α → γ → μ β} (w : Wd p S0 H0 S H L) (ps : PotAt p s S H) (h : EvA p ta σ S H m (aCons R (aOne R'))) (hm : Mir.run (m fun a => bnd a.1 fun x => bnd a.2 fun y => k x y) s = some z)
    (nx : ∀ a b v u S1 H1 s1, Wd p S0 H0 S1 H1 L → PotAt p s1 S1 H1 → Gm p.M S H S1 H1 → R a v S1 → R' b u S1 → Mir.run (k a b) s1 = some z → tz D ((σ.set i (some v)).set j (some u)) H1) : tSeq (tPar i j ta) tz D σ H :=
  h S H s (Gm.rf w.i) ps _ z hm _ fun a vs S1 H1 s1 g p1 r hm1 => by
    obtain ⟨v, r, e1, r1, u, e2, r2⟩ := r
    subst e2
    subst e1
    exact ⟨v, u, rfl, nx a.1 a.2 v u S1 H1 s1 (w.go g) p1 g r1 r2 hm1⟩
theorem q_drop {m : (α → μ β) → μ β} {R : Rp α} {k : μ β} (w : Wd p S0 H0 S H L) (ps : PotAt p s S H) (h : Ev p te σ S H m R) (hm : Mir.run (m fun _ => k) s = some z)
    (nx : ∀ S1 H1 s1, Wd p S0 H0 S1 H1 L → PotAt p s1 S1 H1 → Gm p.M S H S1 H1 → Mir.run k s1 = some z → tz D σ H1) : tSeq (tDrop te) tz D σ H :=
  h S H s (Gm.rf w.i) ps _ z hm _ fun a v S1 H1 s1 g p1 r hm1 => nx S1 H1 s1 (w.go g) p1 g hm1
theorem q_ret {m : (α → μ β) → μ β} {R : Rp α} {k : α → μ β} (w : Wd p S0 H0 S H L) (ps : PotAt p s S H) (h : Ev p te σ S H m R) (hm : Mir.run (m fun a => bnd a k) s = some z)
    (nx : ∀ a v S1 H1 s1, Wd p S0 H0 S1 H1 L → PotAt p s1 S1 H1 → Gm p.M S H S1 H1 → R a v S1 → Mir.run (k a) s1 = some z → D.rt v H1) : tSeq (tRet te) tz D σ H :=
  h S H s (Gm.rf w.i) ps _ z hm _ fun a v S1 H1 s1 g p1 r hm1 => nx a v S1 H1 s1 (w.go g) p1 g r hm1
/-- a new list is handed back -/
theorem q_retL {m : (α → μ β) → μ β} {A : Rq α} {k : α → μ β} (w : Wd p S0 H0 S H L) (ps : PotAt p s S H) (h : EvL p te σ S H m A) (hm : Mir.run (m fun a => bnd a k) s = some z)
    (nx : ∀ a q vs S1 H1 s1, Wd p S0 H0 S1 H1 ((q, .lst vs) :: L) → PotAt p s1 S1 H1 → Gm p.M S H S1 H1 → A a vs S1 → Mir.run (k a) s1 = some z → D.rt (.ref q) H1) : tSeq (tRet te) tz D σ H :=
  h S H s (Gm.rf w.i) ps _ z hm _ fun a q vs S1 H1 s1 g p1 n e sn m r hm1 => nx a q vs S1 H1 s1 (w.add g n e sn m) p1 g r hm1
theorem q_retO {i : Nat} {q : Addr} {a : α} {k : α → μ β} (e : σ[i]? = some (some (.ref q))) (hm : Mir.run (bnd a k) s = some z)
    (nx : Mir.run (k a) s = some z → D.rt (.ref q) H) : tSeq (tRet (tVar i)) tz D σ H := ⟨.ref q, e, nx hm⟩
theorem q_retN (h : D.rt .non H) : tSeq tRetN tz D σ H := h
/-- if: each way goes on by itself -/
theorem q_if {m : (Bool → μ β) → μ β} {A B : μ β} (w : Wd p S0 H0 S H L) (ps : PotAt p s S H) (h : EvT p tt σ S H m) (hm : Mir.run (m fun b => if b = true then A else B) s = some z)
    (h1 : ∀ S1 H1 s1, Wd p S0 H0 S1 H1 L → PotAt p s1 S1 H1 → Gm p.M S H S1 H1 → Mir.run A s1 = some z → tu { D with nx := tz D } σ H1)
    (h2 : ∀ S1 H1 s1, Wd p S0 H0 S1 H1 L → PotAt p s1 S1 H1 → Gm p.M S H S1 H1 → Mir.run B s1 = some z → tw { D with nx := tz D } σ H1) : tSeq (tIfS tt tu tw) tz D σ H :=
  h S H s (Gm.rf w.i) ps _ z hm _ fun b S1 H1 s1 g p1 hm1 => by
    cases b with
    | true => exact iteT (h1 S1 H1 s1 (w.go g) p1 g (by simpa using hm1))
    | false => exact iteF (h2 S1 H1 s1 (w.go g) p1 g (by simpa using hm1))
/-- if: the ways meet again with what they changed -/
theorem q_ifj {m : (Bool → μ β) → μ β} {A B : μ ζ} {k : ζ → μ β} (Iv : ζ → St → Hp → Hp → τ → Prop) (w : Wd p S0 H0 S H L) (ps : PotAt p s S H) (h : EvT p tt σ S H m) (hm : Mir.run (m fun b => (if b = true then A else B) >>= k) s = some z)
    (h1 : ∀ S1 H1 s1 st s2 (D' : Ends), Wd p S0 H0 S1 H1 L → PotAt p s1 S1 H1 → Gm p.M S H S1 H1 → Mir.run A s1 = some (st, s2) → (∀ σ' S' H', Iv st σ' S' H' s2 → D'.nx σ' H') → tu D' σ H1)
    (h2 : ∀ S1 H1 s1 st s2 (D' : Ends), Wd p S0 H0 S1 H1 L → PotAt p s1 S1 H1 → Gm p.M S H S1 H1 → Mir.run B s1 = some (st, s2) → (∀ σ' S' H', Iv st σ' S' H' s2 → D'.nx σ' H') → tw D' σ H1)
    (nx : ∀ st σ' S1 H1 s1, Iv st σ' S1 H1 s1 → Mir.run (k st) s1 = some z → tz D σ' H1) : tSeq (tIfS tt tu tw) tz D σ H :=
  h S H s (Gm.rf w.i) ps _ z hm _ fun b S1 H1 s1 g p1 hm1 => by
    obtain ⟨st, s2, e1, e2⟩ := run_of_bind hm1
    cases b with
    | true => exact iteT (h1 S1 H1 s1 st s2 _ (w.go g) p1 g (by simpa using e1) fun σ' S' H' iv => nx st σ' S' H' s2 iv e2)
    | false => exact iteF (h2 S1 H1 s1 st s2 _ (w.go g) p1 g (by simpa using e1) fun σ' S' H' iv => nx st σ' S' H' s2 iv e2)

theorem tup2_go {t1 t2 : TE} {g : TG} (h : t1 σ H fun x1 H1 => t2 σ H1 fun x2 H2 => [x1, x2].length ≤ sizeLine ∧ ∀ y, H2 y = none → g (.ref y) σ (upd H2 y (.tup [x1, x2])) (tz D)) : tSeq (tAsg (tTup (tCons t1 (tCons t2 tNil))) g) tz D σ H := h
theorem tup3_go {t1 t2 t3 : TE} {g : TG} (h : t1 σ H fun x1 H1 => t2 σ H1 fun x2 H2 => t3 σ H2 fun x3 H3 => [x1, x2, x3].length ≤ sizeLine ∧ ∀ y, H3 y = none → g (.ref y) σ (upd H3 y (.tup [x1, x2, x3])) (tz D)) : tSeq (tAsg (tTup (tCons t1 (tCons t2 (tCons t3 tNil)))) g) tz D σ H := h
theorem tup4_go {t1 t2 t3 t4 : TE} {g : TG} (h : t1 σ H fun x1 H1 => t2 σ H1 fun x2 H2 => t3 σ H2 fun x3 H3 => t4 σ H3 fun x4 H4 => [x1, x2, x3, x4].length ≤ sizeLine ∧ ∀ y, H4 y = none → g (.ref y) σ (upd H4 y (.tup [x1, x2, x3, x4])) (tz D)) : tSeq (tAsg (tTup (tCons t1 (tCons t2 (tCons t3 (tCons t4 tNil))))) g) tz D σ H := h
theorem tup5_go {t1 t2 t3 t4 t5 : TE} {g : TG} (h : t1 σ H fun x1 H1 => t2 σ H1 fun x2 H2 => t3 σ H2 fun x3 H3 => t4 σ H3 fun x4 H4 => t5 σ H4 fun x5 H5 => [x1, x2, x3, x4, x5].length ≤ sizeLine ∧ ∀ y, H5 y = none → g (.ref y) σ (upd H5 y (.tup [x1, x2, x3, x4, x5])) (tz D)) : tSeq (tAsg (tTup (tCons t1 (tCons t2 (tCons t3 (tCons t4 (tCons t5 tNil)))))) g) tz D σ H := h
theorem tup6_go {t1 t2 t3 t4 t5 t6 : TE} {g : TG} (h : t1 σ H fun x1 H1 => t2 σ H1 fun x2 H2 => t3 σ H2 fun x3 H3 => t4 σ H3 fun x4 H4 => t5 σ H4 fun x5 H5 => t6 σ H5 fun x6 H6 => [x1, x2, x3, x4, x5, x6].length ≤ sizeLine ∧ ∀ y, H6 y = none → g (.ref y) σ (upd H6 y (.tup [x1, x2, x3, x4, x5, x6])) (tz D)) : tSeq (tAsg (tTup (tCons t1 (tCons t2 (tCons t3 (tCons t4 (tCons t5 (tCons t6 tNil))))))) g) tz D σ H := h
theorem tup7_go {t1 t2 t3 t4 t5 t6 t7 : TE} {g : TG} (h : t1 σ H fun x1 H1 => t2 σ H1 fun x2 H2 => t3 σ H2 fun x3 H3 => t4 σ H3 fun x4 H4 => t5 σ H4 fun x5 H5 => t6 σ H5 fun x6 H6 => t7 σ H6 fun x7 H7 => [x1, x2, x3, x4, x5, x6, x7].length ≤ sizeLine ∧ ∀ y, H7 y = none → g (.ref y) σ (upd H7 y (.tup [x1, x2, x3, x4, x5, x6, x7])) (tz D)) : tSeq (tAsg (tTup (tCons t1 (tCons t2 (tCons t3 (tCons t4 (tCons t5 (tCons t6 (tCons t7 tNil)))))))) g) tz D σ H := h
theorem tup8_go {t1 t2 t3 t4 t5 t6 t7 t8 : TE} {g : TG} (h : t1 σ H fun x1 H1 => t2 σ H1 fun x2 H2 => t3 σ H2 fun x3 H3 => t4 σ H3 fun x4 H4 => t5 σ H4 fun x5 H5 => t6 σ H5 fun x6 H6 => t7 σ H6 fun x7 H7 => t8 σ H7 fun x8 H8 => [x1, x2, x3, x4, x5, x6, x7, x8].length ≤ sizeLine ∧ ∀ y, H8 y = none → g (.ref y) σ (upd H8 y (.tup [x1, x2, x3, x4, x5, x6, x7, x8])) (tz D)) : tSeq (tAsg (tTup (tCons t1 (tCons t2 (tCons t3 (tCons t4 (tCons t5 (tCons t6 (tCons t7 (tCons t8 tNil))))))))) g) tz D σ H := h

/-! ### lists of one's own are changed -/
theorem ty_own {x : Addr} {vs : List V} (h : H x = some (.lst vs)) : tyV K "list" (.ref x) H := .inl ⟨rfl, _, .of h⟩
theorem q_app {i j : Nat} {q : Addr} {vs : List V} {xs : List α} {m : (α → μ β) → μ β} {R : Rp α} [Mo R] {k : List α → μ β} (w : Wd p S0 H0 S H L) (ps : PotAt p s S H) (hj : L[j]? = some (q, .lst vs)) (e : σ[i]? = some (some (.ref q))) (ha : All R S xs vs) (h : Ev p te σ S H m R)
    (hm : Mir.run (m fun a => Mir.lft (grd (xs.length < 16000000)) >>= fun _ => bnd (xs ++ [a]) k) s = some z)
    (nx : ∀ ys us S1 H1 s1, Wd p S0 H0 S1 H1 (L.set j (q, .lst us)) → PotAt p s1 S1 H1 → Ex S S1 → All R S1 ys us → Mir.run (k ys) s1 = some z → tz D σ H1) : tSeq (tDrop (tBM K "list" rAppend (tVar i) (tCons te tNil))) tz D σ H :=
  ⟨.ref q, e, ty_own (w.at hj).1, h S H s (Gm.rf w.i) ps _ z hm _ fun a v S1 H1 s1 g p1 r hm1 => by
    obtain ⟨_, e1, hm1⟩ := run_of_lft hm1
    have hl := grd_of e1
    have w1 := w.go g
    refine ⟨q, vs, v, rfl, rfl, (w1.at hj).1, by rw [← ha.len, sizeLine_eq]; omega, ?_⟩
    exact nx (xs ++ [a]) (vs ++ [v]) S1 _ s1 (w1.put hj) (p1.put (w.nmAt hj)) g.s ((ha.mo g.s).app (.cons r .nil)) hm1⟩
theorem q_ext {i j : Nat} {q : Addr} {vs : List V} {xs : List α} {m : (List α → μ β) → μ β} {R : Rp α} [Mo R] {k : List α → μ β} (w : Wd p S0 H0 S H L) (ps : PotAt p s S H) (hj : L[j]? = some (q, .lst vs)) (e : σ[i]? = some (some (.ref q))) (ha : All R S xs vs) (h : EvL p te σ S H m (aAll R))
    (hm : Mir.run (m fun a => Mir.lft (grd (xs.length + a.length ≤ 16000000)) >>= fun _ => bnd (xs ++ a) k) s = some z)
    (nx : ∀ ys us S1 H1 s1, Wd p S0 H0 S1 H1 (L.set j (q, .lst us)) → PotAt p s1 S1 H1 → Ex S S1 → All R S1 ys us → Mir.run (k ys) s1 = some z → tz D σ H1) : tSeq (tDrop (tBM K "list" rExtend (tVar i) (tCons te tNil))) tz D σ H :=
  ⟨.ref q, e, ty_own (w.at hj).1, h S H s (Gm.rf w.i) ps _ z hm _ fun a x us S1 H1 s1 g p1 n1 e2 n2 m2 r hm1 => by
    obtain ⟨_, e1, hm1⟩ := run_of_lft hm1
    have hl := grd_of e1
    have w1 := w.go g
    have hr : All R S1 a us := r
    refine ⟨q, x, vs, us, rfl, rfl, (w1.at hj).1, e2, by rw [← ha.len, ← hr.len, sizeLine_eq]; omega, ?_⟩
    exact nx (xs ++ a) (vs ++ us) S1 _ s1 (w1.put hj) (p1.put (w.nmAt hj)) g.s ((ha.mo g.s).app hr) hm1⟩
/-- xs[i] = e -/
theorem q_put {i j : Nat} {q : Addr} {vs : List V} {xs : List α} {m : (α → μ β) → μ β} {mi : (Int → μ β) → μ β} {R : Rp α} [Mo R] {k : List α → μ β} (w : Wd p S0 H0 S H L) (ps : PotAt p s S H) (hj : L[j]? = some (q, .lst vs)) (e : σ[i]? = some (some (.ref q))) (ha : All R S xs vs) (h : Ev p te σ S H m R) (hi : Ev p ta σ S H mi rI)
    (hm : Mir.run (m fun a => mi fun n => Mir.lft (ixN xs.length n) >>= fun o => bnd (xs.set o a) k) s = some z)
    (nx : ∀ ys us S1 H1 s1, Wd p S0 H0 S1 H1 (L.set j (q, .lst us)) → PotAt p s1 S1 H1 → Ex S S1 → All R S1 ys us → Mir.run (k ys) s1 = some z → tz D σ H1) : tSeq (tAsg te (gSub (tVar i) ta rSetL)) tz D σ H :=
  h S H s (Gm.rf w.i) ps _ z hm _ fun a v S1 H1 s1 g p1 r hm1 => ⟨.ref q, e, hi S1 H1 s1 g p1 _ z hm1 _ fun n u S2 H2 s2 g2 p2 r2 hm2 => by
    obtain ⟨o, e1, hm2⟩ := run_of_lft hm2
    have w2 := (w.go g).go g2
    cases (show u = .int n from r2)
    refine ⟨q, vs, n, o, rfl, rfl, (w2.at hj).1, by rw [← ha.len]; exact e1, ?_⟩
    exact nx (xs.set o a) (vs.set o v) S2 _ s2 (w2.put hj) (p2.put (w.nmAt hj)) (g.s.tr g2.s) ((ha.mo (g.s.tr g2.s)).set (Mo.mo g2.s r) o) hm2⟩

/-! ### while -/
def whS : Nat → (ζ → (Bool → μ ζ) → μ ζ) → (ζ → μ ζ) → ζ → μ ζ
  | 0, _, _, _ => Mir.lft none
  | n + 1, c, b, st => c st fun t => if t = true then b st >>= whS n c b else pure st
inductive Ctl (ρ ζ : Type) where
  | go (s : ζ) | brk (s : ζ) | ret (r : ρ)
def aft {ρ β : Type} : Ctl ρ ζ → (ζ → β) → (ρ → β) → β
  | .go s, f, _ => f s
  | .brk s, f, _ => f s
  | .ret r, _, g => g r
def whC {ρ : Type} : Nat → (ζ → (Bool → μ (Ctl ρ ζ)) → μ (Ctl ρ ζ)) → (ζ → μ (Ctl ρ ζ)) → ζ → μ (Ctl ρ ζ)
  | 0, _, _, _ => Mir.lft none
  | n + 1, c, b, st => c st fun t => if t = true then b st >>= fun o => match o with | .go st' => whC n c b st' | x => pure x else pure (.go st)
/-- more turns than any loop has -/
@[irreducible] def many : Nat := 10 ^ 40
theorem q_wh {n : Nat} {c : ζ → (Bool → μ ζ) → μ ζ} {b : ζ → μ ζ} {st0 : ζ} {k : ζ → μ β} (Iv : ζ → St → Hp → Hp → τ → Prop) (h0 : Iv st0 σ S H s) (hm : Mir.run (whS n c b st0 >>= k) s = some z)
    (hc : ∀ st σ1 S1 H1 s1, Iv st σ1 S1 H1 s1 → PotAt p s1 S1 H1 ∧ Ex S1 H1 ∧ EvT p tt σ1 S1 H1 (c st))
    (hg : ∀ st σ1 S1 H1 s1 S2 H2 s2, Iv st σ1 S1 H1 s1 → Gm p.M S1 H1 S2 H2 → PotAt p s2 S2 H2 → Iv st σ1 S2 H2 s2)
    (hb : ∀ st σ1 S1 H1 s1 st' s2 (D' : Ends), Iv st σ1 S1 H1 s1 → Mir.run (b st) s1 = some (st', s2) → (∀ σ' S' H', Iv st' σ' S' H' s2 → D'.nx σ' H' ∧ D'.ct σ' H') → tu D' σ1 H1)
    (nx : ∀ st σ1 S1 H1 s1, Iv st σ1 S1 H1 s1 → Mir.run (k st) s1 = some z → tz D σ1 H1) : tSeq (tWhile tt tu) tz D σ H := by
  obtain ⟨stf, sf, e1, e2⟩ := run_of_bind hm
  refine ⟨fun m σ H => ∃ st S s, Iv st σ S H s ∧ Mir.run (whS m c b st) s = some (stf, sf), ⟨n, st0, S, s, h0, e1⟩, ?_⟩
  rintro m σ1 H1 ⟨st, S1, s1, iv, e⟩
  obtain ⟨p1, x1, t1⟩ := hc st σ1 S1 H1 s1 iv
  cases m with
  | zero =>
    exfalso
    have e' : Mir.run (Mir.lft none : μ ζ) s1 = some (stf, sf) := e
    rw [Mir.run_lft] at e'
    cases e'
  | succ m =>
    refine t1 S1 H1 s1 (Gm.rf x1) p1 _ (stf, sf) e _ fun t S2 H2 s2 g2 p2 hm2 => ?_
    have iv2 := hg st σ1 S1 H1 s1 S2 H2 s2 iv g2 p2
    cases t with
    | true =>
      obtain ⟨st', s3, e3, e4⟩ := run_of_bind (by simpa using hm2)
      refine iteT ⟨fun σ' H' => ∃ S', Iv st' σ' S' H' s3, fun σ' H' ⟨S', i'⟩ => ⟨m, Nat.lt_succ_self m, st', S', s3, i', e4⟩, ?_⟩
      exact hb st σ1 S2 H2 s2 st' s3 _ iv2 e3 fun σ' S' H' i' => ⟨⟨S', i'⟩, ⟨S', i'⟩⟩
    | false =>
      have e3 : Mir.run (pure st : μ ζ) s2 = some (stf, sf) := by simpa using hm2
      cases run_of_pure e3
      exact iteF (nx _ σ1 S2 H2 _ iv2 e2)
/-- with ways out -/
theorem q_whC {ρ : Type} {n : Nat} {c : ζ → (Bool → μ (Ctl ρ ζ)) → μ (Ctl ρ ζ)} {b : ζ → μ (Ctl ρ ζ)} {st0 : ζ} {k : Ctl ρ ζ → μ β} (Iv : ζ → St → Hp → Hp → τ → Prop) (Rt : ρ → V → Hp → τ → Prop) (h0 : Iv st0 σ S H s) (hm : Mir.run (whC n c b st0 >>= k) s = some z)
    (hc : ∀ st σ1 S1 H1 s1, Iv st σ1 S1 H1 s1 → PotAt p s1 S1 H1 ∧ Ex S1 H1 ∧ EvT p tt σ1 S1 H1 (c st))
    (hg : ∀ st σ1 S1 H1 s1 S2 H2 s2, Iv st σ1 S1 H1 s1 → Gm p.M S1 H1 S2 H2 → PotAt p s2 S2 H2 → Iv st σ1 S2 H2 s2)
    (hb : ∀ st σ1 S1 H1 s1 o s2 (D' : Ends), Iv st σ1 S1 H1 s1 → Mir.run (b st) s1 = some (o, s2) →
      (∀ st' σ' S' H', o = .go st' → Iv st' σ' S' H' s2 → D'.nx σ' H' ∧ D'.ct σ' H') → (∀ st' σ' S' H', o = .brk st' → Iv st' σ' S' H' s2 → D'.bk σ' H') → (∀ r v H', o = .ret r → Rt r v H' s2 → D'.rt v H') → tu D' σ1 H1)
    (nx : ∀ st σ1 S1 H1 s1, Iv st σ1 S1 H1 s1 → Mir.run (k (.go st)) s1 = some z ∨ Mir.run (k (.brk st)) s1 = some z → tz D σ1 H1)
    (rt : ∀ r v H1 s1, Rt r v H1 s1 → Mir.run (k (.ret r)) s1 = some z → D.rt v H1) : tSeq (tWhile tt tu) tz D σ H := by
  obtain ⟨of, sf, e1, e2⟩ := run_of_bind hm
  refine ⟨fun m σ H => ∃ st S s, Iv st σ S H s ∧ Mir.run (whC m c b st) s = some (of, sf), ⟨n, st0, S, s, h0, e1⟩, ?_⟩
  rintro m σ1 H1 ⟨st, S1, s1, iv, e⟩
  obtain ⟨p1, x1, t1⟩ := hc st σ1 S1 H1 s1 iv
  cases m with
  | zero =>
    exfalso
    have e' : Mir.run (Mir.lft none : μ (Ctl ρ ζ)) s1 = some (of, sf) := e
    rw [Mir.run_lft] at e'
    cases e'
  | succ m =>
    refine t1 S1 H1 s1 (Gm.rf x1) p1 _ (of, sf) e _ fun t S2 H2 s2 g2 p2 hm2 => ?_
    have iv2 := hg st σ1 S1 H1 s1 S2 H2 s2 iv g2 p2
    cases t with
    | true =>
      obtain ⟨o, s3, e3, e4⟩ := run_of_bind (by simpa using hm2)
      cases o with
      | go st' =>
        have e4' : Mir.run (whC m c b st') s3 = some (of, sf) := e4
        refine iteT ⟨fun σ' H' => ∃ S', Iv st' σ' S' H' s3, fun σ' H' ⟨S', i'⟩ => ⟨m, Nat.lt_succ_self m, st', S', s3, i', e4'⟩, ?_⟩
        refine hb st σ1 S2 H2 s2 _ s3 _ iv2 e3 (fun st2 σ' S' H' q i' => ?_) (fun _ _ _ _ q _ => nomatch q) (fun _ _ _ q _ => nomatch q)
        cases q
        exact ⟨⟨S', i'⟩, ⟨S', i'⟩⟩
      | brk st' =>
        have e4' : Mir.run (pure (Ctl.brk st') : μ (Ctl ρ ζ)) s3 = some (of, sf) := e4
        cases run_of_pure e4'
        refine iteT ⟨fun _ _ => False, fun _ _ q => q.elim, ?_⟩
        refine hb st σ1 S2 H2 s2 _ _ _ iv2 e3 (fun _ _ _ _ q _ => nomatch q) (fun st2 σ' S' H' q i' => ?_) (fun _ _ _ q _ => nomatch q)
        cases q
        exact nx _ _ _ _ _ i' (.inr e2)
      | ret r =>
        have e4' : Mir.run (pure (Ctl.ret r) : μ (Ctl ρ ζ)) s3 = some (of, sf) := e4
        cases run_of_pure e4'
        refine iteT ⟨fun _ _ => False, fun _ _ q => q.elim, ?_⟩
        refine hb st σ1 S2 H2 s2 _ _ _ iv2 e3 (fun _ _ _ _ q _ => nomatch q) (fun _ _ _ _ q _ => nomatch q) (fun r2 v H' q i' => ?_)
        cases q
        exact rt _ _ _ _ i' e2
    | false =>
      have e3 : Mir.run (pure (.go st) : μ (Ctl ρ ζ)) s2 = some (of, sf) := by simpa using hm2
      cases run_of_pure e3
      exact iteF (nx _ σ1 S2 H2 _ iv2 (.inl e2))

/-! ### what is walked -/
abbrev Own := List (Addr × List V)
def OwnOk (p : Pt τ) (H : Hp) (O : Own) : Prop := ∀ c ∈ O, H c.1 = some (.lst c.2) ∧ c.1 ∉ p.M
def ItOk (p : Pt τ) (J : It) (xs : List α) (R : Rp α) (S : Hp) (O : Own) : Prop :=
  ∀ S1 H1, Ex S S1 → Ex S1 H1 → OwnOk p H1 O → (∀ i, i < xs.length → J.go i H1) ∧ J.stop xs.length H1 ∧ ∀ i x v H2, xs[i]? = some x → J.yld i H1 v H2 → ∃ S2, Gm [] S1 H1 S2 H2 ∧ R x v S2
def EvI (p : Pt τ) (wi : TI) (σ : St) (S H : Hp) (m : (List α → μ β) → μ β) (R : Rp α) (O : Own) : Prop :=
  ∀ S1 H1 s, Gm p.M S H S1 H1 → PotAt p s S1 H1 → ∀ (k : List α → μ β) z, Mir.run (m k) s = some z → ∀ Q : It → Hp → Prop,
    (∀ xs J S2 H2 s2, Gm p.M S1 H1 S2 H2 → PotAt p s2 S2 H2 → ItOk p J xs R S2 O → Mir.run (k xs) s2 = some z → Q J H2) → wi σ H1 Q
theorem it_list {q : Addr} {xs : List α} {vs : List V} {R : Rp α} [Mo R] {O : Own} (hl : All R S xs vs) (h : ∀ S1 H1, Ex S S1 → Ex S1 H1 → OwnOk p H1 O → SqL K H1 q vs) : ItOk p (Itl K q) xs R S O := fun S1 H1 e1 e2 o => by
  have hq := h S1 H1 e1 e2 o
  refine ⟨fun i hi => ⟨vs, vs[i]'(by rw [← hl.len]; exact hi), hq, List.getElem?_eq_getElem _⟩, ⟨vs, hq, by rw [hl.len]; exact Nat.le_refl _⟩, fun i x v H2 hx y => ?_⟩
  obtain ⟨e3, y⟩ := y
  subst e3
  obtain ⟨u, hu, ru⟩ := hl.get hx
  rw [y vs hq] at hu
  cases hu
  exact ⟨S1, Gm.rf e2, Mo.mo e1 ru⟩
theorem i_L {m : (List α → μ β) → μ β} {R : Rp α} [Mo R] (h : Ev p te σ S H m (rL (aAll R))) : EvI p (iList K te) σ S H m R [] := fun S1 H1 s g ps k z hm Q q =>
  h S1 H1 s g ps k z hm _ fun a v S2 H2 s2 g2 p2 ⟨x, vs, e, h1, h2⟩ hm2 => ⟨x, e, ⟨vs, .of (g2.i _ _ h1)⟩, q a _ S2 H2 s2 g2 p2 (it_list h2 fun S3 H3 e1 e2 _ => .of (e2 _ _ (e1 _ _ h1))) hm2⟩
theorem i_own {i : Nat} {xs : List α} {q : Addr} {vs : List V} {R : Rp α} [Mo R] (e : σ[i]? = some (some (.ref q))) (hq : H q = some (.lst vs)) (hM : q ∉ p.M) (r : All R S xs vs) : EvI (μ := μ) (β := β) p (iList K (tVar i)) σ S H (fun k => k xs) R [(q, vs)] :=
  fun _ H1 _ g ps _ _ hm _ k => ⟨.ref q, e, q, rfl, ⟨vs, .of (g.h _ _ hM hq)⟩, k _ _ _ _ _ (Gm.rf g.i) ps (it_list (r.mo g.s) fun S3 H3 e1 e2 o => .of (o (q, vs) (by simp)).1) hm⟩
theorem i_T {m : (List α → μ β) → μ β} {R : Rp α} [Mo R] (h : Ev p te σ S H m (rT K (aAll R))) : EvI p (iTup K te) σ S H m R [] := fun S1 H1 s g ps k z hm Q q =>
  h S1 H1 s g ps k z hm _ fun a v S2 H2 s2 g2 p2 ⟨x, vs, e, h1, h2⟩ hm2 => ⟨x, e, ⟨vs, sqT_ex g2.i h1⟩, q a _ S2 H2 s2 g2 p2 (fun S3 H3 e1 e2 _ => by
    have hq := sqT_ex (e1.tr e2) h1
    refine ⟨fun i hi => ⟨vs, vs[i]'(by rw [← h2.len]; exact hi), hq, List.getElem?_eq_getElem _⟩, ⟨vs, hq, by rw [h2.len]; exact Nat.le_refl _⟩, fun i x v H2 hx y => ?_⟩
    obtain ⟨e3, y⟩ := y
    subst e3
    obtain ⟨u, hu, ru⟩ := h2.get hx
    rw [y vs hq] at hu
    cases hu
    exact ⟨S3, Gm.rf e2, Mo.mo e1 ru⟩) hm2⟩
/-- lo, lo + 1, .., below hi -/
def rng (lo hi : Int) : List Int := (List.range (hi - lo).toNat).map fun (i : Nat) => lo + (i : Int)
theorem it_rng {lo : Int} {n : Nat} {O : Own} : ItOk p (Itr lo n) ((List.range n).map fun (i : Nat) => lo + (i : Int)) rI S O := fun S1 H1 _ e2 _ => by
  refine ⟨fun i hi => by show i < n; simpa using hi, by show n ≤ _; simp, fun i x v H2 hx y => ?_⟩
  obtain ⟨e3, y⟩ := y
  subst e3
  subst y
  refine ⟨S1, Gm.rf e2, ?_⟩
  rw [List.getElem?_map] at hx
  have hi : i < n := by
    by_cases h : i < n
    · exact h
    · rw [List.getElem?_eq_none (by simpa using h)] at hx; cases hx
  rw [List.getElem?_eq_getElem (by simpa using hi)] at hx
  simp at hx
  show V.int _ = V.int _
  rw [← hx]
def RgB (i : Int) : Prop := -(2 ^ 62) ≤ i ∧ i < 2 ^ 62
instance (i : Int) : Decidable (RgB i) := inferInstanceAs (Decidable (_ ∧ _))
theorem i_R1 {m : (Int → μ β) → μ β} (h : Ev p te σ S H m rI) : EvI p (iRng1 (tCons te tNil)) σ S H (fun k => m fun n => Mir.lft (grd (RgB n)) >>= fun _ => k (rng 0 n)) rI [] := fun S1 H1 s g ps k z hm Q q =>
  h S1 H1 s g ps _ z hm _ fun n v S2 H2 s2 g2 p2 r hm2 => by
    obtain ⟨_, e, hm2⟩ := run_of_lft hm2
    have hb := grd_of e
    cases (show v = .int n from r)
    refine ⟨n, rfl, hb.1, hb.2, q _ _ S2 H2 s2 g2 p2 ?_ hm2⟩
    unfold rng
    rw [Int.sub_zero]
    exact it_rng
theorem i_R2 {m m' : (Int → μ β) → μ β} (h : Ev p ta σ S H m rI) (h' : Ev p tb σ S H m' rI) : EvI p (iRng2 (tCons ta (tCons tb tNil))) σ S H (fun k => m fun i => m' fun j => Mir.lft (grd (RgB i ∧ RgB j)) >>= fun _ => k (rng i j)) rI [] := fun S1 H1 s g ps k z hm Q q =>
  h S1 H1 s g ps _ z hm _ fun i v S2 H2 s2 g2 p2 r hm2 => h' S2 H2 s2 (g.tr g2) p2 _ z hm2 _ fun j u S3 H3 s3 g3 p3 r3 hm3 => by
    obtain ⟨_, e, hm3⟩ := run_of_lft hm3
    have hb := grd_of e
    cases (show v = .int i from r)
    cases (show u = .int j from r3)
    exact ⟨i, j, rfl, ⟨hb.1.1, hb.1.2, hb.2.1, hb.2.2⟩, q _ _ S3 H3 s3 (g2.tr g3) p3 it_rng hm3⟩

/-! ### for -/
def lpS : List α → (α → ζ → μ ζ) → ζ → μ ζ
  | [], _, st => pure st
  | x :: xs, f, st => f x st >>= lpS xs f
def lpC {ρ : Type} : List α → (α → ζ → μ (Ctl ρ ζ)) → ζ → μ (Ctl ρ ζ)
  | [], _, st => pure (.go st)
  | x :: xs, f, st => f x st >>= fun o => match o with | .go st' => lpC xs f st' | y => pure y
theorem q_for {wi : TI} {g : TG} {O : Own} {m : (List α → μ β) → μ β} {R : Rp α} {P : α → St → St → Hp → Prop} {b : α → ζ → μ ζ} {st0 : ζ} {k : ζ → μ β} (w : Wd p S0 H0 S H L) (ps : PotAt p s S H) (hi : EvI p wi σ S H m R O) (ht : Tg g R P) (hm : Mir.run (m fun xs => lpS xs b st0 >>= k) s = some z)
    (Iv : Hp → ζ → St → Hp → Hp → τ → Prop)
    (h0 : ∀ S1 H1 s1, Wd p S0 H0 S1 H1 L → PotAt p s1 S1 H1 → Gm p.M S H S1 H1 → Iv S1 st0 σ S1 H1 s1)
    (hI : ∀ Sb st σ1 S1 H1 s1, Iv Sb st σ1 S1 H1 s1 → Ex Sb S1 ∧ Ex S1 H1 ∧ PotAt p s1 S1 H1 ∧ OwnOk p H1 O)
    (hg : ∀ Sb st σ1 S1 H1 s1 S2 H2, Iv Sb st σ1 S1 H1 s1 → Gm [] S1 H1 S2 H2 → Iv Sb st σ1 S2 H2 s1)
    (hb : ∀ Sb x st σ1 σ2 S1 H1 s1 st' s2 (D' : Ends), Iv Sb st σ1 S1 H1 s1 → P x σ1 σ2 S1 → Mir.run (b x st) s1 = some (st', s2) → (∀ σ' S' H', Iv Sb st' σ' S' H' s2 → D'.nx σ' H' ∧ D'.ct σ' H') → tu D' σ2 H1)
    (nx : ∀ Sb st σ1 S1 H1 s1, Iv Sb st σ1 S1 H1 s1 → Mir.run (k st) s1 = some z → tz D σ1 H1) : tSeq (tFor wi g tu) tz D σ H :=
  hi S H s (Gm.rf w.i) ps _ z hm _ fun xs J Sb Hb sb gb pb hJ hmb => by
    obtain ⟨stf, sf, e1, e2⟩ := run_of_bind hmb
    refine ⟨fun i m σ H => m = xs.length - i ∧ i ≤ xs.length ∧ ∃ st S s, Iv Sb st σ S H s ∧ Mir.run (lpS (xs.drop i) b st) s = some (stf, sf), ⟨xs.length, by simp, Nat.zero_le _, st0, Sb, sb, h0 Sb Hb sb (w.go gb) pb gb, e1⟩, ?_⟩
    rintro i m σ1 H1 ⟨em, hi, st, S1, s1, iv, e⟩
    subst em
    obtain ⟨x1, x2, p1, o1⟩ := hI _ _ _ _ _ _ iv
    obtain ⟨j1, j2, j3⟩ := hJ S1 H1 x1 x2 o1
    by_cases hlt : i < xs.length
    · have ed : xs.drop i = xs[i] :: xs.drop (i + 1) := List.drop_eq_getElem_cons hlt
      rw [ed] at e
      obtain ⟨st', s2, e3, e4⟩ := run_of_bind (show Mir.run (b xs[i] st >>= lpS (xs.drop (i + 1)) b) s1 = some (stf, sf) from e)
      refine .inr ⟨j1 i hlt, fun σ' H' => ∃ S', Iv Sb st' σ' S' H' s2, fun σ' H' ⟨S', i'⟩ => ⟨xs.length - (i + 1), by omega, rfl, hlt, st', S', s2, i', e4⟩, fun v H2 y => ?_⟩
      obtain ⟨S2, g2, r2⟩ := j3 i xs[i] v H2 (List.getElem?_eq_getElem hlt) y
      exact ht xs[i] v σ1 S2 H2 _ g2.i r2 fun σ2 hp => hb Sb xs[i] st σ1 σ2 S2 H2 s1 st' s2 _ (hg _ _ _ _ _ _ _ _ iv g2) hp e3 fun σ' S' H' i' => ⟨⟨S', i'⟩, ⟨S', i'⟩⟩
    · have ei : i = xs.length := by omega
      subst ei
      rw [List.drop_length] at e
      cases run_of_pure (show Mir.run (pure st : μ ζ) s1 = some (stf, sf) from e)
      exact .inl ⟨j2, nx _ _ _ _ _ _ iv e2⟩
theorem q_forC {ρ : Type} {wi : TI} {g : TG} {O : Own} {m : (List α → μ β) → μ β} {R : Rp α} {P : α → St → St → Hp → Prop} {b : α → ζ → μ (Ctl ρ ζ)} {st0 : ζ} {k : Ctl ρ ζ → μ β} (w : Wd p S0 H0 S H L) (ps : PotAt p s S H) (hi : EvI p wi σ S H m R O) (ht : Tg g R P) (hm : Mir.run (m fun xs => lpC xs b st0 >>= k) s = some z)
    (Iv : Hp → ζ → St → Hp → Hp → τ → Prop) (Rt : ρ → V → Hp → τ → Prop)
    (h0 : ∀ S1 H1 s1, Wd p S0 H0 S1 H1 L → PotAt p s1 S1 H1 → Gm p.M S H S1 H1 → Iv S1 st0 σ S1 H1 s1)
    (hI : ∀ Sb st σ1 S1 H1 s1, Iv Sb st σ1 S1 H1 s1 → Ex Sb S1 ∧ Ex S1 H1 ∧ PotAt p s1 S1 H1 ∧ OwnOk p H1 O)
    (hg : ∀ Sb st σ1 S1 H1 s1 S2 H2, Iv Sb st σ1 S1 H1 s1 → Gm [] S1 H1 S2 H2 → Iv Sb st σ1 S2 H2 s1)
    (hb : ∀ Sb x st σ1 σ2 S1 H1 s1 o s2 (D' : Ends), Iv Sb st σ1 S1 H1 s1 → P x σ1 σ2 S1 → Mir.run (b x st) s1 = some (o, s2) →
      (∀ st' σ' S' H', o = .go st' → Iv Sb st' σ' S' H' s2 → D'.nx σ' H' ∧ D'.ct σ' H') → (∀ st' σ' S' H', o = .brk st' → Iv Sb st' σ' S' H' s2 → D'.bk σ' H') → (∀ r v H', o = .ret r → Rt r v H' s2 → D'.rt v H') → tu D' σ2 H1)
    (nx : ∀ Sb st σ1 S1 H1 s1, Iv Sb st σ1 S1 H1 s1 → Mir.run (k (.go st)) s1 = some z ∨ Mir.run (k (.brk st)) s1 = some z → tz D σ1 H1)
    (rt : ∀ r v H1 s1, Rt r v H1 s1 → Mir.run (k (.ret r)) s1 = some z → D.rt v H1) : tSeq (tFor wi g tu) tz D σ H :=
  hi S H s (Gm.rf w.i) ps _ z hm _ fun xs J Sb Hb sb gb pb hJ hmb => by
    obtain ⟨of, sf, e1, e2⟩ := run_of_bind hmb
    refine ⟨fun i m σ H => m = xs.length - i ∧ i ≤ xs.length ∧ ∃ st S s, Iv Sb st σ S H s ∧ Mir.run (lpC (xs.drop i) b st) s = some (of, sf), ⟨xs.length, by simp, Nat.zero_le _, st0, Sb, sb, h0 Sb Hb sb (w.go gb) pb gb, e1⟩, ?_⟩
    rintro i m σ1 H1 ⟨em, hi, st, S1, s1, iv, e⟩
    subst em
    obtain ⟨x1, x2, p1, o1⟩ := hI _ _ _ _ _ _ iv
    obtain ⟨j1, j2, j3⟩ := hJ S1 H1 x1 x2 o1
    by_cases hlt : i < xs.length
    · have ed : xs.drop i = xs[i] :: xs.drop (i + 1) := List.drop_eq_getElem_cons hlt
      rw [ed] at e
      obtain ⟨o, s2, e3, e4⟩ := run_of_bind (show Mir.run (b xs[i] st >>= fun o => match o with | .go st' => lpC (xs.drop (i + 1)) b st' | y => pure y) s1 = some (of, sf) from e)
      cases o with
      | go st' =>
        refine .inr ⟨j1 i hlt, fun σ' H' => ∃ S', Iv Sb st' σ' S' H' s2, fun σ' H' ⟨S', i'⟩ => ⟨xs.length - (i + 1), by omega, rfl, hlt, st', S', s2, i', e4⟩, fun v H2 y => ?_⟩
        obtain ⟨S2, g2, r2⟩ := j3 i xs[i] v H2 (List.getElem?_eq_getElem hlt) y
        refine ht xs[i] v σ1 S2 H2 _ g2.i r2 fun σ2 hp => hb Sb xs[i] st σ1 σ2 S2 H2 s1 _ s2 _ (hg _ _ _ _ _ _ _ _ iv g2) hp e3 (fun st2 σ' S' H' q i' => ?_) (fun _ _ _ _ q _ => nomatch q) (fun _ _ _ q _ => nomatch q)
        cases q
        exact ⟨⟨S', i'⟩, ⟨S', i'⟩⟩
      | brk st' =>
        cases run_of_pure (show Mir.run (pure (Ctl.brk st') : μ (Ctl ρ ζ)) s2 = some (of, sf) from e4)
        refine .inr ⟨j1 i hlt, fun _ _ => False, fun _ _ q => q.elim, fun v H2 y => ?_⟩
        obtain ⟨S2, g2, r2⟩ := j3 i xs[i] v H2 (List.getElem?_eq_getElem hlt) y
        refine ht xs[i] v σ1 S2 H2 _ g2.i r2 fun σ2 hp => hb Sb xs[i] st σ1 σ2 S2 H2 s1 _ _ _ (hg _ _ _ _ _ _ _ _ iv g2) hp e3 (fun _ _ _ _ q _ => nomatch q) (fun st2 σ' S' H' q i' => ?_) (fun _ _ _ q _ => nomatch q)
        cases q
        exact nx _ _ _ _ _ _ i' (.inr e2)
      | ret r =>
        cases run_of_pure (show Mir.run (pure (Ctl.ret r) : μ (Ctl ρ ζ)) s2 = some (of, sf) from e4)
        refine .inr ⟨j1 i hlt, fun _ _ => False, fun _ _ q => q.elim, fun v H2 y => ?_⟩
        obtain ⟨S2, g2, r2⟩ := j3 i xs[i] v H2 (List.getElem?_eq_getElem hlt) y
        refine ht xs[i] v σ1 S2 H2 _ g2.i r2 fun σ2 hp => hb Sb xs[i] st σ1 σ2 S2 H2 s1 _ _ _ (hg _ _ _ _ _ _ _ _ iv g2) hp e3 (fun _ _ _ _ q _ => nomatch q) (fun _ _ _ _ q _ => nomatch q) (fun r2 v' H' q i' => ?_)
        cases q
        exact rt _ _ _ _ i' e2
    · have ei : i = xs.length := by omega
      subst ei
      rw [List.drop_length] at e
      cases run_of_pure (show Mir.run (pure (.go st) : μ (Ctl ρ ζ)) s1 = some (of, sf) from e)
      exact .inl ⟨j2, nx _ _ _ _ _ _ iv (.inl e2)⟩

/-! ### comprehensions -/
def cns : Option γ → List γ → List γ
  | some y, r => y :: r
  | none, r => r
def cmp : List α → (α → μ (Option γ)) → μ (List γ)
  | [], _ => pure []
  | x :: xs, f => f x >>= fun o => cmp xs f >>= fun r => pure (cns o r)
theorem OwnOk.go {O : Own} {S1 H1 : Hp} (o : OwnOk p H O) (g : Gm p.M S H S1 H1) : OwnOk p H1 O := fun c h => ⟨g.h _ _ (o c h).2 (o c h).1, (o c h).2⟩
theorem OwnOk.put {O : Own} {q : Addr} {u : HO} (o : OwnOk p H O) (n : ∀ c ∈ O, c.1 ≠ q) : OwnOk p (upd H q u) O := fun c h => ⟨by rw [upd_ne (n c h)]; exact (o c h).1, (o c h).2⟩
theorem ownOk0 : OwnOk p H [] := fun _ h => nomatch h
theorem ownOk1 {q : Addr} {vs : List V} (h : H q = some (.lst vs)) (m : q ∉ p.M) : OwnOk p H [(q, vs)] := fun c hc => by
  have e : c = (q, vs) := by simpa using hc
  rw [e]
  exact ⟨h, m⟩
theorem lc_go {g : TG} {vs : List Nat} {O : Own} {R : Rp α} {P : α → St → St → Hp → Prop} {R' : Rp γ} [Mo R'] {mt : α → (Bool → μ (Option γ)) → μ (Option γ)} {me : α → (γ → μ (Option γ)) → μ (Option γ)} {J : It} {xs : List α} {rf : List γ} {sb sf : τ} {Sb Hb : Hp} {Q : VK}
    (g1 : Gm p.M S H Sb Hb) (pb : PotAt p sb Sb Hb) (hJ : ItOk p J xs R Sb O) (hl : xs.length ≤ 16000000) (ho : OwnOk p H O) (ht : Tg g R P) (hw : ∀ x σ' S, P x (wipe σ vs) σ' S → wipe σ' vs = wipe σ vs)
    (hc : ∀ x σ' S1 H1, Gm p.M S H S1 H1 → P x (wipe σ vs) σ' S1 → EvT p tt σ' S1 H1 (mt x))
    (he : ∀ x σ' S1 H1, Gm p.M S H S1 H1 → P x (wipe σ vs) σ' S1 → Ev p te σ' S1 H1 (me x) R') (hP : PMo P)
    (e1 : Mir.run (cmp xs (fun x => mt x fun b => if b = true then me x fun y => pure (some y) else pure none)) sb = some (rf, sf))
    (q : ∀ x us S2 H2, Gm p.M Sb Hb S2 H2 → PotAt p sf S2 H2 → Hb x = none → H2 x = some (.lst us) → S2 x = none → x ∉ p.M → All R' S2 rf us → Q (.ref x) H2) :
    ∀ D, Hb D = none → ∃ W : Nat → Nat → Hp → Prop, (∃ m, W 0 m (upd Hb D (.lst []))) ∧ ∀ i m H, W i m H →
      (J.stop i H ∧ Q (.ref D) H) ∨ (J.go i H ∧ ∃ Nx : Hp → Prop, (∀ H', Nx H' → ∃ m', m' < m ∧ W (i + 1) m' H') ∧ ∀ x H', J.yld i H x H' → g x (wipe σ vs) H' fun σ2 H2 => wipe σ2 vs = wipe σ vs ∧ tt σ2 H2 fun b H3 =>
        if b = true then te σ2 H3 fun y H4 => ∃ acc, H4 D = some (.lst acc) ∧ acc.length < sizeLine ∧ Nx (upd H4 D (.lst (acc ++ [y]))) else Nx H3) := by
    intro Dl hD
    have nS : Sb Dl = none := g1.i.no hD
    have oM : Dl ∉ p.M := new_nM pb hD
    have ob : OwnOk p Hb O := ho.go g1
    have oD : ∀ c ∈ O, c.1 ≠ Dl := fun c h e => by
      have := (ob c h).1
      rw [e, hD] at this; cases this
    refine ⟨fun i m H => m = xs.length - i ∧ i ≤ xs.length ∧ ∃ acc avs rest S s, Gm p.M Sb Hb S H ∧ PotAt p s S H ∧ S Dl = none ∧ H Dl = some (.lst avs) ∧ All R' S acc avs ∧ avs.length ≤ i ∧ OwnOk p H O ∧
      Mir.run (cmp (xs.drop i) (fun x => mt x fun b => if b = true then me x fun y => pure (some y) else pure none)) s = some (rest, sf) ∧ rf = acc ++ rest, ⟨xs.length, by simp, Nat.zero_le _, [], [], rf, Sb, sb, Gm.own g1.i hD, pb.put oM, nS, upd_same, .nil, Nat.le_refl _, ob.put oD, e1, rfl⟩, ?_⟩
    rintro i m H2 ⟨em, hi, acc, avs, rest, S2, s2, g2, p2, n2, d2, a2, l2, o2, r2, er⟩
    subst em
    obtain ⟨j1, j2, j3⟩ := hJ S2 H2 g2.s g2.i o2
    by_cases hlt : i < xs.length
    · have ed : xs.drop i = xs[i] :: xs.drop (i + 1) := List.drop_eq_getElem_cons hlt
      rw [ed] at r2
      obtain ⟨o, s3, e3, e4⟩ := run_of_bind (show Mir.run ((mt xs[i] fun b => if b = true then me xs[i] fun y => pure (some y) else pure none) >>= fun o => cmp (xs.drop (i + 1)) (fun x => mt x fun b => if b = true then me x fun y => pure (some y) else pure none) >>= fun r => pure (cns o r)) s2 = some (rest, sf) from r2)
      obtain ⟨rest', s4, e5, e6⟩ := run_of_bind e4
      have e7 := run_of_pure e6
      have e8 : rest = cns o rest' := congrArg Prod.fst e7
      have e9 : sf = s4 := congrArg Prod.snd e7
      subst e9
      refine .inr ⟨j1 i hlt, fun H' => ∃ acc avs S, Gm p.M Sb Hb S H' ∧ PotAt p s3 S H' ∧ S Dl = none ∧ H' Dl = some (.lst avs) ∧ All R' S acc avs ∧ avs.length ≤ i + 1 ∧ OwnOk p H' O ∧ rf = acc ++ rest', fun H' ⟨acc, avs, S, h1, h2, h3, h4, h5, h6, h7, h8⟩ => ⟨xs.length - (i + 1), by omega, rfl, hlt, acc, avs, rest', S, s3, h1, h2, h3, h4, h5, h6, h7, e5, h8⟩, fun v H3 y => ?_⟩
      obtain ⟨S3, g3, r3⟩ := j3 i xs[i] v H3 (List.getElem?_eq_getElem hlt) y
      have gA : Gm p.M S H S3 H3 := (g1.tr g2).tr g3.up
      refine ht xs[i] v (wipe σ vs) S3 H3 _ g3.i r3 fun σ3 hp => ⟨hw _ _ _ hp, ?_⟩
      refine hc xs[i] σ3 S3 H3 gA hp S3 H3 s2 (Gm.rf g3.i) (p2.go g3) _ (o, s3) e3 _ fun b S4 H4 s4 g4 p4 hm4 => ?_
      have d4 : H4 Dl = some (.lst avs) := g4.h _ _ oM (g3.h _ _ (by simp) d2)
      have n4 : S4 Dl = none := g4.f _ _ (g3.h _ _ (by simp) d2) (g3.f _ _ d2 n2)
      have a4 := a2.mo (g3.s.tr g4.s)
      cases b with
      | true =>
        refine iteT (he xs[i] σ3 S4 H4 (gA.tr g4) (hP _ _ _ _ _ g4.s hp) S4 H4 s4 (Gm.rf g4.i) p4 _ (o, s3) (by simpa using hm4) _ fun c u S5 H5 s5 g5 p5 r5 hm5 => ?_)
        have e10 := run_of_pure hm5
        have e11 : o = some c := congrArg Prod.fst e10
        have e12 : s3 = s5 := congrArg Prod.snd e10
        subst e11
        subst e12
        have d5 : H5 Dl = some (.lst avs) := g5.h _ _ oM d4
        have n5 : S5 Dl = none := g5.f _ _ d4 n4
        refine ⟨avs, d5, by rw [sizeLine_eq]; omega, acc ++ [c], avs ++ [u], S5, ?_, p5.put oM, n5, upd_same, (a4.mo g5.s).app (.cons r5 .nil), by simp; omega, (((o2.go g3.up).go g4).go g5).put oD, ?_⟩
        · exact (((g2.tr g3.up).tr g4).tr g5).put hD n5
        · rw [er, e8]; simp [cns]
      | false =>
        have e10 := run_of_pure (show Mir.run (pure none : μ (Option γ)) s4 = some (o, s3) by simpa using hm4)
        have e11 : o = none := congrArg Prod.fst e10
        have e12 : s3 = s4 := congrArg Prod.snd e10
        subst e11
        subst e12
        exact iteF ⟨acc, avs, S4, (g2.tr g3.up).tr g4, p4, n4, d4, a4, by omega, (o2.go g3.up).go g4, by rw [er, e8]; rfl⟩
    · have ei : i = xs.length := by omega
      subst ei
      rw [List.drop_length] at r2
      have e3 := run_of_pure (show Mir.run (pure [] : μ (List γ)) s2 = some (rest, sf) from r2)
      have e4 : rest = [] := congrArg Prod.fst e3
      have e5 : sf = s2 := congrArg Prod.snd e3
      subst e4
      subst e5
      rw [List.append_nil] at er
      subst er
      exact .inl ⟨j2, q Dl avs S2 H2 g2 p2 hD d2 n2 oM a2⟩
theorem l_lc {wi : TI} {g : TG} {vs : List Nat} {O : Own} {mi : (List α → μ β) → μ β} {R : Rp α} {P : α → St → St → Hp → Prop} {R' : Rp γ} [Mo R'] {mt : α → (Bool → μ (Option γ)) → μ (Option γ)} {me : α → (γ → μ (Option γ)) → μ (Option γ)}
    (hi : EvI p wi σ S H mi R O) (ho : OwnOk p H O) (ht : Tg g R P) (hw : ∀ x σ' S, P x (wipe σ vs) σ' S → wipe σ' vs = wipe σ vs)
    (hc : ∀ x σ' S1 H1, Gm p.M S H S1 H1 → P x (wipe σ vs) σ' S1 → EvT p tt σ' S1 H1 (mt x))
    (he : ∀ x σ' S1 H1, Gm p.M S H S1 H1 → P x (wipe σ vs) σ' S1 → Ev p te σ' S1 H1 (me x) R') (hP : PMo P) :
    EvL p (tLc wi g tt te vs) σ S H (fun k => mi fun xs => Mir.lft (grd (xs.length ≤ 16000000)) >>= fun _ => cmp xs (fun x => mt x fun b => if b = true then me x fun y => pure (some y) else pure none) >>= k) (aAll R') := fun S1 H1 s g1 ps k z hm Q q =>
  hi S1 H1 s g1 ps _ z hm _ fun xs J Sb Hb sb gb pb hJ hmb => by
    obtain ⟨_, el, hmb⟩ := run_of_lft hmb
    have hl := grd_of el
    obtain ⟨rf, sf, e1, e2⟩ := run_of_bind hmb
    exact lc_go (g1.tr gb) pb hJ hl ho ht hw hc he hP e1 fun x us S2 H2 g2 p2 n e n2 m2 a2 => by
      have n1 : H1 x = none := by
        cases e : H1 x with
        | none => rfl
        | some u => obtain ⟨u', e'⟩ := gb.t x u e; rw [n] at e'; cases e'
      exact q rf x us S2 H2 sf (gb.tr g2) p2 n1 e n2 m2 a2 e2
/-- without a test -/
theorem l_lc1 {wi : TI} {g : TG} {vs : List Nat} {O : Own} {mi : (List α → μ β) → μ β} {R : Rp α} {P : α → St → St → Hp → Prop} {R' : Rp γ} [Mo R'] {me : α → (γ → μ (Option γ)) → μ (Option γ)}
    (hi : EvI p wi σ S H mi R O) (ho : OwnOk p H O) (ht : Tg g R P) (hw : ∀ x σ' S, P x (wipe σ vs) σ' S → wipe σ' vs = wipe σ vs)
    (he : ∀ x σ' S1 H1, Gm p.M S H S1 H1 → P x (wipe σ vs) σ' S1 → Ev p te σ' S1 H1 (me x) R') (hP : PMo P) :
    EvL p (tLc wi g tYes te vs) σ S H (fun k => mi fun xs => Mir.lft (grd (xs.length ≤ 16000000)) >>= fun _ => cmp xs (fun x => me x fun y => pure (some y)) >>= k) (aAll R') :=
  l_lc (mt := fun _ k => k true) hi ho ht hw (fun _ _ _ _ _ _ => fun S1 H1 s g ps k z hm Q q => q true S1 H1 s (Gm.rf g.i) ps hm) he hP
/-- the test and the item are asked without a condition -/
theorem cmp_all {t : α → Bool} {f : α → γ} : ∀ (xs : List α) (s : τ), Mir.run (cmp (μ := μ) xs fun x => if t x = true then pure (some (f x)) else pure none) s = some ((xs.filter t).map f, s)
  | [], s => Mir.run_pure _ _
  | x :: xs, s => by
    show Mir.run ((if t x = true then pure (some (f x)) else pure none) >>= fun o => cmp (μ := μ) xs _ >>= fun r => pure (cns o r)) s = _
    have e : (if t x = true then pure (some (f x)) else pure none : μ (Option γ)) = pure (if t x = true then some (f x) else none) := by split <;> rfl
    rw [e, Mir.run_bind, Mir.run_pure]
    show Mir.run (cmp (μ := μ) xs _ >>= fun r => pure (cns _ r)) s = _
    rw [Mir.run_bind, cmp_all xs s]
    show Mir.run (pure _ : μ (List γ)) s = _
    rw [Mir.run_pure]
    cases h : t x with
    | true => simp [cns, List.filter_cons, h]
    | false => simp [cns, List.filter_cons, h]
theorem l_lcT {wi : TI} {g : TG} {vs : List Nat} {O : Own} {mi : (List α → μ β) → μ β} {R : Rp α} {P : α → St → St → Hp → Prop} {R' : Rp γ} [Mo R'] {t : α → Bool} {f : α → γ}
    (hi : EvI p wi σ S H mi R O) (ho : OwnOk p H O) (ht : Tg g R P) (hw : ∀ x σ' S, P x (wipe σ vs) σ' S → wipe σ' vs = wipe σ vs)
    (hc : ∀ x σ' S1 H1, Gm p.M S H S1 H1 → P x (wipe σ vs) σ' S1 → EvT (μ := μ) (β := Option γ) p tt σ' S1 H1 (fun k => k (t x)))
    (he : ∀ x σ' S1 H1, Gm p.M S H S1 H1 → P x (wipe σ vs) σ' S1 → Ev (μ := μ) (β := Option γ) p te σ' S1 H1 (fun k => k (f x)) R') (hP : PMo P) :
    EvL p (tLc wi g tt te vs) σ S H (fun k => mi fun xs => Mir.lft (grd (xs.length ≤ 16000000)) >>= fun _ => k ((xs.filter t).map f)) (aAll R') := fun S1 H1 s g1 ps k z hm Q q =>
  hi S1 H1 s g1 ps _ z hm _ fun xs J Sb Hb sb gb pb hJ hmb => by
    obtain ⟨_, el, hmb⟩ := run_of_lft hmb
    exact lc_go (mt := fun x k => k (t x)) (me := fun x k => k (f x)) (g1.tr gb) pb hJ (grd_of el) ho ht hw hc he hP (cmp_all xs sb) fun x us S2 H2 g2 p2 n e n2 m2 a2 => by
      have n1 : H1 x = none := by
        cases e : H1 x with
        | none => rfl
        | some u => obtain ⟨u', e'⟩ := gb.t x u e; rw [n] at e'; cases e'
      exact q _ x us S2 H2 sb (gb.tr g2) p2 n1 e n2 m2 a2 hmb
theorem filter_T (xs : List α) : (xs.filter fun _ => true) = xs := List.filter_eq_self.mpr fun _ _ => rfl
theorem l_lc1T {wi : TI} {g : TG} {vs : List Nat} {O : Own} {mi : (List α → μ β) → μ β} {R : Rp α} {P : α → St → St → Hp → Prop} {R' : Rp γ} [Mo R'] {f : α → γ}
    (hi : EvI p wi σ S H mi R O) (ho : OwnOk p H O) (ht : Tg g R P) (hw : ∀ x σ' S, P x (wipe σ vs) σ' S → wipe σ' vs = wipe σ vs)
    (he : ∀ x σ' S1 H1, Gm p.M S H S1 H1 → P x (wipe σ vs) σ' S1 → Ev (μ := μ) (β := Option γ) p te σ' S1 H1 (fun k => k (f x)) R') (hP : PMo P) :
    EvL p (tLc wi g tYes te vs) σ S H (fun k => mi fun xs => Mir.lft (grd (xs.length ≤ 16000000)) >>= fun _ => k (xs.map f)) (aAll R') := fun S1 H1 s g1 ps k z hm Q q =>
  hi S1 H1 s g1 ps _ z hm _ fun xs J Sb Hb sb gb pb hJ hmb => by
    obtain ⟨_, el, hmb⟩ := run_of_lft hmb
    have ec := cmp_all (μ := μ) (t := fun _ => true) (f := f) xs sb
    rw [filter_T] at ec
    exact lc_go (mt := fun x k => k true) (me := fun x k => k (f x)) (g1.tr gb) pb hJ (grd_of el) ho ht hw (fun _ _ _ _ _ _ => fun S1 H1 s g ps k z hm Q q => q true S1 H1 s (Gm.rf g.i) ps hm) he hP ec fun x us S2 H2 g2 p2 n e n2 m2 a2 => by
      have n1 : H1 x = none := by
        cases e : H1 x with
        | none => rfl
        | some u => obtain ⟨u', e'⟩ := gb.t x u e; rw [n] at e'; cases e'
      exact q _ x us S2 H2 sb (gb.tr g2) p2 n1 e n2 m2 a2 hmb
end
end Wk
set_option Elab.async false
set_option maxRecDepth 100000
set_option maxHeartbeats 4000000
set_option linter.all false
/-! W3: defs whose callers show nothing (guards known), promises by mirrors, calls -/
namespace Wk
open PySem L2
open PyProof.Rows hiding St

/-- a def keeps its promise wherever no repr is under way -/
structure FnG (P : Program) (w : World) (K : PySem.W.Frag) (mg : Str → Option Value) (base : Heap) (CX : CXT) (k : Nat) (f : Addr) (fd : FuncData) (ps : List Str) (sp : Sp) : Prop where
  len : ∀ vs H Q E, sp vs H Q E → vs.length = ps.length
  run : ∀ (A : Around) (outer : List Env) (s : Shared) (H : Hp) (args : Args) (us : List Value) (vs : List V) (Q : VK) (E : XK),
    Room k A → A.guards = some [] → Env0 P w K mg base A outer s H → BindsTo s fd args (ps.zip us) → Vals vs us → sp vs H Q E →
    codeAny (model P w) A (.call (.ref f) args) (CR CX outer P w H s Q E) s
theorem FnG.up {P : Program} {w : World} {K : PySem.W.Frag} {mg : Str → Option Value} {base : Heap} {CX : CXT} {j k : Nat} {f : Addr} {fd : FuncData} {ps : List Str} {sp : Sp}
    (F : FnG P w K mg base CX j f fd ps sp) (h : j ≤ k) : FnG P w K mg base CX k f fd ps sp :=
  ⟨F.len, fun A o s H a us vs Q E hr => F.run A o s H a us vs Q E (hr.mono h)⟩
section
variable {P : Program} {w : World} {K : PySem.W.Frag} {mg : Str → Option Value} {base : Heap}
/-- a def by its body -/
theorem okG {CX : CXT} {x qual : Str} {st : Stmt} {f : Addr} {fd : FuncData} {N ps : List Str} {k : Nat} {sp : Sp} (F : Fun K x qual st f fd) (Sc : FnScope N ps (defScope st))
    (len : ∀ vs H Q E, sp vs H Q E → vs.length = ps.length)
    (body : ∀ (cdv : Value) (A : Around) (outer : List Env) (s : Shared) (H : Hp) (vs : List V) (Q : VK) (E : XK),
      Room k (A.deeper (envOfC qual (defScope st) s.heap.objs.size f cdv)) → A.guards = some [] → sp vs H Q E →
      ∃ t, PSs (cxOf CX P w K mg base N qual (defScope st) f cdv A outer s H E) (defBody st) t ∧ t { nx := fun _ H' => Q .non H', rt := Q } (start N vs) H) :
    FnG P w K mg base CX (k + 1) f fd ps sp := by
  obtain ⟨oc, od, kV, doc, pm, an, cdv, ct, osl, rfl, lk, hcd⟩ := F.ex
  constructor
  · exact len
  intro A outer s H args us vs Q E room gd e0 hb rv hsp
  have inK : K.In s.heap := e0.mod.kin.keeps (fun b o e => (e0.bs b o e).1)
  have noLim : s.heap.NoLimit := e0.mod.nolimit.keeps (fun b o e => (e0.bs b o e).1)
  have kinds : ∀ y ∈ ps.zip us, (defScope st).names.lookup y.1 = some .local ∨
      ((defScope st).names.lookup y.1 = some .cell ∧ ((cellsFrom (s.heap.objs.size + 1) (defScope st).names []).lookup y.1).isSome = true) := by
    rintro ⟨nm, vl⟩ hy
    cases Sc.par nm (List.of_mem_zip hy).1 with
    | inl q => exact Or.inl q
    | inr q => exact Or.inr ⟨q, PySem.W.cellsFrom_some _ _ _ (Or.inl q)⟩
  apply codeAny_call_function room.depth (inK _ _ lk) rfl Sc.co Sc.gen rfl (PySem.W.codeRec_of inK hcd)
  apply hb
  apply wpAny_newFunctionEnv_cells Sc.kind kinds
  intro env he s1 x
  subst he
  constructor
  · exact noLim.keeps x.toInCall.keep
  apply codeAny_func
  obtain ⟨t, ht, hq⟩ := body cdv A outer s H vs Q E (room.deeper _) gd hsp
  have I0 := inv_start (CX := CX) (E := E) (cd := cdv) (f := f) (qual := qual) Sc room.hd e0 (len _ _ _ _ hsp) rv x
  refine wpAny_mono (ht.run [] s1 (start N vs) H _ I0 hq) ?_ (fun e s' hs => hs)
  intro fl s' hs
  cases fl with
  | ret u =>
    obtain ⟨v, σ', H', J, r1, q⟩ := hs
    exact ⟨v, H', J.os, J.bare, J.base, J.hok, r1, q⟩
  | next =>
    obtain ⟨σ', H', J, q⟩ := hs
    exact ⟨V.non, H', J.os, J.bare, J.base, J.hok, rfl, q⟩
  | brk =>
    obtain ⟨σ', H', J, q⟩ := hs
    exact q.elim
  | cont =>
    obtain ⟨σ', H', J, q⟩ := hs
    exact q.elim
/-- .. that lets nothing out -/
theorem okG0 {x qual : Str} {st : Stmt} {f : Addr} {fd : FuncData} {N ps : List Str} {k : Nat} {sp : Sp} (F : Fun K x qual st f fd) (Sc : FnScope N ps (defScope st))
    (len : ∀ vs H Q E, sp vs H Q E → vs.length = ps.length)
    (body : ∀ (cdv : Value) (A : Around) (outer : List Env) (s : Shared) (H : Hp) (vs : List V) (Q : VK) (E : XK),
      Room k (A.deeper (envOfC qual (defScope st) s.heap.objs.size f cdv)) → A.guards = some [] → sp vs H Q E →
      ∃ t, PSs (cxOf CX0 P w K mg base N qual (defScope st) f cdv A outer s H E).nox (defBody st) t ∧ t { nx := fun _ H' => Q .non H', rt := Q } (start N vs) H) :
    FnG P w K mg base CX0 (k + 1) f fd ps sp := okG F Sc len fun cdv A outer s H vs Q E hr gd h => by
  obtain ⟨t, h1, h2⟩ := body cdv A outer s H vs Q E hr gd h
  exact ⟨t, h1.nox, h2⟩
end

/-! ### calls -/
section
variable {X : Cx} {CX : CXT} {k n : Nat} {f : Addr} {fd : FuncData} {ps ks : List Str} {sp : Sp} {E : XK} {x : Str} {p pos : Pos} {e : Expr} {es : List Expr} {kws : List Keyword} {t tk : TA}
/-- what a callee's run gives to its caller -/
theorem end_G {pins : List (Addr × Obj)} {σ : St} {H : Hp} {s s' : Shared} {Q : VK} {r : Result} (hx : Passes CX X E) (I : Inv X pins σ H s) (h : CR CX X.stack X.prog X.w H s Q E r s') :
    match r with | .ok (.ret u) => EP X pins σ Q u s' | .ok _ => False | .error e => X.xe e s' := by
  match r, h with
  | .ok (.ret u), h => exact I.after h
  | .error e, h => exact hx pins σ H s e s' I h
theorem run_G {pins : List (Addr × Obj)} {σ : St} {H : Hp} {s : Shared} {Q : VK} {us : List Value} {vs : List V} (F : FnG X.prog X.w X.K X.mg X.base CX k f fd ps sp) (hr : Room k X.A) (gd : X.A.guards = some [])
    (hb : Binds X.K fd ps []) (hx : Passes CX X E) (I : Inv X pins σ H s) (r : Vals vs us) (h : sp vs H Q E) : wpAny (model X.prog X.w) X.A (call (.ref f) us) (EP X pins σ Q) X.xe s := by
  have hl : (us ++ []).length = ps.length := by
    rw [List.append_nil, ← r.length]
    exact F.len _ _ _ _ h
  have hb' := hb s us I.kIn hl
  rw [List.append_nil] at hb'
  refine wpAny_call (codeAny_mono (F.run X.A X.stack s H ⟨us, []⟩ us vs Q E hr gd I.env0 hb' r h) fun res s' hq => ?_)
  have q := end_G hx I hq
  cases res with
  | error er => exact q
  | ok fl => cases fl <;> first | exact q | exact q.elim
theorem pe_cG (F : FnG X.prog X.w X.K X.mg X.base CX k f fd ps sp) (hr : Room k X.A) (gd : X.A.guards = some []) (hg : Gl X x) (hm : X.mg x = some (.ref f)) (hk : PySem.W.keepIn X.K (.ref f) = true) (hb : Binds X.K fd ps []) (hx : Passes CX X E)
    (ha : PA X (e :: es) t) (hdb : (x == ("__debug__" : Str)) = false := by decide) (he : starEach (e :: es) X.env = (false, eval e X.env) :: starEach es X.env := by rfl) (hpl : (backTo pos (starEach es X.env)).any (·.1) = false := by rfl) :
    PE X (.Call (.Name x p) (e :: es) [] pos) (tCall sp [] E t) := by
  constructor
  intro pins s σ H Q I h
  apply wpAny_Call_Name_kw
  apply ld_glob I hg hm _ hdb
  apply PySem.W.callWith_K (h₀ := X.base) I.ok.mod.kin hk _ he hpl
  refine thn (ha.run pos pins s σ H _ I h) ?_
  rintro us s1 ⟨vs, H1, I1, r, q⟩
  refine ⟨I1.kIn, run_G F hr gd hb hx I1 r ?_⟩
  rw [List.append_nil] at q
  exact q
theorem pe_cG0 (F : FnG X.prog X.w X.K X.mg X.base CX k f fd ps sp) (hr : Room k X.A) (gd : X.A.guards = some []) (hg : Gl X x) (hm : X.mg x = some (.ref f)) (hk : PySem.W.keepIn X.K (.ref f) = true) (hb : Binds X.K fd ps []) (hx : Passes CX X E)
    (hdb : (x == ("__debug__" : Str)) = false := by decide) : PE X (.Call (.Name x p) [] [] pos) (tCall sp [] E tNil) := by
  constructor
  intro pins s σ H Q I h
  apply wpAny_Call_Name_kw
  apply ld_glob I hg hm _ hdb
  apply PySem.W.callWith_K0 I.kIn hk
  exact run_G (us := []) (vs := []) F hr gd hb hx I .nil h
theorem pick_vals {vs : List V} {us : List Value} (r : Vals vs us) : ∀ ix : List Nat, Vals (pick ix vs) (pick ix us)
  | [] => .nil
  | i :: ix => by
    have h := pick_vals r ix
    unfold pick at h ⊢
    rw [List.filterMap_cons, List.filterMap_cons]
    cases e : vs[i]? with
    | none =>
      rw [r.none_of e]
      exact h
    | some v =>
      obtain ⟨u, e2, r2⟩ := r.get e
      rw [e2]
      exact .cons r2 h
/-- how names are bound where some are given by keywords: n by place, those of ks by name; ix tells the parameters' order -/
def KB (K : PySem.W.Frag) (fd : FuncData) (ps : List Str) (n : Nat) (ks : List Str) (ix : List Nat) : Prop :=
  ∀ (s : Shared) (us ws : List Value), K.In s.heap → us.length = n → ws.length = ks.length → BindsTo s fd ⟨us, ks.zip ws⟩ (ps.zip (pick ix (us ++ ws)))
def tCallG (n m : Nat) (ix : List Nat) (sp : Sp) (E : XK) (t tk : TA) : TE := fun σ H Q => t σ H fun vs H1 => tk σ H1 fun zs H2 => vs.length = n ∧ zs.length = m ∧ sp (pick ix (vs ++ zs)) H2 Q E
theorem run_Gk {pins : List (Addr × Obj)} {σ : St} {H : Hp} {s : Shared} {Q : VK} {ix : List Nat} {us ws : List Value} {vs zs : List V} (F : FnG X.prog X.w X.K X.mg X.base CX k f fd ps sp) (hr : Room k X.A) (gd : X.A.guards = some [])
    (hb : KB X.K fd ps n ks ix) (hx : Passes CX X E) (I : Inv X pins σ H s) (r : Vals vs us) (rz : Vals zs ws) (l1 : vs.length = n) (l2 : zs.length = ks.length) (h : sp (pick ix (vs ++ zs)) H Q E) :
    wpAny (model X.prog X.w) X.A (call (.ref f) us (ks.zip ws)) (EP X pins σ Q) X.xe s := by
  have hb' := hb s us ws I.kIn (r.length.symm.trans l1) (rz.length.symm.trans l2)
  refine wpAny_call (codeAny_mono (F.run X.A X.stack s H ⟨us, ks.zip ws⟩ _ _ Q E hr gd I.env0 hb' (pick_vals (r.append rz) ix) h) fun res s' hq => ?_)
  have q := end_G hx I hq
  cases res with
  | error er => exact q
  | ok fl => cases fl <;> first | exact q | exact q.elim
theorem pe_cGK {ix : List Nat} (F : FnG X.prog X.w X.K X.mg X.base CX k f fd ps sp) (hr : Room k X.A) (gd : X.A.guards = some []) (hg : Gl X x) (hm : X.mg x = some (.ref f)) (hk : PySem.W.keepIn X.K (.ref f) = true) (hb : KB X.K fd ps n ks ix) (hx : Passes CX X E)
    (ha : PA X (e :: es) t) (hkw : PK X kws tk) (hall : (backToKw pos (keywordEach kws X.env)).all (·.1.isSome) = true := by rfl) (hks : (backToKw pos (keywordEach kws X.env)).filterMap (·.1) = ks := by rfl)
    (hdb : (x == ("__debug__" : Str)) = false := by decide) (he : starEach (e :: es) X.env = (false, eval e X.env) :: starEach es X.env := by rfl)
    (hpl : ((backTo pos (starEach (e :: es) X.env)).any (·.1) || (backToKw pos (keywordEach kws X.env)).any (·.1.isNone)) = false := by rfl) :
    PE X (.Call (.Name x p) (e :: es) kws pos) (tCallG n ks.length ix sp E t tk) := by
  constructor
  intro pins s σ H Q I h
  apply wpAny_Call_Name_kw
  apply ld_glob I hg hm _ hdb
  refine PySem.W.callWith_KW (h₀ := X.base) I.ok.mod.kin hk hall (thn (ha.run pos pins s σ H _ I h) ?_) hpl he
  rintro us s1 ⟨vs, H1, I1, r, q⟩
  refine thn (hkw.run pos pins s1 σ H1 _ I1 q) ?_
  rintro ws s2 ⟨zs, H2, I2, rz, l1, l2, q2⟩
  refine ⟨I2.kIn, ?_⟩
  rw [hks]
  exact run_Gk F hr gd hb hx I2 r rz l1 l2 q2
theorem pe_cGK0 {ix : List Nat} (F : FnG X.prog X.w X.K X.mg X.base CX k f fd ps sp) (hr : Room k X.A) (gd : X.A.guards = some []) (hg : Gl X x) (hm : X.mg x = some (.ref f)) (hk : PySem.W.keepIn X.K (.ref f) = true) (hb : KB X.K fd ps 0 ks ix) (hx : Passes CX X E)
    (hkw : PK X kws tk) (hall : (backToKw pos (keywordEach kws X.env)).all (·.1.isSome) = true := by rfl) (hks : (backToKw pos (keywordEach kws X.env)).filterMap (·.1) = ks := by rfl)
    (hdb : (x == ("__debug__" : Str)) = false := by decide)
    (hpl : ((backTo pos (starEach [] X.env)).any (·.1) || (backToKw pos (keywordEach kws X.env)).any (·.1.isNone)) = false := by rfl) :
    PE X (.Call (.Name x p) [] kws pos) (tCallG 0 ks.length ix sp E tNil tk) := by
  constructor
  intro pins s σ H Q I h
  apply wpAny_Call_Name_kw
  apply ld_glob I hg hm _ hdb
  have h' : tk σ H (fun zs H2 => ([] : List V).length = 0 ∧ zs.length = ks.length ∧ sp (pick ix ([] ++ zs)) H2 Q E) := h
  refine PySem.W.callWith_KW0 (h₀ := X.base) I.ok.mod.kin hk hall (thn (hkw.run pos pins s σ H _ I h') ?_) hpl
  rintro ws s2 ⟨zs, H2, I2, rz, l1, l2, q2⟩
  refine ⟨I2.kIn, ?_⟩
  rw [hks]
  exact run_Gk (us := []) (vs := []) F hr gd hb hx I2 .nil rz l1 l2 q2
end

/-! ### promises by mirrors -/
section
variable {μ : Type → Type} {τ : Type} [Mir μ τ] {ν : Type → Type} {υ : Type} [Mir ν υ] {ι α β γ δ ρ : Type} {p : Pt τ} {σ : St} {S H S0 H0 : Hp} {te ta tb : TE} {tt : TT} {K : PySem.W.Frag}
/-- what stays comes back -/
def spV (F : ι → Pt τ) (fm : α → μ ρ) (A : ι → Rq α) (R : Rp ρ) : Sp := fun vs H Q _ => ∃ i a S s r s', Ex S H ∧ PotAt (F i) s S H ∧ A i a vs S ∧ Mir.run (fm a) s = some (r, s') ∧
  ∀ v S' H', Gm (F i).M S H S' H' → PotAt (F i) s' S' H' → R r v S' → Q v H'
/-- a new list comes back -/
def spN (F : ι → Pt τ) (fm : α → μ ρ) (A : ι → Rq α) (R : Rq ρ) : Sp := fun vs H Q _ => ∃ i a S s r s', Ex S H ∧ PotAt (F i) s S H ∧ A i a vs S ∧ Mir.run (fm a) s = some (r, s') ∧
  ∀ q us S' H', Gm (F i).M S H S' H' → PotAt (F i) s' S' H' → H q = none → H' q = some (.lst us) → S' q = none → R r us S' → Q (.ref q) H'
def F0 : Unit → Pt Unit := fun _ => pt0
theorem pot0' {S H : Hp} {s : Unit} : PotAt pt0 s S H := fun _ h => nomatch h
/-- a pure def's call -/
theorem e_call {fm : α → Option ρ} {A : Rq α} {R : Rp ρ} {t : TA} {E : XK} {m : (α → μ β) → μ β} (h : EvA p t σ S H m A) : Ev p (tCall (spV F0 fm (fun _ => A) R) [] E t) σ S H (fun k => m fun a => Mir.lft (fm a) >>= k) R := fun S1 H1 s g ps k z hm Q q =>
  h S1 H1 s g ps _ z hm _ fun a vs S2 H2 s2 g2 p2 r hm2 => by
    obtain ⟨b, e, hm3⟩ := run_of_lft hm2
    refine ⟨(), a, S2, (), b, (), g2.i, pot0', by rw [List.append_nil]; exact r, by show (fm a).map _ = _; rw [e]; rfl, fun v S' H' g3 _ r3 => ?_⟩
    exact q b v S' H' s2 (g2.tr (Gm.up g3)) (p2.go g3) r3 hm3
theorem l_call {fm : α → Option ρ} {A : Rq α} {R : Rq ρ} {t : TA} {E : XK} {m : (α → μ β) → μ β} (h : EvA p t σ S H m A) : EvL p (tCall (spN F0 fm (fun _ => A) R) [] E t) σ S H (fun k => m fun a => Mir.lft (fm a) >>= k) R := fun S1 H1 s g ps k z hm Q q =>
  h S1 H1 s g ps _ z hm _ fun a vs S2 H2 s2 g2 p2 r hm2 => by
    obtain ⟨b, e, hm3⟩ := run_of_lft hm2
    refine ⟨(), a, S2, (), b, (), g2.i, pot0', by rw [List.append_nil]; exact r, by show (fm a).map _ = _; rw [e]; rfl, fun x us S' H' g3 _ n e3 n3 r3 => ?_⟩
    have n1 : H1 x = none := by
      cases e : H1 x with
      | none => rfl
      | some u => obtain ⟨u', e'⟩ := g2.t x u e; rw [n] at e'; cases e'
    exact q b x us S' H' s2 (g2.tr (Gm.up g3)) (p2.go g3) n1 e3 n3 (new_nM p2 n) r3 hm3
/-- a def that changes the lot -/
theorem e_callP {F : ι → Pt τ} {i : ι} {fm : α → μ ρ} {A : ι → Rq α} {R : Rp ρ} {t : TA} {E : XK} {m : (α → μ β) → μ β} (h : EvA (F i) t σ S H m (A i)) : Ev (F i) (tCall (spV F fm A R) [] E t) σ S H (fun k => m fun a => fm a >>= k) R := fun S1 H1 s g ps k z hm Q q =>
  h S1 H1 s g ps _ z hm _ fun a vs S2 H2 s2 g2 p2 r hm2 => by
    obtain ⟨b, s3, e, hm3⟩ := run_of_bind hm2
    refine ⟨i, a, S2, s2, b, s3, g2.i, p2, by rw [List.append_nil]; exact r, e, fun v S' H' g3 p3 r3 => ?_⟩
    exact q b v S' H' s3 (g2.tr g3) p3 r3 hm3
theorem l_callP {F : ι → Pt τ} {i : ι} {fm : α → μ ρ} {A : ι → Rq α} {R : Rq ρ} {t : TA} {E : XK} {m : (α → μ β) → μ β} (h : EvA (F i) t σ S H m (A i)) : EvL (F i) (tCall (spN F fm A R) [] E t) σ S H (fun k => m fun a => fm a >>= k) R := fun S1 H1 s g ps k z hm Q q =>
  h S1 H1 s g ps _ z hm _ fun a vs S2 H2 s2 g2 p2 r hm2 => by
    obtain ⟨b, s3, e, hm3⟩ := run_of_bind hm2
    refine ⟨i, a, S2, s2, b, s3, g2.i, p2, by rw [List.append_nil]; exact r, e, fun x us S' H' g3 p3 n e3 n3 r3 => ?_⟩
    have n1 : H1 x = none := by
      cases e : H1 x with
      | none => rfl
      | some u => obtain ⟨u', e'⟩ := g2.t x u e; rw [n] at e'; cases e'
    exact q b x us S' H' s3 (g2.tr g3) p3 n1 e3 n3 (new_nM p2 n) r3 hm3
/-- by keywords -/
theorem e_callK {n m' : Nat} {ix : List Nat} {fm : α → Option ρ} {A : Rq α} {A1 : Rq γ} {A2 : Rq δ} {R : Rp ρ} {t tk : TA} {E : XK} {m1 : (γ → μ β) → μ β} {m2 : (δ → μ β) → μ β} (π : γ → δ → α) (h1 : EvA p t σ S H m1 A1) (h2 : EvA p tk σ S H m2 A2) [Mo A1]
    (hπ : ∀ a b vs zs S, A1 a vs S → A2 b zs S → vs.length = n ∧ zs.length = m' ∧ A (π a b) (pick ix (vs ++ zs)) S) : Ev p (tCallG n m' ix (spV F0 fm (fun _ => A) R) E t tk) σ S H (fun k => m1 fun a => m2 fun b => Mir.lft (fm (π a b)) >>= k) R := fun S1 H1 s g ps k z hm Q q =>
  h1 S1 H1 s g ps _ z hm _ fun a vs S2 H2 s2 g2 p2 r hm2 => h2 S2 H2 s2 (g.tr g2) p2 _ z hm2 _ fun b zs S3 H3 s3 g3 p3 r3 hm3 => by
    obtain ⟨c, e, hm4⟩ := run_of_lft hm3
    obtain ⟨l1, l2, r4⟩ := hπ a b vs zs S3 (Mo.mo g3.s r) r3
    refine ⟨l1, l2, (), π a b, S3, (), c, (), g3.i, pot0', r4, by show (fm _).map _ = _; rw [e]; rfl, fun v S' H' g4 _ r5 => ?_⟩
    exact q c v S' H' s3 ((g2.tr g3).tr (Gm.up g4)) (p3.go g4) r5 hm4
theorem l_callK {n m' : Nat} {ix : List Nat} {fm : α → Option ρ} {A : Rq α} {A1 : Rq γ} {A2 : Rq δ} {R : Rq ρ} {t tk : TA} {E : XK} {m1 : (γ → μ β) → μ β} {m2 : (δ → μ β) → μ β} (π : γ → δ → α) (h1 : EvA p t σ S H m1 A1) (h2 : EvA p tk σ S H m2 A2) [Mo A1]
    (hπ : ∀ a b vs zs S, A1 a vs S → A2 b zs S → vs.length = n ∧ zs.length = m' ∧ A (π a b) (pick ix (vs ++ zs)) S) : EvL p (tCallG n m' ix (spN F0 fm (fun _ => A) R) E t tk) σ S H (fun k => m1 fun a => m2 fun b => Mir.lft (fm (π a b)) >>= k) R := fun S1 H1 s g ps k z hm Q q =>
  h1 S1 H1 s g ps _ z hm _ fun a vs S2 H2 s2 g2 p2 r hm2 => h2 S2 H2 s2 (g.tr g2) p2 _ z hm2 _ fun b zs S3 H3 s3 g3 p3 r3 hm3 => by
    obtain ⟨c, e, hm4⟩ := run_of_lft hm3
    obtain ⟨l1, l2, r4⟩ := hπ a b vs zs S3 (Mo.mo g3.s r) r3
    refine ⟨l1, l2, (), π a b, S3, (), c, (), g3.i, pot0', r4, by show (fm _).map _ = _; rw [e]; rfl, fun x us S' H' g4 _ n e3 n3 r5 => ?_⟩
    have n1 : H1 x = none := by
      cases e : H1 x with
      | none => rfl
      | some u => obtain ⟨u', e'⟩ := (g2.tr g3).t x u e; rw [n] at e'; cases e'
    exact q c x us S' H' s3 ((g2.tr g3).tr (Gm.up g4)) (p3.go g4) n1 e3 n3 (new_nM p3 n) r5 hm4
end

/-! ### the law's end -/
theorem vals_ints' {vs : List Value} {ns : List Int} (h : IntsAre vs ns) : Vals (ns.map V.int) vs := vals_ints h
/-- the head's goal, from the law's promise: as the layer's own, guards told -/
theorem law_G {P : Program} {w : World} {K : PySem.W.Frag} {mg mb : Str → Option Value} {CX : CXT} {k : Nat} {fa a : Addr} {fd : FuncData} {x : Str} {sp : Sp} {s₁ : Shared} {vs : List Value} {ns : List Int}
    (KX : K.In s₁.heap) (hns : s₁.heap.Ns mainGlobals mg) (hdg : s₁.heap.NoDigits) (hb : s₁.heap.Ns builtinsNs mb) (hbb : ∀ x : Str, x ≠ "__name__" → mb x = bootBuiltins x) (hlim : s₁.heap.NoLimit) (hg : s₁.gens = #[])
    (ha : s₁.heap.get? a = some { cls := .type "list", data := .seq vs.toArray }) (hi : IntsAre vs ns) (hl : ns.length ≤ sizeLine) (hr : Room k callerA)
    (F : ∀ base : Heap, K.In base → base.Ns mainGlobals mg → base.NoDigits → FnG P w K mg base CX k fa fd [x] sp) (hbind : ∀ (s : Shared) (u : Value), BindsTo s fd ⟨[u], []⟩ [(x, u)])
    (hsp : ∀ H : Hp, SqL K H a (ns.map V.int) → sp [.ref a] H (fun v _ => v = .bl true) fun _ _ _ => False)
    (hCX : ∀ H e s', CX [] H s₁ (fun _ _ _ => False) e s' → False) :
    codeAny (model P w) callerA (.call (.ref fa) ⟨[.ref a], []⟩) (fun r s' => r = .ok (.ret (.bool true)) ∧ OldK s₁.heap s'.heap ∧ s'.os = s₁.os ∧ AllBare s'.gens) s₁ := by
  have rv := vals_ints hi
  have lenV := hi.length
  -- a heap that tracks at most the script
  let ob : Obj := { cls := .type "list", data := .seq vs.toArray }
  have go : ∀ H : Hp, (∀ b u, H b = some u → b = a ∧ u = .frz ob (.lst (ns.map V.int))) → SqL K H a (ns.map V.int) → (H a ≠ none → K.lookup a = none) →
      codeAny (model P w) callerA (.call (.ref fa) ⟨[.ref a], []⟩) (fun r s' => r = .ok (.ret (.bool true)) ∧ OldK s₁.heap s'.heap ∧ s'.os = s₁.os ∧ AllBare s'.gens) s₁ := by
    intro H only hS hK
    have ok : HOk P w H s₁.heap := by
      intro b u e
      obtain ⟨e1, e2⟩ := only b u e
      subst e1 e2
      exact ⟨ha, by rw [List.length_map]; exact hl, vs, 0, rv, ha⟩
    have free : ∀ {b : Addr} {o : Obj} {es : Array DictEntry} {ep : Nat}, s₁.heap.get? b = some o → o.data = .dict es ep → H b = none := by
      intro b o es ep e d
      cases q : H b with
      | none => rfl
      | some u =>
        obtain ⟨e1, _⟩ := only b u q
        subst e1
        rw [ha] at e
        cases e
        exact nomatch d
    have ns' : ∀ {b : Addr} {m : Str → Option Value}, s₁.heap.Ns b m → (hidT s₁.heap H).Ns b m := by
      rintro b m ⟨o, es, ep, e, d, r⟩
      exact ⟨o, es, ep, hidT_get e (free e d), d, r⟩
    have inB : K.In (hidT s₁.heap H) := by
      intro b o e
      apply hidT_get (KX b o e)
      cases q : H b with
      | none => rfl
      | some u =>
        obtain ⟨e1, _⟩ := only b u q
        subst e1
        rw [hK (by rw [q]; simp)] at e
        cases e
    have md : Mod K mg (hidT s₁.heap H) := ⟨inB, ns' hns, ⟨mb, ns' hb, hbb⟩, by obtain ⟨mc, h1, h2⟩ := hlim; exact ⟨mc, ns' h1, h2⟩⟩
    have none_in : ∀ b : Addr, b ∉ frs [] := fun b z => nomatch (show b ∈ ([] : List Addr) from z)
    have e0 : Env0 P w K mg (hidT s₁.heap H) callerA [] s₁ H :=
      ⟨rfl, md, fun b o e => of_hidT e, Nat.le_of_eq (hidT_size _ _), trivial, fun b hb => absurd hb (none_in b), ok, .of_eq hg⟩
    have run := (F _ inB (ns' hns) (let ⟨mc, h1, h2⟩ := hdg; ⟨mc, ns' h1, h2⟩)).run callerA [] s₁ H ⟨[.ref a], []⟩ [.ref a] [.ref a] _ _ hr rfl e0 (hbind s₁ (.ref a)) (.cons rfl .nil) (hsp H hS)
    refine codeAny_mono run ?_
    intro r s' h
    match r, h with
    | .error e, h => exact (hCX H e s' h).elim
    | .ok (.ret u), h =>
      obtain ⟨v, H', os, bare, un, ok', r', q⟩ := h
      have q' : v = .bl true := q
      subst q'
      have ru : u = Value.bool true := r'
      subst ru
      refine ⟨rfl, OldK.of_keep ?_, os, bare⟩
      intro b o e
      cases q : H b with
      | none => exact un.keep b o e q (none_in b) (by simp)
      | some u =>
        obtain ⟨e1, e2⟩ := only b u q
        subst e1 e2
        obtain ⟨g1, _⟩ := ok' _ _ (un.frzs _ _ _ q)
        rw [ha] at e
        cases e
        exact g1
  cases hk : K.lookup a with
  | some o =>
    have e := KX a o hk
    rw [ha] at e
    cases e
    exact go (fun _ => none) (fun _ _ z => nomatch z) (.inr ⟨_, vs.toArray, _, hk, rfl, rfl, rfl, by rw [List.size_toArray, lenV]; exact hl, by simpa using rv⟩) (fun z => absurd rfl z)
  | none =>
    refine go (upd (fun _ => none) a (.frz ob (.lst (ns.map V.int)))) ?_ (.inl (.inr ⟨ob, upd_same⟩)) (fun _ => hk)
    intro b u z
    by_cases hb : b = a
    · subst hb
      rw [upd_same] at z
      exact ⟨rfl, (Option.some.inj z).symm⟩
    · rw [upd_ne hb] at z
      cases z
theorem walk_G {l : PySem.W.OpenLaw} {n k : Nat} {q : Program} {loose : List Str} {XP : (Str → Option Value) → Heap → Prop} {YP : World → Heap → Prop} {d : DefRec} {K : Params → PySem.W.Frag} {CX : CXT} {sp : PySem.W.Frag → Sp} {x : Str}
    (hn : l.most = some n) (hn2 : n ≤ sizeLine) (hdf : d.params.defaults = []) (hr : Room k callerA)
    (hY : ∀ (w : World) (h : Heap), YP w h → (K w.params).In h)
    (F : ∀ (w : World) (mg : Str → Option Value) (fa : Addr) (h : Heap), (K w.params).In h → h.Ns mainGlobals mg → mg d.name = some (.ref fa) →
      ∃ fd : FuncData, (∀ (s : Shared) (u : Value), BindsTo s fd ⟨[u], []⟩ [(x, u)]) ∧
        ∀ base : Heap, (K w.params).In base → base.Ns mainGlobals mg → base.NoDigits → FnG l.prog w (K w.params) mg base CX k fa fd [x] (sp (K w.params)))
    (hsp : ∀ (K : PySem.W.Frag) (H : Hp) (a : Addr) (ns : List Int), ns.length ≤ n → (∀ i ∈ ns, Builtin.Int.intBits i ≤ 1048576) → SqL K H a (ns.map V.int) → sp K [.ref a] H (fun v _ => v = .bl true) fun _ _ _ => False)
    (hCX : ∀ (H : Hp) (s : Shared) (e : Value) (s' : Shared), CX [] H s (fun _ _ _ => False) e s' → False) :
    PySem.W.WalkO q loose XP YP l.row.toRowW d [] (fun f vs => PySem.call f vs) := by
  refine Att.attach_callB hn hdf ?_
  intro w s₀ s₁ mg mb fa o pm cd doc a vs ns G Y ho hd hcd hmg hobj hints hlen hbits hg
  have KX := hY w _ Y
  obtain ⟨fd, hb, hF⟩ := F w mg fa _ KX G.T.g hmg
  exact law_G KX G.T.g G.T.nodigits G.T.b G.T.builtins G.T.nolimit hg hobj hints (Nat.le_trans hlen hn2) hr hF hb (fun H hS => hsp _ H a ns hlen hbits hS) (fun H e s' => hCX H s₁ e s')
end Wk
set_option Elab.async false
set_option maxRecDepth 100000
set_option maxHeartbeats 4000000
set_option linter.all false
/-! W4: operators, built-ins, repr -/
namespace Wk
open PySem L2
open PyProof.Rows hiding St
section
variable {μ : Type → Type} {τ : Type} [Mir μ τ] {α β γ δ ρ : Type} {p : Pt τ} {σ : St} {S H S0 H0 : Hp} {te ta tb : TE} {tt : TT} {K : PySem.W.Frag}

/-! ### whole numbers -/
theorem e_add {mA mB : (Int → μ β) → μ β} (ha : Ev p ta σ S H mA rI) (hb : Ev p tb σ S H mB rI) : Ev p (tOp (rI0 fun i j => .int (i + j)) ta tb) σ S H (fun k => mA fun i => mB fun j => k (i + j)) rI := e_op0 (D := fun i j => i + j) ha hb fun _ _ _ => rfl
theorem e_sub {mA mB : (Int → μ β) → μ β} (ha : Ev p ta σ S H mA rI) (hb : Ev p tb σ S H mB rI) : Ev p (tOp (rI0 fun i j => .int (i - j)) ta tb) σ S H (fun k => mA fun i => mB fun j => k (i - j)) rI := e_op0 (D := fun i j => i - j) ha hb fun _ _ _ => rfl
theorem e_mul {mA mB : (Int → μ β) → μ β} (ha : Ev p ta σ S H mA rI) (hb : Ev p tb σ S H mB rI) : Ev p (tOp (L2.rI CMulX fun i j => .int (i * j)) ta tb) σ S H (fun k => mA fun i => mB fun j => Mir.lft (grd (Sm i ∧ Sm j)) >>= fun _ => k (i * j)) rI :=
  e_opC (c := fun i j => Sm i ∧ Sm j) (D := fun i j => i * j) ha hb (fun _ _ h => Sm.mul h) fun _ _ _ _ => rfl
def Dv (j : Int) : Prop := 0 < j ∧ j.natAbs.log2 < 9000
instance (j : Int) : Decidable (Dv j) := inferInstanceAs (Decidable (_ ∧ _))
theorem e_fdiv {mA mB : (Int → μ β) → μ β} (ha : Ev p ta σ S H mA rI) (hb : Ev p tb σ S H mB rI) : Ev p (tOp (L2.rI CDivW fun i j => .int (i / j)) ta tb) σ S H (fun k => mA fun i => mB fun j => Mir.lft (grd (Dv j)) >>= fun _ => k (i / j)) rI :=
  e_opC (c := fun _ j => Dv j) (D := fun i j => i / j) ha hb (fun _ _ h => h) fun _ _ _ _ => rfl
theorem e_mod {mA mB : (Int → μ β) → μ β} (ha : Ev p ta σ S H mA rI) (hb : Ev p tb σ S H mB rI) : Ev p (tOp (L2.rI (fun _ j => 0 < j) fun i j => .int (i % j)) ta tb) σ S H (fun k => mA fun i => mB fun j => Mir.lft (grd (0 < j)) >>= fun _ => k (i % j)) rI :=
  e_opC (c := fun _ j => 0 < j) (D := fun i j => i % j) ha hb (fun _ _ h => h) fun _ _ _ _ => rfl
def Pw (i j : Int) : Prop := 0 ≤ j ∧ j ≤ 1000000 ∧ i.natAbs < 18446744073709551616
instance (i j : Int) : Decidable (Pw i j) := inferInstanceAs (Decidable (_ ∧ _))
theorem e_pow {mA mB : (Int → μ β) → μ β} (ha : Ev p ta σ S H mA rI) (hb : Ev p tb σ S H mB rI) : Ev p (tOp (L2.rI CPow fun i j => .int (i ^ j.toNat)) ta tb) σ S H (fun k => mA fun i => mB fun j => Mir.lft (grd (Pw i j)) >>= fun _ => k (i ^ j.toNat)) rI :=
  e_opC (c := Pw) (D := fun i j => i ^ j.toNat) ha hb (fun _ _ h => ⟨h.1, h.2.1, by have := h.2.2; omega⟩) fun _ _ _ _ => rfl
def Sl (i j : Int) : Prop := Sm i ∧ 0 ≤ j ∧ j ≤ 60000000
instance (i j : Int) : Decidable (Sl i j) := inferInstanceAs (Decidable (_ ∧ _))
theorem e_shl {mA mB : (Int → μ β) → μ β} (ha : Ev p ta σ S H mA rI) (hb : Ev p tb σ S H mB rI) : Ev p (tOp (L2.rI CShl fun i j => .int (i * 2 ^ j.toNat)) ta tb) σ S H (fun k => mA fun i => mB fun j => Mir.lft (grd (Sl i j)) >>= fun _ => k (i * 2 ^ j.toNat)) rI :=
  e_opC (c := Sl) (D := fun i j => i * 2 ^ j.toNat) ha hb (fun i _ h => ⟨h.2.1, by have := bits_log i; have := h.1; unfold Sm at this; have := h.2.2; omega⟩) fun _ _ _ _ => rfl
theorem e_shr {mA mB : (Int → μ β) → μ β} (ha : Ev p ta σ S H mA rI) (hb : Ev p tb σ S H mB rI) : Ev p (tOp (L2.rI (fun _ j => 0 ≤ j) fun i j => .int (i / 2 ^ j.toNat)) ta tb) σ S H (fun k => mA fun i => mB fun j => Mir.lft (grd (0 ≤ j)) >>= fun _ => k (i / 2 ^ j.toNat)) rI :=
  e_opC (c := fun _ j => 0 ≤ j) (D := fun i j => i / 2 ^ j.toNat) ha hb (fun _ _ h => h) fun _ _ _ _ => rfl
theorem e_band {mA mB : (Int → μ β) → μ β} (ha : Ev p ta σ S H mA rI) (hb : Ev p tb σ S H mB rI) : Ev p (tOp (rI0 fun i j => .int (Builtin.bitAnd i j)) ta tb) σ S H (fun k => mA fun i => mB fun j => k (Builtin.bitAnd i j)) rI := e_op0 (D := fun i j => Builtin.bitAnd i j) ha hb fun _ _ _ => rfl
theorem e_bor {mA mB : (Int → μ β) → μ β} (ha : Ev p ta σ S H mA rI) (hb : Ev p tb σ S H mB rI) : Ev p (tOp (rI0 fun i j => .int (Builtin.bitOr i j)) ta tb) σ S H (fun k => mA fun i => mB fun j => k (Builtin.bitOr i j)) rI := e_op0 (D := fun i j => Builtin.bitOr i j) ha hb fun _ _ _ => rfl
theorem e_neg {m : (Int → μ β) → μ β} (h : Ev p te σ S H m rI) : Ev p (tUn (L2.rU fun i => .int (-i)) te) σ S H (fun k => m fun i => k (-i)) rI := fun S1 H1 s g ps k z hm Q q =>
  h S1 H1 s g ps _ z hm _ fun i v S2 H2 s2 g2 p2 r hm2 => ⟨i, r, q _ _ S2 H2 s2 g2 p2 rfl hm2⟩
theorem e_lt {mA mB : (Int → μ β) → μ β} (ha : Ev p ta σ S H mA rI) (hb : Ev p tb σ S H mB rI) : Ev p (tOp (rI0 fun i j => .bl (decide (i < j))) ta tb) σ S H (fun k => mA fun i => mB fun j => k (decide (i < j))) rB := e_op0 (D := fun i j => decide (i < j)) ha hb fun _ _ _ => rfl
theorem e_le {mA mB : (Int → μ β) → μ β} (ha : Ev p ta σ S H mA rI) (hb : Ev p tb σ S H mB rI) : Ev p (tOp (rI0 fun i j => .bl (decide (i ≤ j))) ta tb) σ S H (fun k => mA fun i => mB fun j => k (decide (i ≤ j))) rB := e_op0 (D := fun i j => decide (i ≤ j)) ha hb fun _ _ _ => rfl
theorem e_gt {mA mB : (Int → μ β) → μ β} (ha : Ev p ta σ S H mA rI) (hb : Ev p tb σ S H mB rI) : Ev p (tOp (rI0 fun i j => .bl (decide (j < i))) ta tb) σ S H (fun k => mA fun i => mB fun j => k (decide (j < i))) rB := e_op0 (D := fun i j => decide (j < i)) ha hb fun _ _ _ => rfl
theorem e_ge {mA mB : (Int → μ β) → μ β} (ha : Ev p ta σ S H mA rI) (hb : Ev p tb σ S H mB rI) : Ev p (tOp (rI0 fun i j => .bl (decide (j ≤ i))) ta tb) σ S H (fun k => mA fun i => mB fun j => k (decide (j ≤ i))) rB := e_op0 (D := fun i j => decide (j ≤ i)) ha hb fun _ _ _ => rfl

/-! ### flat values that are equal -/
class Fl {α : Type} (R : Rp α) where
  c : α → V
  is : ∀ a v S, R a v S ↔ v = c a
  sc : ∀ a b, scal (c a) (c b) = true
  inj : ∀ a b, c a = c b → a = b
instance : Fl rI := ⟨V.int, fun _ _ _ => Iff.rfl, fun _ _ => rfl, fun _ _ h => V.int.inj h⟩
instance : Fl rB := ⟨V.bl, fun _ _ _ => Iff.rfl, fun _ _ => rfl, fun _ _ h => V.bl.inj h⟩
instance : Fl rS := ⟨V.str, fun _ _ _ => Iff.rfl, fun _ _ => rfl, fun _ _ h => V.str.inj h⟩
theorem Fl.dec {R : Rp α} [Fl R] [DecidableEq α] (a b : α) : decide (Fl.c R a = Fl.c R b) = decide (a = b) := by
  by_cases h : a = b
  · subst h; simp
  · rw [decide_eq_false h, decide_eq_false fun e => h (Fl.inj _ _ e)]
theorem e_eq {R : Rp α} [Fl R] [DecidableEq α] {mA mB : (α → μ β) → μ β} (ha : Ev p ta σ S H mA R) (hb : Ev p tb σ S H mB R) : Ev p (tOp rEq ta tb) σ S H (fun k => mA fun i => mB fun j => k (decide (i = j))) rB := fun S1 H1 s g ps k z hm Q q =>
  ha S1 H1 s g ps _ z hm _ fun i v S2 H2 s2 g2 p2 r2 hm2 => hb S2 H2 s2 (g.tr g2) p2 _ z hm2 _ fun j u S3 H3 s3 g3 p3 r3 hm3 => by
    have e1 := (Fl.is i v S2).mp r2
    have e2 := (Fl.is j u S3).mp r3
    subst e1
    subst e2
    exact ⟨Fl.sc i j, q _ _ S3 H3 s3 (g2.tr g3) p3 (by show V.bl _ = V.bl _; rw [Fl.dec]) hm3⟩
theorem e_ne {R : Rp α} [Fl R] [DecidableEq α] {mA mB : (α → μ β) → μ β} (ha : Ev p ta σ S H mA R) (hb : Ev p tb σ S H mB R) : Ev p (tOp rNe ta tb) σ S H (fun k => mA fun i => mB fun j => k (!decide (i = j))) rB := fun S1 H1 s g ps k z hm Q q =>
  ha S1 H1 s g ps _ z hm _ fun i v S2 H2 s2 g2 p2 r2 hm2 => hb S2 H2 s2 (g.tr g2) p2 _ z hm2 _ fun j u S3 H3 s3 g3 p3 r3 hm3 => by
    have e1 := (Fl.is i v S2).mp r2
    have e2 := (Fl.is j u S3).mp r3
    subst e1
    subst e2
    exact ⟨Fl.sc i j, q _ _ S3 H3 s3 (g2.tr g3) p3 (by show V.bl _ = V.bl _; rw [Fl.dec]) hm3⟩
/-- is None, is not None of what may be None -/
class NN {α : Type} (R : Rp α) : Prop where
  nn : ∀ a v S, R a v S → v ≠ .non
instance : NN rI := ⟨fun _ _ _ h e => by rw [show _ = V.int _ from h] at e; cases e⟩
instance : NN rB := ⟨fun _ _ _ h e => by rw [show _ = V.bl _ from h] at e; cases e⟩
instance : NN rS := ⟨fun _ _ _ h e => by rw [show _ = V.str _ from h] at e; cases e⟩
instance {A : Rq α} : NN (rT K A) := ⟨fun _ _ _ ⟨_, _, h, _⟩ e => by rw [h] at e; cases e⟩
instance {A : Rq α} : NN (rL A) := ⟨fun _ _ _ ⟨_, _, h, _⟩ e => by rw [h] at e; cases e⟩
theorem isN_dec {R : Rp α} [NN R] {a : Option α} {v : V} (r : rO R a v S) : decide (v = .non) = a.isNone := by
  cases a with
  | none => rw [show v = .non from r]; rfl
  | some x => rw [decide_eq_false (NN.nn x v S r)]; rfl
theorem e_isN {R : Rp α} [NN R] {m : (Option α → μ β) → μ β} (h : Ev p te σ S H m (rO R)) : Ev p (tOp (fun x y H Q => y = .non ∧ Q (.bl (decide (x = .non))) H) te (tC .non)) σ S H (fun k => m fun a => k a.isNone) rB := fun S1 H1 s g ps k z hm Q q =>
  h S1 H1 s g ps _ z hm _ fun a v S2 H2 s2 g2 p2 r hm2 => ⟨rfl, q _ _ S2 H2 s2 g2 p2 (by show V.bl _ = V.bl _; rw [isN_dec r]) hm2⟩
theorem e_notN {R : Rp α} [NN R] {m : (Option α → μ β) → μ β} (h : Ev p te σ S H m (rO R)) : Ev p (tOp (fun x y H Q => y = .non ∧ Q (.bl (!decide (x = .non))) H) te (tC .non)) σ S H (fun k => m fun a => k (!a.isNone)) rB := fun S1 H1 s g ps k z hm Q q =>
  h S1 H1 s g ps _ z hm _ fun a v S2 H2 s2 g2 p2 r hm2 => ⟨rfl, q _ _ S2 H2 s2 g2 p2 (by show V.bl _ = V.bl _; rw [isN_dec r]) hm2⟩

/-! ### places -/
theorem All.atI {R : Rp α} {xs : List α} {vs : List V} {i : Int} {x : α} (h : All R S xs vs) (e : L2.atI xs i = some x) : ∃ v, L2.atI vs i = some v ∧ R x v S := by
  unfold L2.atI at e ⊢
  rw [h.len] at e
  cases q : ixN vs.length i with
  | none => rw [q] at e; cases e
  | some j =>
    rw [q] at e
    obtain ⟨v, h1, h2⟩ := h.get (i := j) (x := x) e
    exact ⟨v, h1, h2⟩
theorem e_ixL {R : Rp α} [Mo R] {mA : (List α → μ β) → μ β} {mB : (Int → μ β) → μ β} (ha : EvR p ta σ S H mA (aAll R)) (hb : Ev p tb σ S H mB rI) : Ev p (tOp (rIxL K) ta tb) σ S H (fun k => mA fun xs => mB fun i => Mir.lft (L2.atI xs i) >>= k) R := fun S1 H1 s g ps k z hm Q q =>
  ha S1 H1 s g ps _ z hm _ fun xs x vs S2 H2 s2 g2 p2 e2 m2 r2 hm2 => hb S2 H2 s2 (g.tr g2) p2 _ z hm2 _ fun i u S3 H3 s3 g3 p3 r3 hm3 => by
    obtain ⟨a, e, hm4⟩ := run_of_lft hm3
    have r2' := All.mo g3.s (show All R S2 xs vs from r2)
    obtain ⟨v, e4, r4⟩ := r2'.atI e
    cases (show u = .int i from r3)
    exact ⟨x, vs, i, v, rfl, rfl, .of (g3.h _ _ m2 e2), e4, q a v S3 H3 s3 (g2.tr g3) p3 r4 hm4⟩
theorem e_ixT {R : Rp α} [Mo R] {mA : (List α → μ β) → μ β} {mB : (Int → μ β) → μ β} (ha : Ev p ta σ S H mA (rT K (aAll R))) (hb : Ev p tb σ S H mB rI) : Ev p (tOp (rIxT K) ta tb) σ S H (fun k => mA fun xs => mB fun i => Mir.lft (L2.atI xs i) >>= k) R := fun S1 H1 s g ps k z hm Q q =>
  ha S1 H1 s g ps _ z hm _ fun xs v S2 H2 s2 g2 p2 ⟨x, vs, e2, h2, r2⟩ hm2 => hb S2 H2 s2 (g.tr g2) p2 _ z hm2 _ fun i u S3 H3 s3 g3 p3 r3 hm3 => by
    obtain ⟨a, e, hm4⟩ := run_of_lft hm3
    have r2' := All.mo g3.s (show All R S2 xs vs from r2)
    obtain ⟨v, e4, r4⟩ := r2'.atI e
    cases (show u = .int i from r3)
    exact ⟨x, vs, i, v, e2, rfl, sqT_ex (g3.s.tr g3.i) h2, e4, q a v S3 H3 s3 (g2.tr g3) p3 r4 hm4⟩
/-- a written place of a thing of a known make -/
theorem e_ixC {A : Rq α} {R : Rp γ} {n : Int} {f : α → γ} {mA : (α → μ β) → μ β} {mB : (Int → μ β) → μ β} (ha : Ev p ta σ S H mA (rT K A)) (hb : tb = tC (.int n)) (hn : ∀ a vs S, A a vs S → ∃ v, L2.atI vs n = some v ∧ R (f a) v S) : Ev p (tOp (rIxT K) ta tb) σ S H (fun k => mA fun a => k (f a)) R := fun S1 H1 s g ps k z hm Q q =>
  ha S1 H1 s g ps _ z hm _ fun a v S2 H2 s2 g2 p2 ⟨x, vs, e2, h2, r2⟩ hm2 => by
    subst hb
    obtain ⟨u, e4, r4⟩ := hn a vs S2 r2
    exact ⟨x, vs, n, u, e2, rfl, sqT_ex g2.i h2, e4, q _ u S2 H2 s2 g2 p2 r4 hm2⟩
theorem e_ixCL {A : Rq α} {R : Rp γ} {n : Int} {f : α → γ} {mA : (α → μ β) → μ β} (ha : EvR p ta σ S H mA A) (hb : tb = tC (.int n)) (hn : ∀ a vs S, A a vs S → ∃ v, L2.atI vs n = some v ∧ R (f a) v S) : Ev p (tOp (rIxL K) ta tb) σ S H (fun k => mA fun a => k (f a)) R := fun S1 H1 s g ps k z hm Q q =>
  ha S1 H1 s g ps _ z hm _ fun a x vs S2 H2 s2 g2 p2 e2 m2 r2 hm2 => by
    subst hb
    obtain ⟨u, e4, r4⟩ := hn a vs S2 r2
    exact ⟨x, vs, n, u, rfl, rfl, .of e2, e4, q _ u S2 H2 s2 g2 p2 r4 hm2⟩

/-! ### built-in functions -/
theorem c_lenL {R : Rp α} {m : (List α → μ β) → μ β} (h : EvR p te σ S H m (aAll R)) : Ev p (tCB (fun xs H Q => ∃ p ys, xs = [.ref p] ∧ (SqL K H p ys ∨ SqT K H p ys) ∧ Q (.int ys.length) H) (tCons te tNil)) σ S H (fun k => m fun xs => k (xs.length : Int)) rI := fun S1 H1 s g ps k z hm Q q =>
  h S1 H1 s g ps _ z hm _ fun xs x vs S2 H2 s2 g2 p2 e2 m2 r2 hm2 => ⟨x, vs, rfl, .inl (.of e2), q _ _ S2 H2 s2 g2 p2 (by show V.int _ = V.int _; rw [All.len (show All R S2 xs vs from r2)]) hm2⟩
theorem c_lenT {R : Rp α} {m : (List α → μ β) → μ β} (h : Ev p te σ S H m (rT K (aAll R))) : Ev p (tCB (fun xs H Q => ∃ p ys, xs = [.ref p] ∧ (SqL K H p ys ∨ SqT K H p ys) ∧ Q (.int ys.length) H) (tCons te tNil)) σ S H (fun k => m fun xs => k (xs.length : Int)) rI := fun S1 H1 s g ps k z hm Q q =>
  h S1 H1 s g ps _ z hm _ fun xs v S2 H2 s2 g2 p2 ⟨x, vs, e2, h2, r2⟩ hm2 => ⟨x, vs, by rw [e2], .inr (sqT_ex g2.i h2), q _ _ S2 H2 s2 g2 p2 (by show V.int _ = V.int _; rw [All.len (show All R S2 xs vs from r2)]) hm2⟩
theorem c_sum {m : (List Int → μ β) → μ β} (h : EvR p te σ S H m (aAll rI)) : Ev p (tCB (rSum K) (tCons te tNil)) σ S H (fun k => m fun xs => k xs.sum) rI := fun S1 H1 s g ps k z hm Q q =>
  h S1 H1 s g ps _ z hm _ fun xs x vs S2 H2 s2 g2 p2 e2 m2 r2 hm2 => ⟨x, xs, rfl, .of (by rw [e2, All.ints r2]), q _ _ S2 H2 s2 g2 p2 rfl hm2⟩
theorem min_one {xs : List Int} {a m : Int} (h : xs.min? = some a) (h1 : m ∈ xs) (h2 : ∀ y, y ∈ xs → m ≤ y) : m = a := by
  have := List.min?_eq_some_iff.mp h
  exact Int.le_antisymm (h2 a this.1) (this.2 m h1)
theorem max_one {xs : List Int} {a m : Int} (h : xs.max? = some a) (h1 : m ∈ xs) (h2 : ∀ y, y ∈ xs → y ≤ m) : m = a := by
  have := List.max?_eq_some_iff.mp h
  exact Int.le_antisymm (this.2 m h1) (h2 a this.1)
theorem c_min {m : (List Int → μ β) → μ β} (h : EvR p te σ S H m (aAll rI)) : Ev p (tCB (rMin K) (tCons te tNil)) σ S H (fun k => m fun xs => Mir.lft xs.min? >>= k) rI := fun S1 H1 s g ps k z hm Q q =>
  h S1 H1 s g ps _ z hm _ fun xs x vs S2 H2 s2 g2 p2 e2 m2 r2 hm2 => by
    obtain ⟨a, e, hm3⟩ := run_of_lft hm2
    refine ⟨x, xs, rfl, .of (by rw [e2, All.ints r2]), ?_, fun n h1 h2 => q a _ S2 H2 s2 g2 p2 (by rw [min_one e h1 h2]; rfl) hm3⟩
    cases xs with
    | nil => cases e
    | cons _ _ => simp
theorem c_max {m : (List Int → μ β) → μ β} (h : EvR p te σ S H m (aAll rI)) : Ev p (tCB (rMax K) (tCons te tNil)) σ S H (fun k => m fun xs => Mir.lft xs.max? >>= k) rI := fun S1 H1 s g ps k z hm Q q =>
  h S1 H1 s g ps _ z hm _ fun xs x vs S2 H2 s2 g2 p2 e2 m2 r2 hm2 => by
    obtain ⟨a, e, hm3⟩ := run_of_lft hm2
    refine ⟨x, xs, rfl, .of (by rw [e2, All.ints r2]), ?_, fun n h1 h2 => q a _ S2 H2 s2 g2 p2 (by rw [max_one e h1 h2]; rfl) hm3⟩
    cases xs with
    | nil => cases e
    | cons _ _ => simp
theorem c_min2 {mA mB : (Int → μ β) → μ β} (ha : Ev p ta σ S H mA rI) (hb : Ev p tb σ S H mB rI) : Ev p (tCB (fun xs H Q => ∃ i j, xs = [.int i, .int j] ∧ Q (.int (if j < i then j else i)) H) (tCons ta (tCons tb tNil))) σ S H (fun k => mA fun i => mB fun j => k (if j < i then j else i)) rI := fun S1 H1 s g ps k z hm Q q =>
  ha S1 H1 s g ps _ z hm _ fun i v S2 H2 s2 g2 p2 r2 hm2 => hb S2 H2 s2 (g.tr g2) p2 _ z hm2 _ fun j u S3 H3 s3 g3 p3 r3 hm3 => ⟨i, j, by rw [show v = .int i from r2, show u = .int j from r3], q _ _ S3 H3 s3 (g2.tr g3) p3 rfl hm3⟩
theorem c_max2 {mA mB : (Int → μ β) → μ β} (ha : Ev p ta σ S H mA rI) (hb : Ev p tb σ S H mB rI) : Ev p (tCB (fun xs H Q => ∃ i j, xs = [.int i, .int j] ∧ Q (.int (if j > i then j else i)) H) (tCons ta (tCons tb tNil))) σ S H (fun k => mA fun i => mB fun j => k (if j > i then j else i)) rI := fun S1 H1 s g ps k z hm Q q =>
  ha S1 H1 s g ps _ z hm _ fun i v S2 H2 s2 g2 p2 r2 hm2 => hb S2 H2 s2 (g.tr g2) p2 _ z hm2 _ fun j u S3 H3 s3 g3 p3 r3 hm3 => ⟨i, j, by rw [show v = .int i from r2, show u = .int j from r3], q _ _ S3 H3 s3 (g2.tr g3) p3 rfl hm3⟩
theorem c_abs {m : (Int → μ β) → μ β} (h : Ev p te σ S H m rI) : Ev p (tCB (fun xs H Q => ∃ i, xs = [.int i] ∧ Q (.int (if i < 0 then -i else i)) H) (tCons te tNil)) σ S H (fun k => m fun i => k (if i < 0 then -i else i)) rI := fun S1 H1 s g ps k z hm Q q =>
  h S1 H1 s g ps _ z hm _ fun i v S2 H2 s2 g2 p2 r2 hm2 => ⟨i, by rw [show v = .int i from r2], q _ _ S2 H2 s2 g2 p2 rfl hm2⟩
theorem c_int {m : (Int → μ β) → μ β} (h : Ev p te σ S H m rI) : Ev p (tCB (fun xs H Q => (∃ i, xs = [.int i] ∧ Q (.int i) H) ∨ ∃ k, xs = [.bl k] ∧ Q (.int (if k then 1 else 0)) H) (tCons te tNil)) σ S H (fun k => m fun i => k i) rI := fun S1 H1 s g ps k z hm Q q =>
  h S1 H1 s g ps _ z hm _ fun i v S2 H2 s2 g2 p2 r2 hm2 => .inl ⟨i, by rw [show v = .int i from r2], q _ _ S2 H2 s2 g2 p2 rfl hm2⟩
theorem c_intB {m : (Bool → μ β) → μ β} (h : Ev p te σ S H m rB) : Ev p (tCB (fun xs H Q => (∃ i, xs = [.int i] ∧ Q (.int i) H) ∨ ∃ k, xs = [.bl k] ∧ Q (.int (if k then 1 else 0)) H) (tCons te tNil)) σ S H (fun k => m fun b => k (if b then 1 else 0)) rI := fun S1 H1 s g ps k z hm Q q =>
  h S1 H1 s g ps _ z hm _ fun b v S2 H2 s2 g2 p2 r2 hm2 => .inr ⟨b, by rw [show v = .bl b from r2], q _ _ S2 H2 s2 g2 p2 rfl hm2⟩
theorem c_all {m : (List Bool → μ β) → μ β} (h : EvR p te σ S H m (aAll rB)) : Ev p (tCB (rAll K) (tCons te tNil)) σ S H (fun k => m fun xs => k (xs.all id)) rB := fun S1 H1 s g ps k z hm Q q =>
  h S1 H1 s g ps _ z hm _ fun xs x vs S2 H2 s2 g2 p2 e2 m2 r2 hm2 => ⟨x, xs, rfl, .of (by rw [e2, All.bools r2]), q _ _ S2 H2 s2 g2 p2 rfl hm2⟩
theorem c_any {m : (List Bool → μ β) → μ β} (h : EvR p te σ S H m (aAll rB)) : Ev p (tCB (rAny K) (tCons te tNil)) σ S H (fun k => m fun xs => k (xs.any id)) rB := fun S1 H1 s g ps k z hm Q q =>
  h S1 H1 s g ps _ z hm _ fun xs x vs S2 H2 s2 g2 p2 e2 m2 r2 hm2 => ⟨x, xs, rfl, .of (by rw [e2, All.bools r2]), q _ _ S2 H2 s2 g2 p2 rfl hm2⟩
def rTupOf (K : PySem.W.Frag) : List V → Hp → VK → Prop := fun xs H Q => ∃ p ys, xs = [.ref p] ∧ ((SqL K H p ys ∧ ∀ l, H l = none → Q (.ref l) (upd H l (.tup ys))) ∨ (SqT K H p ys ∧ Q (.ref p) H))
theorem c_tup {A : Rq α} [Mo A] {m : (α → μ β) → μ β} (h : EvR p te σ S H m A) : Ev p (tCB (rTupOf K) (tCons te tNil)) σ S H m (rT K A) := fun S1 H1 s g ps k z hm Q q =>
  h S1 H1 s g ps _ z hm _ fun xs x vs S2 H2 s2 g2 p2 e2 m2 r2 hm2 => ⟨x, vs, rfl, .inl ⟨.of e2, fun y hy =>
    have g3 : Gm p.M S2 H2 (upd S2 y (.tup vs)) (upd H2 y (.tup vs)) := Gm.new g2.i hy
    q xs _ _ _ s2 (g2.tr g3) (p2.go (Gm.new g2.i hy)) ⟨y, vs, rfl, .of upd_same, Mo.mo g3.s r2⟩ hm2⟩⟩
theorem l_list {A : Rq α} {m : (α → μ β) → μ β} (h : EvR p te σ S H m A) : EvL p (tCB (fun xs H Q => ∃ p ys, xs = [.ref p] ∧ (SqL K H p ys ∨ SqT K H p ys) ∧ ∀ l, H l = none → Q (.ref l) (upd H l (.lst ys))) (tCons te tNil)) σ S H m A := fun S1 H1 s g ps k z hm Q q =>
  h S1 H1 s g ps _ z hm _ fun xs x vs S2 H2 s2 g2 p2 e2 m2 r2 hm2 => ⟨x, vs, rfl, .inl (.of e2), fun y hy => by
    have n1 : H1 y = none := by
      cases e : H1 y with
      | none => rfl
      | some u => obtain ⟨u', e'⟩ := g2.t y u e; rw [hy] at e'; cases e'
    exact q xs y vs S2 _ s2 (g2.tr (Gm.own g2.i hy)) (p2.go (Gm.own g2.i hy)) n1 upd_same (g2.i.no hy) (new_nM p2 hy) r2 hm2⟩
theorem l_listT {A : Rq α} {m : (α → μ β) → μ β} (h : Ev p te σ S H m (rT K A)) : EvL p (tCB (fun xs H Q => ∃ p ys, xs = [.ref p] ∧ (SqL K H p ys ∨ SqT K H p ys) ∧ ∀ l, H l = none → Q (.ref l) (upd H l (.lst ys))) (tCons te tNil)) σ S H m A := fun S1 H1 s g ps k z hm Q q =>
  h S1 H1 s g ps _ z hm _ fun xs v S2 H2 s2 g2 p2 ⟨x, vs, e2, h2, r2⟩ hm2 => ⟨x, vs, by rw [e2], .inr (sqT_ex g2.i h2), fun y hy => by
    have n1 : H1 y = none := by
      cases e : H1 y with
      | none => rfl
      | some u => obtain ⟨u', e'⟩ := g2.t y u e; rw [hy] at e'; cases e'
    exact q xs y vs S2 _ s2 (g2.tr (Gm.own g2.i hy)) (p2.go (Gm.own g2.i hy)) n1 upd_same (g2.i.no hy) (new_nM p2 hy) r2 hm2⟩
/-- lists one behind another -/
theorem l_cat {R : Rp α} [Mo R] {mA mB : (List α → μ β) → μ β} (ha : EvR p ta σ S H mA (aAll R)) (hb : EvR p tb σ S H mB (aAll R)) : EvL p (tOp rCat ta tb) σ S H (fun k => mA fun xs => mB fun ys => Mir.lft (grd (xs.length + ys.length ≤ 16000000)) >>= fun _ => k (xs ++ ys)) (aAll R) := fun S1 H1 s g ps k z hm Q q =>
  ha S1 H1 s g ps _ z hm _ fun xs x vs S2 H2 s2 g2 p2 e2 m2 r2 hm2 => hb S2 H2 s2 (g.tr g2) p2 _ z hm2 _ fun ys y us S3 H3 s3 g3 p3 e3 m3 r3 hm3 => by
    obtain ⟨_, e, hm4⟩ := run_of_lft hm3
    have hl := grd_of e
    have a2 := All.mo g3.s (show All R S2 xs vs from r2)
    have a3 : All R S3 ys us := r3
    refine ⟨x, y, vs, us, rfl, rfl, g3.h _ _ m2 e2, e3, by rw [← a2.len, ← a3.len, sizeLine_eq]; omega, fun l hl => ?_⟩
    have n1 : H1 l = none := by
      cases e : H1 l with
      | none => rfl
      | some u => obtain ⟨u', e'⟩ := (g2.tr g3).t l u e; rw [hl] at e'; cases e'
    exact q _ l _ S3 _ s3 ((g2.tr g3).tr (Gm.own g3.i hl)) (p3.go (Gm.own g3.i hl)) n1 upd_same (g3.i.no hl) (new_nM p3 hl) (a2.app a3) hm4
theorem All.reps {R : Rp α} {xs : List α} {vs : List V} (h : All R S xs vs) : ∀ n : Nat, All R S (List.replicate n xs).flatten (List.replicate n vs).flatten
  | 0 => .nil
  | n + 1 => by
    rw [List.replicate_succ, List.replicate_succ, List.flatten_cons, List.flatten_cons]
    exact h.app (All.reps h n)
def RpB (n : Nat) (k : Int) : Prop := -(2 ^ 62) ≤ k ∧ k < 2 ^ 62 ∧ n * k.toNat ≤ 16000000
instance (n : Nat) (k : Int) : Decidable (RpB n k) := inferInstanceAs (Decidable (_ ∧ _))
theorem l_rep {R : Rp α} [Mo R] {mA : (List α → μ β) → μ β} {mB : (Int → μ β) → μ β} (ha : EvR p ta σ S H mA (aAll R)) (hb : Ev p tb σ S H mB rI) : EvL p (tOp rRep ta tb) σ S H (fun k => mA fun xs => mB fun n => Mir.lft (grd (RpB xs.length n)) >>= fun _ => k (List.replicate n.toNat xs).flatten) (aAll R) := fun S1 H1 s g ps k z hm Q q =>
  ha S1 H1 s g ps _ z hm _ fun xs x vs S2 H2 s2 g2 p2 e2 m2 r2 hm2 => hb S2 H2 s2 (g.tr g2) p2 _ z hm2 _ fun n u S3 H3 s3 g3 p3 r3 hm3 => by
    obtain ⟨_, e, hm4⟩ := run_of_lft hm3
    have hl := grd_of e
    have a2 := All.mo g3.s (show All R S2 xs vs from r2)
    cases (show u = .int n from r3)
    have l1 := hl.1
    have l2 := hl.2.1
    have l3 := hl.2.2
    rw [a2.len] at l3
    refine ⟨x, n, vs, rfl, rfl, g3.h _ _ m2 e2, by omega, by omega, by rw [sizeLine_eq]; omega, fun l hl => ?_⟩
    have n1 : H1 l = none := by
      cases e : H1 l with
      | none => rfl
      | some u => obtain ⟨u', e'⟩ := (g2.tr g3).t l u e; rw [hl] at e'; cases e'
    exact q _ l _ S3 _ s3 ((g2.tr g3).tr (Gm.own g3.i hl)) (p3.go (Gm.own g3.i hl)) n1 upd_same (g3.i.no hl) (new_nM p3 hl) (a2.reps _) hm4
/-- x in (a, b), x in xs: whole numbers -/
theorem inV_ints (x : Int) (xs : List Int) : inV (.int x) (xs.map V.int) = xs.contains x := by
  unfold inV
  rw [List.any_map]
  rw [List.contains_eq_any_beq]
  congr 1
  funext y
  show (y == x) = (x == y)
  rw [Bool.beq_comm]
theorem flat_ints (xs : List Int) : (xs.map V.int).all flatV = true := by
  rw [List.all_map]
  simp [flatV]
theorem e_inL {neg : Bool} {mA : (Int → μ β) → μ β} {mB : (List Int → μ β) → μ β} (ha : Ev p ta σ S H mA rI) (hb : EvR p tb σ S H mB (aAll rI)) : Ev p (tOp (rIn K neg) ta tb) σ S H (fun k => mA fun x => mB fun xs => k (if neg = true then !xs.contains x else xs.contains x)) rB := fun S1 H1 s g ps k z hm Q q =>
  ha S1 H1 s g ps _ z hm _ fun x v S2 H2 s2 g2 p2 r2 hm2 => hb S2 H2 s2 (g.tr g2) p2 _ z hm2 _ fun xs y us S3 H3 s3 g3 p3 e3 m3 r3 hm3 => by
    cases (show v = .int x from r2)
    have e4 := All.ints r3
    subst e4
    exact ⟨y, _, rfl, .inl (.of e3), rfl, flat_ints xs, q _ _ S3 H3 s3 (g2.tr g3) p3 (by rw [inV_ints]; rfl) hm3⟩
theorem e_inT {neg : Bool} {mA : (Int → μ β) → μ β} {mB : (List Int → μ β) → μ β} (ha : Ev p ta σ S H mA rI) (hb : Ev p tb σ S H mB (rT K (aAll rI))) : Ev p (tOp (rIn K neg) ta tb) σ S H (fun k => mA fun x => mB fun xs => k (if neg = true then !xs.contains x else xs.contains x)) rB := fun S1 H1 s g ps k z hm Q q =>
  ha S1 H1 s g ps _ z hm _ fun x v S2 H2 s2 g2 p2 r2 hm2 => hb S2 H2 s2 (g.tr g2) p2 _ z hm2 _ fun xs u S3 H3 s3 g3 p3 ⟨y, us, e3, h3, r3⟩ hm3 => by
    cases (show v = .int x from r2)
    have e4 := All.ints r3
    subst e4
    exact ⟨y, _, e3, .inr (sqT_ex g3.i h3), rfl, flat_ints xs, q _ _ S3 H3 s3 (g2.tr g3) p3 (by rw [inV_ints]; rfl) hm3⟩

/-! ### repr -/
class Dt (K : PySem.W.Frag) {α β : Type} (R : α → β → Hp → Prop) (δ : outParam (α → PyData)) : Prop where
  dt : True
/-- what a value is as data -/
def isD (K : PySem.W.Frag) (R : Rp α) (d : α → PyData) : Prop := ∀ a v S H, R a v S → Ex S H → Dp K H v (d a)
def isDs (K : PySem.W.Frag) (A : Rq α) (d : α → List PyData) : Prop := ∀ a vs S H, A a vs S → Ex S H → DpAll K H vs (d a)
theorem d_I : isD K rI .int := fun a v _ _ h _ => by rw [show v = .int a from h]; exact .int a
theorem d_B : isD K rB .bool := fun a v _ _ h _ => by rw [show v = .bl a from h]; exact .bl a
theorem d_S : isD K rS .str := fun a v _ _ h _ => by rw [show v = .str a from h]; exact .str a
theorem d_N : isD K rN fun _ => .none := fun a v _ _ h _ => by rw [show v = .non from h]; exact .non
def dO (d : α → PyData) : Option α → PyData
  | none => .none
  | some a => d a
theorem d_O {R : Rp α} {d : α → PyData} (h : isD K R d) : isD K (rO R) (dO d) := fun a v S H r e => by
  cases a with
  | none => rw [show v = .non from r]; exact .non
  | some x => exact h x v S H r e
def dU (d : α → PyData) (d' : γ → PyData) : α ⊕ γ → PyData
  | .inl a => d a
  | .inr b => d' b
theorem d_U {R : Rp α} {R' : Rp γ} {d : α → PyData} {d' : γ → PyData} (h : isD K R d) (h' : isD K R' d') : isD K (rU R R') (dU d d') := fun a v S H r e => by
  cases a with
  | inl x => exact h x v S H r e
  | inr x => exact h' x v S H r e
theorem ds_nil : isDs K aNil fun _ => [] := fun _ vs _ _ h _ => by rw [show vs = [] from h]; exact .nil
theorem ds_one {R : Rp α} {d : α → PyData} (h : isD K R d) : isDs K (aOne R) fun a => [d a] := fun a vs S H ⟨v, e1, r⟩ e => by rw [e1]; exact .cons (h a v S H r e) .nil
theorem ds_cons {R : Rp α} {A : Rq γ} {d : α → PyData} {ds : γ → List PyData} (h : isD K R d) (h' : isDs K A ds) : isDs K (aCons R A) fun a => d a.1 :: ds a.2 := fun a vs S H ⟨v, r, e1, r1, r2⟩ e => by rw [e1]; exact .cons (h _ v S H r1 e) (h' _ r S H r2 e)
theorem ds_all {R : Rp α} {d : α → PyData} (h : isD K R d) : isDs K (aAll R) fun xs => xs.map d := fun xs vs S H r e => by
  have go : ∀ {xs : List α} {vs : List V}, All R S xs vs → DpAll K H vs (xs.map d) := by
    intro xs vs r
    induction r with
    | nil => exact .nil
    | cons r _ ih => exact .cons (h _ _ S H r e) ih
  exact go r
theorem d_T {A : Rq α} {ds : α → List PyData} (h : isDs K A ds) : isD K (rT K A) fun a => .tuple (ds a) := fun a v S H ⟨x, vs, e1, h1, r⟩ e => by rw [e1]; exact .tup (sqT_ex e h1) (h a vs S H r e)
theorem d_L {A : Rq α} {ds : α → List PyData} (h : isDs K A ds) : isD K (rL A) fun a => .list (ds a) := fun a v S H ⟨x, vs, e1, h1, r⟩ e => by rw [e1]; exact .lst (.of (e _ _ h1)) (h a vs S H r e)
end

/-! ### repr, ints of some thousand figures too -/
section
variable {prog : Program} {w : World} {A : Around} {E : Value → Shared → Prop} {s : Shared} {h₀ : Heap}
theorem lt_lim {a : Nat} (h : a.log2 < 12900) : a < 10 ^ 4300 := Nat.lt_of_lt_of_le (PyProof.Rows.lt_of_log2 h) PyProof.Rows.pow_lo
set_option maxRecDepth 100000 in
theorem call_int_reprB {a : Int} {t : Tok} {Q : Value → Shared → Prop} (hn : s.heap.NoDigits) (ha : a.natAbs.log2 < 12900) (h : Q (.str (toString a) s.toks) { s with toks := s.toks + 1 }) :
    wpAny (model prog w) A (call (.builtin "int.__repr__") [.int a t]) Q E s := by
  refine wpAny_call (codeAny_call_builtin F.slot_int_repr.plain F.entry_int_repr (F.slot_int_repr.check _ _ _ _ _ _ _ _ (typeIs_int _ a t) (F.args_int_repr_1 _) ?_))
  unfold Builtin.«int.__repr__»
  show wpAny _ _ (do let r ← Builtin.overDigitLimit? a; _) _ _ s
  refine wpAny_bind (overDigitLimit_any hn (fun hlt => ?_) (fun hge => ?_))
  · exact wpAny_bind (wpAny_mkStr (wpAny_pure h) (by have e := int_text_length_le (k := 12900) (by decide) ha; rw [PySem.ofString_length, sizeLine_eq]; omega))
  · have hlt := lt_lim ha
    exact absurd hlt (Nat.not_lt.mpr hge)
theorem pyReprObj_intB {a : Int} {t : Tok} {Q : Value → Shared → Prop} (hn : s.heap.NoDigits) (ha : a.natAbs.log2 < 12900) (h : Q (.str (toString a) s.toks) { s with toks := s.toks + 1 }) : wpAny (model prog w) A (pyReprObj (.int a t)) Q E s := by
  unfold pyReprObj
  have hv : ([.int a t] : List Value).any Value.onHeap = false := rfl
  simp only [cRoomFor, hv, Bool.false_eq_true, if_false, pure_bind]
  refine wpAny_bind (wpAny_specialOf (name := Str.ofString "__repr__") (typeIs_int s a t) F.slot_int_repr.lookup ?_)
  refine wpAny_bind (m := callSpecialIfBound? (.int a t) (Str.ofString "__repr__")) (wpAny_callSpecialIfBound?_slot (name := Str.ofString "__repr__") (typeIs_int s a t) F.slot_int_repr (call_int_reprB hn ha ?_))
  exact wpAny_bind (wpAny_isInstance (T := "str") (b := true) rfl isSubtype_str_str (wpAny_pure h))
theorem repr_of_intB {a : Int} {t : Tok} {Q : Value → Shared → Prop} (hn : s.heap.NoDigits) (ha : a.natAbs.log2 < 12900) (h : Q (.str (toString a) s.toks) { s with toks := s.toks + 1 }) : wpAny (model prog w) A (call (.builtin "repr") [.int a t]) Q E s := by
  refine Calls.call_function_entry F.kind_repr F.plain_repr F.entry_repr (F.args_repr1 _) ?_
  unfold Builtin.«repr»
  have hv : ([.int a t] : List Value).any Value.onHeap = false := rfl
  refine wpAny_bind (m := oneArg "repr" _) (wpAny_pure ?_)
  simp only [cRoomFor, hv, Bool.false_eq_true, if_false, pure_bind]
  refine wpAny_bind (wpAny_specialOf (name := Str.ofString "__repr__") (typeIs_int s a t) F.slot_int_repr.lookup ?_)
  refine wpAny_bind (m := callSpecialIfBound? (.int a t) (Str.ofString "__repr__")) (wpAny_callSpecialIfBound?_slot (name := Str.ofString "__repr__") (typeIs_int s a t) F.slot_int_repr (call_int_reprB hn ha ?_))
  refine wpAny_bind (wpAny_isInstance (T := "str") (b := true) rfl isSubtype_str_str ?_)
  exact wpAny_pure ⟨_, rfl, h⟩
theorem reprK_intB {a : Int} (t : Tok) (hn : h₀.NoDigits) (ha : a.natAbs.log2 < 12900) (as : List Addr) (d : Nat) : ReprK prog w as h₀ d (.int a t) (toString a) := fun n hz A g E s Q _ _ _ hk hQ => by
  have hn' : n ≤ sizeLine := by omega
  rw [pyReprUnder_leaf (v := .int a t) hn' (fun _ e => nomatch e)]
  unfold pyRepr
  exact wpAny_bind (pyReprObj_intB (hn.keeps hk) ha (wpAny_pure (hQ s.heap _ fun _ _ e => e)))
end
mutual
/-- what repr can write here -/
def shB : PyData → Bool
  | .none | .bool _ | .str _ => true
  | .int i => decide (i.natAbs.log2 < 12900)
  | .list xs | .tuple xs => shsB xs
  | .dict _ => false
def shsB : List PyData → Bool
  | [] => true
  | x :: xs => shB x && shsB xs
end
section
variable {prog : Program} {w : World} {h₀ : Heap}
mutual
theorem reprK_of (hn : h₀.NoDigits) : ∀ {v : Value} {d : PyData} {as : List Addr}, Reads h₀ v d as → shB d = true → d.shown.length ≤ sizeLine → ∃ bs, ReadAtMost h₀ d.depth bs ∧ ReprK prog w bs h₀ d.depth v d.shown
  | _, _, _, .none, _, _ => ⟨[], (fun _ h => nomatch h), by simp only [PyData.shown]; exact .of_is ReprIs.none _ _ _⟩
  | _, _, _, .bool b, _, _ => ⟨[], (fun _ h => nomatch h), by simp only [PyData.shown]; exact .of_is (ReprIs.bool b) _ _ _⟩
  | _, _, _, .int i t, hs, _ => ⟨[], (fun _ h => nomatch h), by simp only [PyData.shown]; exact reprK_intB t hn (by simpa [shB] using hs) _ _⟩
  | _, _, _, .str x t, _, hz => ⟨[], (fun _ h => nomatch h), by simp only [PyData.shown]; exact .of_is (ReprIs.str x t (by simpa only [PyData.shown] using hz)) _ _ _⟩
  | _, _, _, .list (a := a) (vs := vs) (xs := xs) h1 h2 h3 h4, hs, hz => by
    have hz' : (listText (PyData.shownAll xs)).length ≤ sizeLine := by simpa only [PyData.shown] using hz
    obtain ⟨bs, hb, hk⟩ := reprsK_of hn h4 (by simpa [shB] using hs) (fun t ht => Nat.le_trans (listText_mem_le ht) hz')
    have r : Reads h₀ (.ref a) (.list xs) _ := .list h1 h2 h3 h4
    have hna : a ∉ bs := not_mem_of_deeper r (by simp only [PyData.depth]; omega) hb
    refine ⟨a :: bs, ReadAtMost.cons r (by simp only [PyData.depth]; omega) hb, ?_⟩
    simp only [PyData.depth, PyData.shown]
    obtain ⟨l⟩ := vs
    cases l with
    | nil =>
      have h4' : ReadsAll h₀ [] xs _ := h4
      cases h4'
      simp only [PyData.shownAll, listText_nil]
      exact ReprK.listEmpty h1 h2 h3
    | cons x l => exact ReprK.list h1 h2 h3 hna (by simpa using hk.length_eq) (fun i y e => hk.item i y (by simpa using e))
  | _, _, _, .tuple (a := a) (xs := xs) h1 h2 h3 h4, hs, hz => by
    have hz' : (tupleText (PyData.shownAll xs)).length ≤ sizeLine := by simpa only [PyData.shown] using hz
    obtain ⟨bs, hb, hk⟩ := reprsK_of hn h4 (by simpa [shB] using hs) (fun t ht => Nat.le_trans (tupleText_mem_le ht) hz')
    have r : Reads h₀ (.ref a) (.tuple xs) _ := .tuple h1 h2 h3 h4
    have hna : a ∉ bs := not_mem_of_deeper r (by simp only [PyData.depth]; omega) hb
    refine ⟨a :: bs, ReadAtMost.cons r (by simp only [PyData.depth]; omega) hb, ?_⟩
    simp only [PyData.depth, PyData.shown]
    exact ReprK.tuple h1 h2 h3 hna hk
  | _, _, _, .dict _ _ _ _ _, hs, _ => by simp [shB] at hs
theorem reprsK_of (hn : h₀.NoDigits) : ∀ {vs : List Value} {ds : List PyData} {as : List Addr}, ReadsAll h₀ vs ds as → shsB ds = true → (∀ t ∈ PyData.shownAll ds, t.length ≤ sizeLine) →
    ∃ bs, ReadAtMost h₀ (PyData.depthAll ds) bs ∧ ReprAllK prog w bs h₀ (PyData.depthAll ds) vs (PyData.shownAll ds)
  | _, _, _, .nil, _, _ => ⟨[], (fun _ h => nomatch h), by simp only [PyData.shownAll]; exact .nil⟩
  | _, _, _, .cons (d := d) (ds := ds) r rs, hs, hz => by
    have hs' : shB d = true ∧ shsB ds = true := by simpa [shsB] using hs
    obtain ⟨b1, hb1, k1⟩ := reprK_of hn r hs'.1 (hz _ (by simp only [PyData.shownAll]; exact List.mem_cons_self ..))
    obtain ⟨b2, hb2, k2⟩ := reprsK_of hn rs hs'.2 (fun t ht => hz t (by simp only [PyData.shownAll]; exact List.mem_cons_of_mem _ ht))
    refine ⟨b1 ++ b2, ?_, ?_⟩
    · intro b hm
      simp only [PyData.depthAll]
      rcases List.mem_append.mp hm with hm | hm
      · obtain ⟨d', as', r', hd'⟩ := hb1 b hm
        exact ⟨d', as', r', Nat.le_trans hd' (Nat.le_max_left _ _)⟩
      · obtain ⟨d', as', r', hd'⟩ := hb2 b hm
        exact ⟨d', as', r', Nat.le_trans hd' (Nat.le_max_right _ _)⟩
    · simp only [PyData.depthAll, PyData.shownAll]
      exact .cons ((k1.more fun b hb => List.mem_append_left _ hb).level_le (Nat.le_max_left _ _)) (k2.more_le (fun b hb => List.mem_append_right _ hb) (Nat.le_max_right _ _))
end
theorem repr_readsB {a : Addr} {d : PyData} {as : List Addr} {A : Around} {E : Value → Shared → Prop} {s : Shared} {Q : Value → Shared → Prop} (hn : h₀.NoDigits) (r : Reads h₀ (.ref a) d as) (hs : shB d = true) (hg : A.guards = some []) (hu : A.units + (d.depth + 1) < cLine) (hk0 : ∀ b o, h₀.get? b = some o → s.heap.get? b = some o)
    (hQ : ∀ h' u tk, (∀ b o, s.heap.get? b = some o → h'.get? b = some o) → Q (.str d.shown u) { s with heap := h', toks := tk }) (hsz : d.shown.length ≤ sizeLine) : wpAny (model prog w) A (call (.builtin "repr") [.ref a]) Q E s := by
  have sh : ∃ T idr, ShowsBy prog w h₀ a d T idr := by
    cases r with
    | list h1 h2 h3 h4 =>
      rename_i o vs n xs bs₀
      have hz' : (listText (PyData.shownAll xs)).length ≤ sizeLine := by simpa only [PyData.shown] using hsz
      obtain ⟨bs, hb, hk⟩ := reprsK_of (prog := prog) (w := w) hn h4 (by simpa [shB] using hs) (fun t ht => Nat.le_trans (listText_mem_le ht) hz')
      have hna : a ∉ bs := not_mem_of_deeper (.list h1 h2 h3 h4) (by simp only [PyData.depth]; omega) hb
      refine ⟨"list", "list.__repr__", F.slot_list_repr.toG, F.slot_list_str, F.slot_list_format, fun s hk0 => ⟨o, hk0 _ _ h1, h2⟩, fun A E s Q hg hu hk0 hQ => ?_⟩
      simp only [PyData.depth] at hu
      simp only [PyData.shown] at hQ
      obtain ⟨l⟩ := vs
      cases l with
      | nil =>
        have h4' : ReadsAll h₀ [] xs _ := h4
        cases h4'
        simp only [PyData.shownAll, listText_nil] at hQ
        exact call_list_repr_empty ⟨o, hk0 _ _ h1, h2⟩ (hk0 _ _ h1) h3 (hQ s.heap _ _ fun _ _ e => e)
      | cons x l =>
        exact call_list_reprK h1 h2 h3 hna (by simpa using hk.length_eq) (fun i y e => hk.item i y (by simpa using e)) hg (fun b _ => Clear.nil b) hu hk0 hQ hz'
    | tuple h1 h2 h3 h4 =>
      rename_i o vs n xs
      have hz' : (tupleText (PyData.shownAll xs)).length ≤ sizeLine := by simpa only [PyData.shown] using hsz
      obtain ⟨bs, hb, hk⟩ := reprsK_of (prog := prog) (w := w) hn h4 (by simpa [shB] using hs) (fun t ht => Nat.le_trans (tupleText_mem_le ht) hz')
      have hna : a ∉ bs := not_mem_of_deeper (.tuple h1 h2 h3 h4) (by simp only [PyData.depth]; omega) hb
      refine ⟨"tuple", "tuple.__repr__", F.slot_tuple_repr, F.slot_tuple_str, F.slot_tuple_format, fun s hk0 => ⟨o, hk0 _ _ h1, h2⟩, fun A E s Q hg hu hk0 hQ => ?_⟩
      simp only [PyData.depth] at hu
      simp only [PyData.shown] at hQ
      exact call_tuple_reprK h1 h2 h3 hna hk hg (fun b _ => Clear.nil b) hu hk0 hQ hz'
    | dict _ _ _ _ _ => simp [shB] at hs
  obtain ⟨T, idr, S⟩ := sh
  exact call_repr_slot (by omega) (S.typeIs s hk0) S.slotRepr (S.call A.in1 E s _ hg (by show A.units + 1 + d.depth < cLine; omega) hk0 fun h' u tk hk => ⟨_, _, rfl, hQ h' u tk hk⟩)
end
section
variable {K : PySem.W.Frag}
mutual
/-- an upper bound of what is written of a value; too much where it can't be written -/
def wt : PyData → Nat
  | .none => 10
  | .bool _ => 10
  | .int i => if i.natAbs < 10 ^ 40 then 50 else if i.natAbs.log2 < 12900 then 13000 else 100000000
  | .str x => if x.cps.toList.all (fun c => decide (c < 16 ^ 8)) = true then 10 * x.length + 2 else 100000000
  | .list xs => wts xs + 3
  | .tuple xs => wts xs + 3
  | .dict _ => 100000000
def wts : List PyData → Nat
  | [] => 0
  | x :: xs => wt x + 2 + wts xs
end
theorem str_len_of (x : String) : (Str.ofString x).length = x.length := PySem.ofString_length x
mutual
theorem wt_ok : ∀ d : PyData, wt d < 100000000 → shB d = true ∧ d.shown.length ≤ wt d
  | .none, _ => ⟨by simp only [shB], by simp only [PyData.shown, wt]; decide +kernel⟩
  | .bool b, _ => ⟨by simp only [shB], by simp only [PyData.shown, wt]; cases b <;> decide +kernel⟩
  | .int i, h => by
    simp only [wt] at h ⊢
    by_cases h1 : i.natAbs < 10 ^ 40
    · have e := int_text_length_le10 (k := 40) (by decide) h1
      refine ⟨?_, ?_⟩
      · simp only [shB, decide_eq_true_eq]
        exact PySem.Flt.log2_lt_of (by decide) (Nat.lt_trans h1 (by decide +kernel))
      · simp only [PyData.shown]
        rw [str_len_of, if_pos h1]
        omega
    · rw [if_neg h1] at h ⊢
      by_cases h2 : i.natAbs.log2 < 12900
      · have e := int_text_length_le (k := 12900) (by decide) h2
        refine ⟨?_, ?_⟩
        · simp only [shB, decide_eq_true_eq]
          exact h2
        · simp only [PyData.shown]
          rw [str_len_of, if_pos h2]
          omega
      · rw [if_neg h2] at h
        exact absurd h (by decide)
  | .str x, h => by
    simp only [wt] at h ⊢
    by_cases h1 : x.cps.toList.all (fun c => decide (c < 16 ^ 8)) = true
    · refine ⟨by simp only [shB], ?_⟩
      simp only [PyData.shown]
      rw [if_pos h1]
      exact StrLaws.reprText_len x fun c hc => by
        have := List.all_eq_true.mp h1 c hc
        exact of_decide_eq_true this
    · rw [if_neg h1] at h
      exact absurd h (by decide)
  | .list xs, h => by
    simp only [wt] at h ⊢
    obtain ⟨h1, h3⟩ := wts_ok xs (by omega)
    refine ⟨by simpa only [shB] using h1, ?_⟩
    simp only [PyData.shown]
    have := listText_len_le (PyData.shownAll xs)
    omega
  | .tuple xs, h => by
    simp only [wt] at h ⊢
    obtain ⟨h1, h3⟩ := wts_ok xs (by omega)
    refine ⟨by simpa only [shB] using h1, ?_⟩
    simp only [PyData.shown]
    have := tupleText_len_le (PyData.shownAll xs)
    omega
  | .dict _, h => by simp only [wt] at h; exact absurd h (by decide)
theorem wts_ok : ∀ xs : List PyData, wts xs < 100000000 → shsB xs = true ∧ ((PyData.shownAll xs).map (·.length)).sum + 2 * (PyData.shownAll xs).length ≤ wts xs
  | [], _ => ⟨by simp only [shsB], by simp only [PyData.shownAll, wts]; decide⟩
  | x :: xs, h => by
    simp only [wts] at h ⊢
    obtain ⟨a1, a3⟩ := wt_ok x (by omega)
    obtain ⟨b1, b3⟩ := wts_ok xs (by omega)
    refine ⟨by simp only [shsB, a1, b1, Bool.and_self], ?_⟩
    simp only [PyData.shownAll, List.map_cons, List.sum_cons, List.length_cons]
    omega
end
/-- what repr takes -/
def OkD (d : PyData) : Prop := d.depth ≤ 50 ∧ wt d ≤ 16000000
instance (d : PyData) : Decidable (OkD d) := inferInstanceAs (Decidable (_ ∧ _))
def rRepr (K : PySem.W.Frag) : List V → Hp → VK → Prop := fun xs H Q => ∃ x d, xs = [x] ∧ Dp K H x d ∧ OkD d ∧ Q (.str d.shown) H
end
section
variable {X : Cx}
theorem call_repr {k : Nat} (hr : Room k X.A) (gd : X.A.guards = some []) (nd : X.base.NoDigits) : CallR X (.builtin "repr") (rRepr X.K) := by
  intro pins s σ H xs us Q I r h
  obtain ⟨x, d, rfl, hd, ok, q⟩ := h
  obtain ⟨u, rfl, ru⟩ := vals1 r
  obtain ⟨as, rd⟩ := Dp.reads I d x u hd ru
  obtain ⟨h1, h3⟩ := wt_ok d (by have := ok.2; omega)
  have hn : s.heap.NoDigits := nd.keeps I.bk
  have hz : d.shown.length ≤ sizeLine := by rw [sizeLine_eq]; have := ok.2; omega
  have hu := hr.units
  have hdp := ok.1
  have fin : ∀ {h' : Heap} {t : Tok} {tk : Nat}, (∀ b o, s.heap.get? b = some o → h'.get? b = some o) → EP X pins σ Q (.str d.shown t) { s with heap := h', toks := tk } :=
    fun {h' t tk} kp => ⟨.str d.shown, H, I.kept kp, ⟨t, rfl⟩, q⟩
  cases hd with
  | non =>
    obtain rfl : u = Value.none := ru
    exact PySem.P.repr_of_none (by have := fin (h' := s.heap) (t := s.toks) (tk := s.toks + 1) (fun _ _ e => e); rwa [PyData.shown_none] at this)
  | bl b =>
    obtain rfl : u = Value.bool b := ru
    refine PySem.P.repr_of_bool ?_
    have := fin (h' := s.heap) (t := s.toks) (tk := s.toks + 1) (fun _ _ e => e)
    rw [PyData.shown_bool] at this
    cases b <;> exact this
  | int i =>
    obtain ⟨t, rfl⟩ := ru
    refine repr_of_intB hn (by simpa [shB] using h1) ?_
    have := fin (h' := s.heap) (t := s.toks) (tk := s.toks + 1) (fun _ _ e => e)
    rwa [PyData.shown_int] at this
  | str z =>
    obtain ⟨t, rfl⟩ := ru
    refine PySem.P.repr_of_str ?_ (by rwa [PyData.shown_str] at hz)
    have := fin (h' := s.heap) (t := s.toks) (tk := s.toks + 1) (fun _ _ e => e)
    rwa [PyData.shown_str] at this
  | lst _ _ =>
    obtain rfl : u = Value.ref _ := ru
    exact repr_readsB hn rd h1 gd (by omega) (fun _ _ e => e) (fun h' t tk kp => fin kp) hz
  | tup _ _ =>
    obtain rfl : u = Value.ref _ := ru
    exact repr_readsB hn rd h1 gd (by omega) (fun _ _ e => e) (fun h' t tk kp => fin kp) hz
end
section
variable {μ : Type → Type} {τ : Type} [Mir μ τ] {α β γ δ ρ : Type} {p : Pt τ} {σ : St} {S H S0 H0 : Hp} {te ta tb : TE} {tt : TT} {K : PySem.W.Frag}
/-- what is written of a value, told by the value -/
def rW : Rp PyData := fun d v _ => v = .str d.shown
instance : Mo rW := ⟨fun _ h => h⟩
theorem c_repr {R : Rp α} {d : α → PyData} {m : (α → μ β) → μ β} (h : Ev p te σ S H m R) (hd : isD K R d) : Ev p (tCB (rRepr K) (tCons te tNil)) σ S H (fun k => m fun a => bnd (d a) fun w => Mir.lft (grd (OkD w)) >>= fun _ => k w) rW := fun S1 H1 s g ps k z hm Q q =>
  h S1 H1 s g ps _ z hm _ fun a v S2 H2 s2 g2 p2 r2 hm2 => by
    obtain ⟨_, e, hm3⟩ := run_of_lft (show Mir.run (Mir.lft (grd (OkD (d a))) >>= fun _ => k (d a)) s2 = some z from hm2)
    exact ⟨v, d a, rfl, hd a v S2 H2 r2 g2.i, grd_of e, q _ _ S2 H2 s2 g2 p2 rfl hm3⟩
open Classical in
/-- a condition that must hold, of any kind -/
noncomputable def grP (c : Prop) : Option Unit := if c then some () else none
theorem grP_of {c : Prop} {u : Unit} (h : grP c = some u) : c := by
  unfold grP at h
  split at h
  · assumption
  · cases h
theorem grP_ok {c : Prop} (h : c) : grP c = some () := by
  unfold grP
  rw [if_pos h]
/-- two writings that must be the same -/
theorem e_neW {mA mB : (PyData → μ β) → μ β} (ha : Ev p ta σ S H mA rW) (hb : Ev p tb σ S H mB rW) : Ev p (tOp rNe ta tb) σ S H (fun k => mA fun a => mB fun b => Mir.lft (grP (a = b)) >>= fun _ => k false) rB := fun S1 H1 s g ps k z hm Q q =>
  ha S1 H1 s g ps _ z hm _ fun a v S2 H2 s2 g2 p2 r2 hm2 => hb S2 H2 s2 (g.tr g2) p2 _ z hm2 _ fun b u S3 H3 s3 g3 p3 r3 hm3 => by
    obtain ⟨_, e, hm4⟩ := run_of_lft hm3
    have e1 := grP_of e
    subst e1
    have e2 : v = .str a.shown := r2
    have e3 : u = .str a.shown := r3
    subst e2
    subst e3
    exact ⟨rfl, q false _ S3 H3 s3 (g2.tr g3) p3 (by show V.bl _ = V.bl _; simp) hm4⟩
theorem e_eqW {mA mB : (PyData → μ β) → μ β} (ha : Ev p ta σ S H mA rW) (hb : Ev p tb σ S H mB rW) : Ev p (tOp rEq ta tb) σ S H (fun k => mA fun a => mB fun b => Mir.lft (grP (a = b)) >>= fun _ => k true) rB := fun S1 H1 s g ps k z hm Q q =>
  ha S1 H1 s g ps _ z hm _ fun a v S2 H2 s2 g2 p2 r2 hm2 => hb S2 H2 s2 (g.tr g2) p2 _ z hm2 _ fun b u S3 H3 s3 g3 p3 r3 hm3 => by
    obtain ⟨_, e, hm4⟩ := run_of_lft hm3
    have e1 := grP_of e
    subst e1
    have e2 : v = .str a.shown := r2
    have e3 : u = .str a.shown := r3
    subst e2
    subst e3
    exact ⟨rfl, q true _ S3 H3 s3 (g2.tr g3) p3 (by show V.bl _ = V.bl _; simp) hm4⟩
end
end Wk
set_option Elab.async false
set_option maxRecDepth 100000
set_option maxHeartbeats 4000000
set_option linter.all false
/-! W5: defs by their names -/
namespace Wk
open PySem L2
open PyProof.Rows hiding St
/-- the def x of the top stands as it was written -/
def DefAt (K : PySem.W.Frag) (mg : Str → Option Value) (x : Str) (st : Stmt) : Prop := ∃ f fd, Fun K x x st f fd ∧ mg x = some (.ref f)
theorem defAt {K : PySem.W.Frag} {h : Heap} {mg : Str → Option Value} {x : Str} {st : Stmt} {f : Addr} {od an : Option Addr} {sl : Array (Option Value)} {oc kV doc pm cd ct : Value} (X : K.In h) (G : h.Ns mainGlobals mg)
    (a : PySem.W.nsIn K mainGlobals x = some (some (.ref f))) (l : K.lookup f = some ⟨oc, od, .func (PySem.W.fnOf x x (defArgs st) (defBody st) (defScope st) .none kV doc pm an cd ct), sl⟩)
    (c : PySem.W.codeIn K cd x = true) (k : PySem.W.keepIn K (.ref f) = true) : DefAt K mg x st := ⟨f, _, fun_mk l c k, PySem.W.mg_of X G a⟩
/-- .. and keeps its promise -/
def Dk (P : Program) (w : World) (K : PySem.W.Frag) (mg : Str → Option Value) (base : Heap) (x gx : Str) (st : Stmt) (k : Nat) (ps : List Str) (sp : Sp) : Prop :=
  ∃ f fd, Fun K x x st f fd ∧ mg gx = some (.ref f) ∧ FnG P w K mg base CX0 k f fd ps sp ∧ Binds K fd ps []
theorem Fun.kb {K : PySem.W.Frag} {x qual : Str} {st : Stmt} {f : Addr} {fd : FuncData} {ps ks : List Str} {n : Nat} {ix : List Nat} (F : Fun K x qual st f fd)
    (h : ∀ (kV doc pm : Value) (an : Option Addr) (cdv ct : Value) (us ws : List Value), us.length = n → ws.length = ks.length → bindArgs (PySem.W.fnOf x qual (defArgs st) (defBody st) (defScope st) .none kV doc pm an cdv ct) ⟨us, ks.zip ws⟩ = pure (ps.zip (pick ix (us ++ ws)))) : KB K fd ps n ks ix := by
  obtain ⟨oc, od, kV, doc, pm, an, cdv, ct, osl, rfl, lk, hcd⟩ := F.ex
  exact fun s us ws _ h1 h2 => .of_eq (h kV doc pm an cdv ct us ws h1 h2)

/-! ### the layer's rules, the written part told -/
section
variable {X : Cx} {tg : Expr}
theorem k_ixL (K : PySem.W.Frag) (h : X.K = K := by rfl) : IxR X (rIxL K) := h ▸ ix_list
theorem k_ixT (K : PySem.W.Frag) (h : X.K = K := by rfl) : IxR X (rIxT K) := h ▸ ix_tup
theorem k_sum (K : PySem.W.Frag) (hc : X.calm = true := by rfl) (h : X.K = K := by rfl) : CallR X (.builtin "sum") (rSum K) := h ▸ cr_sum hc
theorem k_min (K : PySem.W.Frag) (hc : X.calm = true := by rfl) (h : X.K = K := by rfl) : CallR X (.builtin "min") (rMin K) := h ▸ cr_min hc
theorem k_max (K : PySem.W.Frag) (hc : X.calm = true := by rfl) (h : X.K = K := by rfl) : CallR X (.builtin "max") (rMax K) := h ▸ cr_max hc
theorem k_all (K : PySem.W.Frag) (hc : X.calm = true := by rfl) (h : X.K = K := by rfl) : CallR X (.builtin "all") (rAll K) := h ▸ cr_all hc
theorem k_any (K : PySem.W.Frag) (hc : X.calm = true := by rfl) (h : X.K = K := by rfl) : CallR X (.builtin "any") (rAny K) := h ▸ cr_any hc
theorem k_len (K : PySem.W.Frag) (h : X.K = K := by rfl) : CallR X (.builtin "len") (fun xs H Q => ∃ p ys, xs = [.ref p] ∧ (SqL K H p ys ∨ SqT K H p ys) ∧ Q (.int ys.length) H) := h ▸ call_len_seq
theorem k_tupOf (K : PySem.W.Frag) (h : X.K = K := by rfl) : CallR X (.type "tuple") (rTupOf K) := h ▸ call_tuple_of
theorem k_listOf (K : PySem.W.Frag) (h : X.K = K := by rfl) : CallR X (.type "list") (fun xs H Q => ∃ p ys, xs = [.ref p] ∧ (SqL K H p ys ∨ SqT K H p ys) ∧ ∀ l, H l = none → Q (.ref l) (upd H l (.lst ys))) := h ▸ call_list_of
theorem k_repr {k : Nat} (K : PySem.W.Frag) (hr : Room k X.A) (gd : X.A.guards = some []) (nd : X.base.NoDigits) (h : X.K = K := by rfl) : CallR X (.builtin "repr") (rRepr K) := h ▸ call_repr hr gd nd
theorem k_in (K : PySem.W.Frag) (h : X.K = K := by rfl) : OpR X (compareOp .In) (rIn K false) := h ▸ op_in_seq
theorem k_notin (K : PySem.W.Frag) (h : X.K = K := by rfl) : OpR X (compareOp .NotIn) (rIn K true) := h ▸ op_notIn_seq
theorem k_pil (K : PySem.W.Frag) {l : Expr} {tl : TE} (hl : PE X l tl) (h : X.K = K := by rfl) : PI X tg l (iList K tl) := h ▸ pi_list hl
theorem k_pit (K : PySem.W.Frag) {l : Expr} {tl : TE} (hl : PE X l tl) (h : X.K = K := by rfl) : PI X tg l (iTup K tl) := h ▸ pi_tup hl
theorem k_pie (K : PySem.W.Frag) {e : Expr} {ta : TA} {p pos tpos : Pos} {elts : List Expr} {kk : Nat} (hg : Gl X "enumerate") (hm : X.mg "enumerate" = none) (ha : PA X [e] ta) (hs : starEach [e] X.env = [(false, eval e X.env)] := by rfl) (h : X.K = K := by rfl) :
    PI X (.Tuple elts kk tpos) (.Call (.Name "enumerate" p) [e] [] pos) (iEnum K ta) := h ▸ pi_enum hg hm ha hs
theorem k_piz (K : PySem.W.Frag) {e e2 : Expr} {ta : TA} {p pos tpos : Pos} {elts : List Expr} {kk : Nat} (hg : Gl X "zip") (hm : X.mg "zip" = none) (ha : PA X [e, e2] ta)
    (hs : starEach [e, e2] X.env = (false, eval e X.env) :: starEach [e2] X.env := by rfl) (hpl : (backTo pos (starEach [e2] X.env)).any (·.1) = false := by rfl) (h : X.K = K := by rfl) :
    PI X (.Tuple elts kk tpos) (.Call (.Name "zip" p) [e, e2] [] pos) (iZip K ta) := h ▸ pi_zip hg hm ha hs hpl
theorem k_gt (K : PySem.W.Frag) {es : List Expr} {k : Nat} {pos : Pos} {t : TGs} {n : Nat} (h : PGs X es t) (hc : X.calm = true := by rfl)
    (hn : (assignEach es X.env).length = n := by rfl) (hst : (assignEach es X.env).findIdx? (·.1) = none := by rfl) (hK : X.K = K := by rfl) : PG X (.Tuple es k pos) (gTup K n t) := hK ▸ pg_tup hc h hn hst
end

/-! ### ranges with a step, enumerate -/
section
variable {μ : Type → Type} {τ : Type} [Mir μ τ] {α β : Type} {p : Pt τ} {σ : St} {S H : Hp} {te ta tb tc : TE} {K : PySem.W.Frag}
def Rg3 (i j c : Int) : Prop := c ≠ 0 ∧ c.natAbs < 1073741824 ∧ Builtin.Range.small i j c = true ∧ 0 ≤ Builtin.Range.rangeSize i j c
instance (i j c : Int) : Decidable (Rg3 i j c) := inferInstanceAs (Decidable (_ ∧ _))
def rng3 (i j c : Int) : List Int := (List.range (Builtin.Range.rangeSize i j c).toNat).map fun (k : Nat) => i + (k : Int) * c
theorem it_rng3 {lo c : Int} {n : Nat} {O : Own} : ItOk p (Itc lo c n) ((List.range n).map fun (k : Nat) => lo + (k : Int) * c) rI S O := fun S1 H1 _ e2 _ => by
  refine ⟨fun i hi => by show i < n; simpa using hi, by show n ≤ _; simp, fun i x v H2 hx y => ?_⟩
  obtain ⟨e3, y⟩ := y
  subst e3
  subst y
  refine ⟨S1, Gm.rf e2, ?_⟩
  rw [List.getElem?_map] at hx
  have hi : i < n := by
    by_cases h : i < n
    · exact h
    · rw [List.getElem?_eq_none (by simpa using h)] at hx; cases hx
  rw [List.getElem?_eq_getElem (by simpa using hi)] at hx
  simp at hx
  show V.int _ = V.int _
  rw [← hx]
theorem i_R3 {m m' m'' : (Int → μ β) → μ β} (h : Ev p ta σ S H m rI) (h' : Ev p tb σ S H m' rI) (h'' : Ev p tc σ S H m'' rI) : EvI p (iRng3 (tCons ta (tCons tb (tCons tc tNil)))) σ S H (fun k => m fun i => m' fun j => m'' fun c => Mir.lft (grd (Rg3 i j c)) >>= fun _ => k (rng3 i j c)) rI [] := fun S1 H1 s g ps k z hm Q q =>
  h S1 H1 s g ps _ z hm _ fun i v S2 H2 s2 g2 p2 r hm2 => h' S2 H2 s2 (g.tr g2) p2 _ z hm2 _ fun j u S3 H3 s3 g3 p3 r3 hm3 => h'' S3 H3 s3 ((g.tr g2).tr g3) p3 _ z hm3 _ fun c y S4 H4 s4 g4 p4 r4 hm4 => by
    obtain ⟨_, e, hm5⟩ := run_of_lft hm4
    have hb := grd_of e
    cases (show v = .int i from r)
    cases (show u = .int j from r3)
    cases (show y = .int c from r4)
    exact ⟨i, j, c, (Builtin.Range.rangeSize i j c).toNat, rfl, ⟨hb.1, hb.2.1, hb.2.2.1, by have := hb.2.2.2; omega⟩, q _ _ S4 H4 s4 ((g2.tr g3).tr g4) p4 it_rng3 hm5⟩
def enum (xs : List α) : List (Int × α) := xs.zipIdx.map fun y => ((y.2 : Int), y.1)
theorem i_enum {m : (List α → μ β) → μ β} {R : Rp α} [Mo R] (h : Ev p te σ S H m (rL (aAll R))) : EvI p (iEnum K (tCons te tNil)) σ S H (fun k => m fun xs => k (enum xs)) (rT K (aCons rI (aOne R))) [] := fun S1 H1 s g ps k z hm Q q =>
  h S1 H1 s g ps _ z hm _ fun xs v S2 H2 s2 g2 p2 ⟨x, vs, e, h1, h2⟩ hm2 => ⟨x, vs, by rw [e], .of (g2.i _ _ h1), q _ _ S2 H2 s2 g2 p2 (fun S3 H3 e1 e2 _ => by
    have a2 : All R S2 xs vs := h2
    have hq : SqL K H3 x vs := .of (e2 _ _ (e1 _ _ h1))
    have ln : (enum xs).length = vs.length := by unfold enum; rw [List.length_map, List.length_zipIdx, a2.len]
    refine ⟨fun i hi => ⟨vs, vs[i]'(by rw [← ln]; exact hi), hq, List.getElem?_eq_getElem _⟩, ⟨vs, hq, by rw [ln]; exact Nat.le_refl _⟩, fun i y v H4 hx yl => ?_⟩
    obtain ⟨tp, u, e3, n, e4, yl⟩ := yl
    subst e3
    subst e4
    have hu := yl vs hq
    have hx' : xs.zipIdx[i]? = some (y.2, i) ∧ y.1 = (i : Int) := by
      unfold enum at hx
      rw [List.getElem?_map] at hx
      cases q2 : xs.zipIdx[i]? with
      | none => rw [q2] at hx; cases hx
      | some c =>
        rw [q2] at hx
        have e5 := Option.some.inj hx
        rw [List.getElem?_zipIdx] at q2
        cases q3 : xs[i]? with
        | none => rw [q3] at q2; cases q2
        | some d =>
          rw [q3] at q2
          have e6 := Option.some.inj q2
          rw [← e5, ← e6]
          simp
    rw [List.getElem?_zipIdx] at hx'
    obtain ⟨hx1, hx2⟩ := hx'
    have hx3 : xs[i]? = some y.2 := by
      cases q3 : xs[i]? with
      | none => rw [q3] at hx1; cases hx1
      | some d => rw [q3] at hx1; have := Option.some.inj hx1; simp at this; rw [this]
    obtain ⟨u', hu', ru⟩ := a2.get hx3
    rw [hu] at hu'
    cases hu'
    refine ⟨upd S3 tp (.tup [.int (i : Nat), u]), Gm.new e2 n, tp, _, rfl, .of upd_same, _, _, rfl, ?_, _, rfl, Mo.mo (e1.tr (Gm.new (M := []) e2 n).s) ru⟩
    show V.int _ = V.int _
    rw [hx2]) hm2⟩
end
end Wk
set_option Elab.async false
set_option maxRecDepth 100000
set_option maxHeartbeats 4000000
set_option linter.all false
/-! W6: == and != of data, the pot -/
namespace Wk
open PySem L2
open PyProof.Rows hiding St
section
variable {μ : Type → Type} {τ : Type} [Mir μ τ] {α β γ : Type} {p : Pt τ} {σ : St} {S H : Hp} {te ta tb : TE} {K : PySem.W.Frag}
/-- data that can be read for a while -/
def EvD (K : PySem.W.Frag) (p : Pt τ) (te : TE) (σ : St) (S H : Hp) (m : (PyData → μ β) → μ β) : Prop :=
  ∀ S1 H1 s, Gm p.M S H S1 H1 → PotAt p s S1 H1 → ∀ (k : PyData → μ β) z, Mir.run (m k) s = some z → ∀ Q : VK,
    (∀ d v S2 H2 s2, Gm p.M S1 H1 S2 H2 → PotAt p s2 S2 H2 → (∀ S3 H3, Gm p.M S2 H2 S3 H3 → Dp K H3 v d) → Mir.run (k d) s2 = some z → Q v H2) → te σ H1 Q
theorem Ev.D {R : Rp α} [Mo R] {d : α → PyData} {m : (α → μ β) → μ β} (h : Ev p te σ S H m R) (hd : isD K R d) : EvD K p te σ S H (fun k => m fun a => k (d a)) := fun S1 H1 s g ps k z hm Q q =>
  h S1 H1 s g ps _ z hm _ fun a v S2 H2 s2 g2 p2 r hm2 => q (d a) v S2 H2 s2 g2 p2 (fun S3 H3 g3 => hd a v S3 H3 (Mo.mo g3.s r) g3.i) hm2
theorem EvR.D {A : Rq α} [Mo A] {d : α → List PyData} {m : (α → μ β) → μ β} (h : EvR p te σ S H m A) (hd : isDs K A d) : EvD K p te σ S H (fun k => m fun a => k (.list (d a))) := fun S1 H1 s g ps k z hm Q q =>
  h S1 H1 s g ps _ z hm _ fun a x vs S2 H2 s2 g2 p2 e m2 r hm2 => q (.list (d a)) (.ref x) S2 H2 s2 g2 p2 (fun S3 H3 g3 => .lst (.of (g3.h _ _ m2 e)) (hd a vs S3 H3 (Mo.mo g3.s r) g3.i)) hm2
def ShD (d : PyData) : Prop := SeqAt.shaped d = true
instance (d : PyData) : Decidable (ShD d) := inferInstanceAs (Decidable (_ = true))
theorem e_eqD {m m' : (PyData → μ β) → μ β} (h : EvD K p ta σ S H m) (h' : EvD K p tb σ S H m') : Ev p (tOp (rEqD K) ta tb) σ S H (fun k => m fun d => m' fun e => Mir.lft (grd (ShD d ∧ ShD e)) >>= fun _ => k (PyData.eqv d e)) rB := fun S1 H1 s g ps k z hm Q q =>
  h S1 H1 s g ps _ z hm _ fun d v S2 H2 s2 g2 p2 r hm2 => h' S2 H2 s2 (g.tr g2) p2 _ z hm2 _ fun e u S3 H3 s3 g3 p3 r3 hm3 => by
    obtain ⟨_, e1, hm4⟩ := run_of_lft hm3
    have hc := grd_of e1
    exact ⟨d, e, r _ _ g3, r3 _ _ (Gm.rf g3.i), hc.1, hc.2, q _ _ S3 H3 s3 (g2.tr g3) p3 rfl hm4⟩
theorem e_neD {m m' : (PyData → μ β) → μ β} (h : EvD K p ta σ S H m) (h' : EvD K p tb σ S H m') : Ev p (tOp (rNeD K) ta tb) σ S H (fun k => m fun d => m' fun e => Mir.lft (grd (ShD d ∧ ShD e)) >>= fun _ => k (!PyData.eqv d e)) rB := fun S1 H1 s g ps k z hm Q q =>
  h S1 H1 s g ps _ z hm _ fun d v S2 H2 s2 g2 p2 r hm2 => h' S2 H2 s2 (g.tr g2) p2 _ z hm2 _ fun e u S3 H3 s3 g3 p3 r3 hm3 => by
    obtain ⟨_, e1, hm4⟩ := run_of_lft hm3
    have hc := grd_of e1
    exact ⟨d, e, r _ _ g3, r3 _ _ (Gm.rf g3.i), hc.1, hc.2, q _ _ S3 H3 s3 (g2.tr g3) p3 rfl hm4⟩
end
section
variable {X : Cx}
theorem k_eqD {k : Nat} (K : PySem.W.Frag) (hr : Room k X.A) (h : X.K = K := by rfl) : OpR X (compareOp .Eq) (rEqD K) := h ▸ op_eqD hr.units
theorem k_neD {k : Nat} (K : PySem.W.Frag) (hr : Room k X.A) (h : X.K = K := by rfl) : OpR X (compareOp .NotEq) (rNeD K) := h ▸ op_neD hr.units
end

/-! ### the pot -/
structure PotT where
  great : List Int
  mix : Int
  turn : Int
structure PotI where
  a : Addr
  g : Addr
  ne : a ≠ g
def potOf (hd : Addr → Int → Int → HO) (i : PotI) : Pt PotT := ⟨[i.a, i.g], fun s => [(i.a, hd i.g s.mix s.turn), (i.g, .lst (s.great.map V.int))], fun _ => rfl, by simp [i.ne]⟩
/-- a dict, a list -/
def hdD (k1 : Str) (g : Addr) (x y : Int) : HO := .dK [(.inr "great", .ref g), (.inr k1, .int x), (.inr "turn", .int y)]
def hdL (g : Addr) (x y : Int) : HO := .lst [.ref g, .int x, .int y]
def rP (i : PotI) : Rp Unit := fun _ v _ => v = .ref i.a
instance (i : PotI) : Mo (rP i) := ⟨fun _ h => h⟩
def rG (i : PotI) : Rp Unit := fun _ v _ => v = .ref i.g
instance (i : PotI) : Mo (rG i) := ⟨fun _ h => h⟩
def potS : PM PotT PotT := fun s => some (s, s)
def potW (f : PotT → PotT) : PM PotT Unit := fun s => some ((), f s)
section
variable {hd : Addr → Int → Int → HO} {i : PotI} {s : PotT} {S H : Hp}
theorem pot_hd (ps : PotAt (potOf hd i) s S H) : H i.a = some (hd i.g s.mix s.turn) ∧ S i.a = none := ps (i.a, _) (List.mem_cons_self ..)
theorem pot_gr (ps : PotAt (potOf hd i) s S H) : H i.g = some (.lst (s.great.map V.int)) ∧ S i.g = none := ps (i.g, _) (List.mem_cons_of_mem _ (List.mem_cons_self ..))
theorem pot_mk (h1 : H i.a = some (hd i.g s.mix s.turn)) (h2 : S i.a = none) (h3 : H i.g = some (.lst (s.great.map V.int))) (h4 : S i.g = none) : PotAt (potOf hd i) s S H := fun c hc => by
  rcases List.mem_cons.mp hc with e | hc
  · subst e; exact ⟨h1, h2⟩
  · rcases List.mem_cons.mp hc with e | hc
    · subst e; exact ⟨h3, h4⟩
    · exact nomatch hc
theorem Gm.inM {M : List Addr} {q : Addr} {u o : HO} (e : Ex S H) (hq : H q = some u) (hs : S q = none) (hM : q ∈ M) : Gm M S H S (upd H q o) := by
  refine ⟨Ex.rf, fun a x h => ?_, fun a x m h => ?_, fun a x h n => n, fun a x h => ?_⟩
  · rw [upd_ne (by rintro rfl; rw [hs] at h; cases h)]; exact e a x h
  · rw [upd_ne (by rintro rfl; exact m hM)]; exact h
  · by_cases z : a = q
    · subst z; exact ⟨o, upd_same⟩
    · exact ⟨x, by rw [upd_ne z]; exact h⟩
theorem pot_pg (e : Ex S H) (ps : PotAt (potOf hd i) s S H) (l : List Int) : PotAt (potOf hd i) { s with great := l } S (upd H i.g (.lst (l.map V.int))) ∧ Gm (potOf hd i).M S H S (upd H i.g (.lst (l.map V.int))) := by
  obtain ⟨h1, h2⟩ := pot_hd ps
  obtain ⟨h3, h4⟩ := pot_gr ps
  exact ⟨pot_mk (by rw [upd_ne i.ne]; exact h1) h2 upd_same h4, Gm.inM e h3 h4 (by simp [potOf])⟩
theorem pot_ph (e : Ex S H) (ps : PotAt (potOf hd i) s S H) (x y : Int) : PotAt (potOf hd i) { s with mix := x, turn := y } S (upd H i.a (hd i.g x y)) ∧ Gm (potOf hd i).M S H S (upd H i.a (hd i.g x y)) := by
  obtain ⟨h1, h2⟩ := pot_hd ps
  obtain ⟨h3, h4⟩ := pot_gr ps
  exact ⟨pot_mk upd_same h2 (by rw [upd_ne (Ne.symm i.ne)]; exact h3) h4, Gm.inM e h1 h2 (by simp [potOf])⟩
end
section
variable {β : Type} {hd : Addr → Int → Int → HO} {i : PotI} {σ : St} {S H : Hp} {te ta tb : TE} {K : PySem.W.Frag} {k1 : Str} {z : β × PotT} {L : List (Addr × HO)} {S0 H0 : Hp} {s : PotT} {tz : TS} {D : Ends}
/-- what is asked of the state -/
theorem e_pot {R : Rp α} (f : PotT → α) (rd : ∀ s S1 H1, Ex S1 H1 → PotAt (potOf hd i) s S1 H1 → ∀ Q : VK, (∀ v, R (f s) v S1 → Q v H1) → te σ H1 Q) : Ev (μ := PM PotT) (β := β) (potOf hd i) te σ S H (fun k => potS >>= fun s => k (f s)) R := fun S1 H1 s g ps k z hm Q q =>
  rd s S1 H1 g.i ps Q fun v r => q (f s) v S1 H1 s (Gm.rf g.i) ps r hm
/-! as a dict -/
theorem gt_ne : ("great" : Str) ≠ "turn" := by decide
theorem dD_G {j : Nat} (e : σ[j]? = some (some (.ref i.a))) : Ev (μ := PM PotT) (β := β) (potOf (hdD k1) i) (tDGet (tVar j) (tC (.str "great"))) σ S H (fun k => k ()) (rG i) := fun S1 H1 s g ps k z hm Q q =>
  ⟨.ref i.a, e, i.a, _, rfl, by have q1 := DGet.k (k := Sum.inr "great") (pot_hd ps).1; rw [valV_pos rfl] at q1; exact q1, q () _ S1 H1 s (Gm.rf g.i) ps rfl hm⟩
theorem dD_S {j : Nat} (e : σ[j]? = some (some (.ref i.a))) (hk : k1 ≠ "great" := by decide) : Ev (μ := PM PotT) (β := β) (potOf (hdD k1) i) (tDGet (tVar j) (tC (.str k1))) σ S H (fun k => potS >>= fun s => k s.mix) rI :=
  e_pot (α := Int) (fun s => s.mix) fun s S1 H1 ex ps Q q => ⟨.ref i.a, e, i.a, .int s.mix, rfl, by have q1 := DGet.k (k := Sum.inr k1) (pot_hd ps).1; rw [valV_neg (fun h => hk (Sum.inr.inj h).symm), valV_pos rfl] at q1; exact q1, q _ rfl⟩
theorem dD_T {j : Nat} (e : σ[j]? = some (some (.ref i.a))) (hk : k1 ≠ "turn" := by decide) : Ev (μ := PM PotT) (β := β) (potOf (hdD k1) i) (tDGet (tVar j) (tC (.str "turn"))) σ S H (fun k => potS >>= fun s => k s.turn) rI :=
  e_pot (α := Int) (fun s => s.turn) fun s S1 H1 ex ps Q q => ⟨.ref i.a, e, i.a, .int s.turn, rfl, by have q1 := DGet.k (k := Sum.inr "turn") (pot_hd ps).1; rw [valV_neg (fun h => absurd (Sum.inr.inj h) gt_ne), valV_neg (fun h => hk (Sum.inr.inj h)), valV_pos rfl] at q1; exact q1, q _ rfl⟩
theorem qD_S {j : Nat} {m : (Int → PM PotT β) → PM PotT β} {k : PM PotT β} (w : Wd (potOf (hdD k1) i) S0 H0 S H L) (ps : PotAt (potOf (hdD k1) i) s S H) (e : σ[j]? = some (some (.ref i.a))) (h : Ev (potOf (hdD k1) i) te σ S H m rI)
    (hm : Mir.run (m fun a => potW (fun s => { s with mix := a }) >>= fun _ => k) s = some z) (hk : k1 ≠ "great") (hk2 : k1 ≠ "turn")
    (nx : ∀ S1 H1 s1, Wd (potOf (hdD k1) i) S0 H0 S1 H1 L → PotAt (potOf (hdD k1) i) s1 S1 H1 → Gm (potOf (hdD k1) i).M S H S1 H1 → Mir.run k s1 = some z → tz D σ H1) : tSeq (sDPut (tVar j) (tC (.str k1)) te) tz D σ H :=
  h S H s (Gm.rf w.i) ps _ z hm _ fun a v S1 H1 s1 g p1 r hm1 => by
    cases (show v = .int a from r)
    obtain ⟨u, s2, e1, hm2⟩ := run_of_bind hm1
    cases e1
    obtain ⟨p2, g2⟩ := pot_ph g.i p1 a s1.turn
    refine ⟨.ref i.a, e, i.a, _, rfl, DPut.k (k := Sum.inr k1) (pot_hd p1).1 (by rw [sizeLine_eq]; simp), ?_⟩
    have e2 : putK [(Sum.inr (α := Int) ("great" : Str), V.ref i.g), (.inr k1, .int s1.mix), (.inr "turn", .int s1.turn)] (.inr k1) (.int a) = [(.inr "great", .ref i.g), (.inr k1, .int a), (.inr "turn", .int s1.turn)] := by
      simp [putK, Ne.symm hk, Ne.symm hk2]
    rw [e2]
    exact nx S1 _ _ ((w.go g).go g2) p2 (g.tr g2) hm2
theorem qD_T {j : Nat} {m : (Int → PM PotT β) → PM PotT β} {k : PM PotT β} (w : Wd (potOf (hdD k1) i) S0 H0 S H L) (ps : PotAt (potOf (hdD k1) i) s S H) (e : σ[j]? = some (some (.ref i.a))) (h : Ev (potOf (hdD k1) i) te σ S H m rI)
    (hm : Mir.run (m fun a => potW (fun s => { s with turn := a }) >>= fun _ => k) s = some z) (hk2 : k1 ≠ "turn")
    (nx : ∀ S1 H1 s1, Wd (potOf (hdD k1) i) S0 H0 S1 H1 L → PotAt (potOf (hdD k1) i) s1 S1 H1 → Gm (potOf (hdD k1) i).M S H S1 H1 → Mir.run k s1 = some z → tz D σ H1) : tSeq (sDPut (tVar j) (tC (.str "turn")) te) tz D σ H :=
  h S H s (Gm.rf w.i) ps _ z hm _ fun a v S1 H1 s1 g p1 r hm1 => by
    cases (show v = .int a from r)
    obtain ⟨u, s2, e1, hm2⟩ := run_of_bind hm1
    cases e1
    obtain ⟨p2, g2⟩ := pot_ph g.i p1 s1.mix a
    refine ⟨.ref i.a, e, i.a, _, rfl, DPut.k (k := Sum.inr "turn") (pot_hd p1).1 (by rw [sizeLine_eq]; simp), ?_⟩
    have e2 : putK [(Sum.inr (α := Int) ("great" : Str), V.ref i.g), (.inr k1, .int s1.mix), (.inr "turn", .int s1.turn)] (.inr "turn") (.int a) = [(.inr "great", .ref i.g), (.inr k1, .int s1.mix), (.inr "turn", .int a)] := by
      simp [putK, hk2, gt_ne]
    rw [e2]
    exact nx S1 _ _ ((w.go g).go g2) p2 (g.tr g2) hm2
/-! the great ones -/
theorem ints_data {l : List Int} : ∀ {H : Hp}, DpAll K H (l.map V.int) (l.map PyData.int) := by
  intro H
  induction l with
  | nil => exact .nil
  | cons a l ih => exact .cons (.int a) ih
def neG (s : PotT) : Bool := !s.great.isEmpty
theorem shaped_ints (l : List Int) : SeqAt.shaped (.list (l.map PyData.int)) = true := by
  have h1 : ∀ l : List Int, PyData.canLayAll0 (l.map PyData.int) = true := by
    intro l
    induction l with
    | nil => rfl
    | cons a l ih => rw [List.map_cons]; unfold PyData.canLayAll0; rw [ih]; rfl
  have h2 : ∀ l : List Int, PyData.depthAll (l.map PyData.int) ≤ 1 := by
    intro l
    induction l with
    | nil => decide
    | cons a l ih => rw [List.map_cons]; unfold PyData.depthAll; simp [PyData.depth]; omega
  unfold SeqAt.shaped
  have h3 : (PyData.list (l.map PyData.int)).canLay0 = true := by unfold PyData.canLay0; exact h1 l
  have h4 : (PyData.list (l.map PyData.int)).depth ≤ 64 := by unfold PyData.depth; have := h2 l; omega
  rw [h3]; simpa using h4
/-- great != [] -/
theorem e_neG {m : (Unit → PM PotT β) → PM PotT β} (h : Ev (potOf hd i) te σ S H m (rG i)) : Ev (potOf hd i) (tOp (rNeD K) te (tLst tNil)) σ S H (fun k => m fun _ => potS >>= fun s => k (neG s)) rB := fun S1 H1 s g ps k z hm Q q =>
  h S1 H1 s g ps _ z hm _ fun _ v S2 H2 s2 g2 p2 r hm2 => ⟨by rw [sizeLine_eq]; decide, fun x hx => by
    cases (show v = .ref i.g from r)
    have g3 : Gm (potOf hd i).M S2 H2 S2 (upd H2 x (.lst [])) := Gm.own g2.i hx
    have p3 := p2.go (Gm.own (M := []) (o := .lst []) g2.i hx)
    refine ⟨.list (s2.great.map PyData.int), .list [], .lst (.of (pot_gr p3).1) ints_data, .lst (.of upd_same) .nil, shaped_ints _, by decide, ?_⟩
    refine q _ _ S2 _ s2 (g2.tr g3) p3 ?_ hm2
    show V.bl _ = V.bl _
    congr 1
    unfold neG
    cases s2.great with
    | nil => rfl
    | cons a l => rfl⟩
theorem ty_G {s : PotT} (ps : PotAt (potOf hd i) s S H) : tyV K "list" (.ref i.g) H := .inl ⟨rfl, _, .of (pot_gr ps).1⟩
/-- great.pop(0) -/
def popG : PM PotT Int := fun s => match s.great with | [] => none | c :: r => some (c, { s with great := r })
theorem e_pop0 {m : (Unit → PM PotT β) → PM PotT β} (h : Ev (potOf hd i) te σ S H m (rG i)) : Ev (potOf hd i) (tBM K "list" rPopAt te (tCons (tC (.int 0)) tNil)) σ S H (fun k => m fun _ => popG >>= k) rI := fun S1 H1 s g ps k z hm Q q =>
  h S1 H1 s g ps _ z hm _ fun _ v S2 H2 s2 g2 p2 r hm2 => by
    cases (show v = .ref i.g from r)
    refine ⟨ty_G p2, ?_⟩
    obtain ⟨c, s3, e1, hm3⟩ := run_of_bind hm2
    have e1 : popG s2 = some (c, s3) := e1
    unfold popG at e1
    cases e : s2.great with
    | nil => rw [e] at e1; cases e1
    | cons b l =>
      rw [e] at e1
      obtain ⟨rfl, rfl⟩ := Prod.mk.inj (Option.some.inj e1)
      obtain ⟨p3, g3⟩ := pot_pg g2.i p2 l
      refine ⟨i.g, s2.great.map V.int, 0, 0, .int b, rfl, rfl, (pot_gr p2).1, by decide, by decide, ?_, by rw [e]; rfl, ?_⟩
      · rw [e]; simp [seqIndex?]
      rw [show (s2.great.map V.int).eraseIdx 0 = l.map V.int by rw [e]; rfl]
      exact q b _ S2 _ _ (g2.tr g3) p3 rfl hm3
/-- great.insert(0, e) -/
theorem e_ins0 {m : (Unit → PM PotT β) → PM PotT β} {m' : (Int → PM PotT β) → PM PotT β} (h : Ev (potOf hd i) te σ S H m (rG i)) (h' : Ev (potOf hd i) ta σ S H m' rI) :
    Ev (potOf hd i) (tBM K "list" (fun x vs H Q => ∃ (l : Addr) (xs : List V) (i : Int) (y : V), x = .ref l ∧ vs = [.int i, y] ∧ H l = some (.lst xs) ∧ xs.length < sizeLine ∧ 0 ≤ i ∧ i < 2 ^ 63 ∧ Q .non (upd H l (.lst (xs.take i.toNat ++ [y] ++ xs.drop i.toNat)))) te (tCons (tC (.int 0)) (tCons ta tNil))) σ S H
      (fun k => m fun _ => m' fun a => potS >>= fun s => Mir.lft (grd (s.great.length < 16000000)) >>= fun _ => potW (fun s => { s with great := a :: s.great }) >>= k) rN := fun S1 H1 s g ps k z hm Q q =>
  h S1 H1 s g ps _ z hm _ fun _ v S2 H2 s2 g2 p2 r hm2 => by
    cases (show v = .ref i.g from r)
    refine ⟨ty_G p2, h' S2 H2 s2 (g.tr g2) p2 _ z hm2 _ fun a u S3 H3 s3 g3 p3 r3 hm3 => ?_⟩
    cases (show u = .int a from r3)
    obtain ⟨s4, s5, e1, hm4⟩ := run_of_bind hm3
    cases e1
    obtain ⟨_, e2, hm5⟩ := run_of_lft hm4
    have hl := grd_of e2
    obtain ⟨_, s6, e3, hm6⟩ := run_of_bind hm5
    cases e3
    obtain ⟨p4, g4⟩ := pot_pg g3.i p3 (a :: s3.great)
    refine ⟨i.g, s3.great.map V.int, 0, .int a, rfl, rfl, (pot_gr p3).1, by rw [List.length_map, sizeLine_eq]; omega, by decide, by decide, ?_⟩
    rw [show ((s3.great.map V.int).take (0 : Int).toNat ++ [V.int a] ++ (s3.great.map V.int).drop (0 : Int).toNat) = (a :: s3.great).map V.int by simp]
    exact q () _ S3 _ _ ((g2.tr g3).tr g4) p4 rfl hm6
/-- an expression for what it does -/
theorem q_dropE {α : Type} {m : (α → PM PotT β) → PM PotT β} {R : Rp α} {p : Pt PotT} {k : α → PM PotT β} (w : Wd p S0 H0 S H L) (ps : PotAt p s S H) (h : Ev p te σ S H m R) (hm : Mir.run (m k) s = some z)
    (nx : ∀ a S1 H1 s1, Wd p S0 H0 S1 H1 L → PotAt p s1 S1 H1 → Gm p.M S H S1 H1 → Mir.run (k a) s1 = some z → tz D σ H1) : tSeq (tDrop te) tz D σ H :=
  h S H s (Gm.rf w.i) ps _ z hm _ fun a v S1 H1 s1 g p1 r hm1 => nx a S1 H1 s1 (w.go g) p1 g hm1
end
end Wk
set_option Elab.async false
set_option maxRecDepth 100000
set_option maxHeartbeats 4000000
set_option linter.all false
/-! W7: slices, the script, the pot's making -/
namespace Wk
open PySem L2
open PyProof.Rows hiding St
section
variable {μ : Type → Type} {τ : Type} [Mir μ τ] {α β γ : Type} {p : Pt τ} {σ : St} {S H : Hp} {te ta tb : TE} {K : PySem.W.Frag}
/-- a part of a slice -/
def EvO (p : Pt τ) (to : TO) (σ : St) (S H : Hp) (m : (Option Int → μ β) → μ β) : Prop :=
  ∀ S1 H1 s, Gm p.M S H S1 H1 → PotAt p s S1 H1 → ∀ (k : Option Int → μ β) z, Mir.run (m k) s = some z → ∀ Q : Option Int → Hp → Prop,
    (∀ a S2 H2 s2, Gm p.M S1 H1 S2 H2 → PotAt p s2 S2 H2 → Mir.run (k a) s2 = some z → Q a H2) → to σ H1 Q
theorem o_no : EvO (μ := μ) (β := β) p tNoPart σ S H (fun k => k none) := fun _ _ _ g ps _ _ hm _ q => q _ _ _ _ (Gm.rf g.i) ps hm
theorem o_some {m : (Int → μ β) → μ β} (h : Ev p te σ S H m rI) : EvO p (tPart te) σ S H (fun k => m fun a => k (some a)) := fun S1 H1 s g ps k z hm Q q =>
  h S1 H1 s g ps _ z hm _ fun a v S2 H2 s2 g2 p2 r hm2 => ⟨a, r, q _ S2 H2 s2 g2 p2 hm2⟩
def cut (xs : List α) (lo hi : Option Int) : List α := (xs.drop (HT.sIx xs.length 0 lo)).take (HT.sIx xs.length xs.length hi - HT.sIx xs.length 0 lo)
theorem All.cut {R : Rp α} {xs : List α} {vs : List V} (h : All R S xs vs) (lo hi : Option Int) : All R S (cut xs lo hi) (cutV vs lo hi) := by
  unfold Wk.cut cutV
  rw [← h.len]
  exact (h.drop _).take _
theorem l_cut {R : Rp α} {m : (List α → μ β) → μ β} {ml mh : (Option Int → μ β) → μ β} {tl th : TO} [Mo R] (h : EvR p te σ S H m (aAll R)) (hl : EvO p tl σ S H ml) (hh : EvO p th σ S H mh) :
    EvL p (tSl (rSlL K) te tl th) σ S H (fun k => m fun xs => ml fun lo => mh fun hi => k (cut xs lo hi)) (aAll R) := fun S1 H1 s g ps k z hm Q q =>
  h S1 H1 s g ps _ z hm _ fun xs x vs S2 H2 s2 g2 p2 e2 m2 r2 hm2 => hl S2 H2 s2 (g.tr g2) p2 _ z hm2 _ fun lo S3 H3 s3 g3 p3 hm3 => hh S3 H3 s3 ((g.tr g2).tr g3) p3 _ z hm3 _ fun hi S4 H4 s4 g4 p4 hm4 =>
    ⟨x, vs, rfl, .of (g4.h _ _ m2 (g3.h _ _ m2 e2)), fun y hy => by
      have g5 := (g2.tr g3).tr g4
      have n1 : H1 y = none := by
        cases e : H1 y with
        | none => rfl
        | some u => obtain ⟨u', e'⟩ := g5.t y u e; rw [hy] at e'; cases e'
      have a2 : All R S2 xs vs := r2
      exact q (cut xs lo hi) y (cutV vs lo hi) S4 _ s4 (g5.tr (Gm.own g4.i hy)) (p4.go (Gm.own g4.i hy)) n1 upd_same (g4.i.no hy) (new_nM p4 hy) ((a2.mo (g3.s.tr g4.s)).cut lo hi) hm4⟩
/-- the script -/
def rX (K : PySem.W.Frag) : Rp (List Int) := fun xs v S => ∃ a, v = .ref a ∧ SqL K S a (xs.map V.int)
instance (K : PySem.W.Frag) : Mo (rX K) := ⟨fun e ⟨a, h1, h2⟩ => ⟨a, h1, sqL_ex e h2⟩⟩
theorem c_lenX {m : (List Int → μ β) → μ β} (h : Ev p te σ S H m (rX K)) : Ev p (tCB (fun xs H Q => ∃ p ys, xs = [.ref p] ∧ (SqL K H p ys ∨ SqT K H p ys) ∧ Q (.int ys.length) H) (tCons te tNil)) σ S H (fun k => m fun xs => k (xs.length : Int)) rI := fun S1 H1 s g ps k z hm Q q =>
  h S1 H1 s g ps _ z hm _ fun xs v S2 H2 s2 g2 p2 ⟨x, e2, r2⟩ hm2 => by
    subst e2
    exact ⟨x, _, rfl, .inl (sqL_ex g2.i r2), q _ _ S2 H2 s2 g2 p2 (by show V.int _ = V.int _; rw [List.length_map]) hm2⟩
theorem l_cutX {m : (List Int → μ β) → μ β} {ml mh : (Option Int → μ β) → μ β} {tl th : TO} (h : Ev p te σ S H m (rX K)) (hl : EvO p tl σ S H ml) (hh : EvO p th σ S H mh) :
    EvL p (tSl (rSlL K) te tl th) σ S H (fun k => m fun xs => ml fun lo => mh fun hi => k (cut xs lo hi)) (aAll rI) := fun S1 H1 s g ps k z hm Q q =>
  h S1 H1 s g ps _ z hm _ fun xs v S2 H2 s2 g2 p2 ⟨x, e2, r2⟩ hm2 => hl S2 H2 s2 (g.tr g2) p2 _ z hm2 _ fun lo S3 H3 s3 g3 p3 hm3 => hh S3 H3 s3 ((g.tr g2).tr g3) p3 _ z hm3 _ fun hi S4 H4 s4 g4 p4 hm4 =>
    ⟨x, _, e2, sqL_ex ((g3.s.tr g4.s).tr g4.i) r2, fun y hy => by
      have g5 := (g2.tr g3).tr g4
      have n1 : H1 y = none := by
        cases e : H1 y with
        | none => rfl
        | some u => obtain ⟨u', e'⟩ := g5.t y u e; rw [hy] at e'; cases e'
      exact q (cut xs lo hi) y (cutV (xs.map V.int) lo hi) S4 _ s4 (g5.tr (Gm.own g4.i hy)) (p4.go (Gm.own g4.i hy)) n1 upd_same (g4.i.no hy) (new_nM p4 hy) ((All.ofInts xs).cut lo hi) hm4⟩
end
section
variable {X : Cx}
theorem k_sll (K : PySem.W.Frag) (h : X.K = K := by rfl) : SlR X (rSlL K) := h ▸ sl_list
end
section
variable {β : Type} {σ : St} {S H S0 H0 : Hp} {te t1 t2 : TE} {K : PySem.W.Frag} {k1 : Str} {z : β × Unit} {hd : Addr → Int → Int → HO} {tz : TS} {D : Ends} {L : List (Addr × HO)} {s : Unit}
/-- a new pot -/
def EvP (hd : Addr → Int → Int → HO) (te : TE) (σ : St) (S H : Hp) (m : (PotT → Option β) → Option β) : Prop := ∀ S1 H1, Gm [] S H S1 H1 → ∀ (k : PotT → Option β) z, Mir.run (m k) () = some z → ∀ Q : VK,
  (∀ s i S2 H2, Gm [] S1 H1 S2 H2 → PotAt (potOf hd i) s S2 H2 → H1 i.a = none → H1 i.g = none → Mir.run (k s) () = some z → Q (.ref i.a) H2) → te σ H1 Q
theorem back_none {S H S' H' : Hp} {M : List Addr} (g : Gm M S H S' H') {x : Addr} (hx : H' x = none) : H x = none := by
  cases e : H x with
  | none => rfl
  | some u => obtain ⟨u', e'⟩ := g.t x u e; rw [hx] at e'; cases e'
theorem pot_disp {m1 : (List Int → Option β) → Option β} {m2 : (Int → Option β) → Option β} (h1 : EvL pt0 t1 σ S H m1 (aAll rI)) (h2 : Ev pt0 t2 σ S H m2 rI) (hk : k1 ≠ "great") (hk2 : k1 ≠ "turn") :
    EvP (hdD k1) (tDisp [(tC (.str "great"), t1), (tC (.str k1), t2), (tC (.str "turn"), tC (.int 0))]) σ S H (fun k => m1 fun l => m2 fun x => k ⟨l, x, 0⟩) := fun S1 H1 g k z hm Q q p hp => by
  have g2 : Gm [] S1 H1 S1 (upd H1 p (.dK [])) := Gm.own g.i hp
  show t1 σ _ _
  refine h1 S1 _ () (g.tr g2) pot0' _ z hm _ fun l q1 vs S3 H3 _ g3 _ n3 e3 s3 _ r3 hm3 => ?_
  show t2 σ _ _
  refine h2 S3 H3 () ((g.tr g2).tr g3) pot0' _ z hm3 _ fun x v S4 H4 _ g4 _ r4 hm4 => ?_
  cases (show v = .int x from r4)
  have ed : H4 p = some (.dK []) := g4.h _ _ (by simp [pt0]) (g3.h _ _ (by simp [pt0]) upd_same)
  have eg : H4 q1 = some (.lst vs) := g4.h _ _ (by simp [pt0]) e3
  have sp : S4 p = none := (g3.tr g4).f _ _ upd_same (g.i.no hp)
  have sg : S4 q1 = none := g4.f _ _ e3 s3
  have ne : p ≠ q1 := by
    rintro rfl
    rw [upd_same] at n3
    cases n3
  refine ⟨ed, [(.inr "great", .ref q1), (.inr k1, .int x), (.inr "turn", .int 0)], rfl, by simp, ?_⟩
  have em : mergeK ([] : List (Key × V)) [(.inr "great", .ref q1), (.inr k1, .int x), (.inr "turn", .int 0)] = [(.inr "great", .ref q1), (.inr k1, .int x), (.inr "turn", .int 0)] := by
    simp [mergeK, putK, Ne.symm hk, hk, hk2, gt_ne]
  rw [em]
  have hv : vs = l.map V.int := All.ints r3
  subst hv
  refine q ⟨l, x, 0⟩ ⟨p, q1, ne⟩ S4 _ ⟨((g2.tr g3).tr g4).s, fun a u e => ?_, fun a u _ e => ?_, ((g2.tr g3).tr g4).f, fun a u e => ?_⟩ (pot_mk upd_same sp (by rw [upd_ne (Ne.symm ne)]; exact eg) sg) hp ?_ hm4
  · rw [upd_ne (by rintro rfl; rw [sp] at e; cases e)]; exact g4.i a u e
  · rw [upd_ne (by rintro rfl; rw [hp] at e; cases e)]
    exact ((g2.tr g3).tr g4).h a u (by simp) e
  · by_cases z : a = p
    · subst z; rw [hp] at e; cases e
    · obtain ⟨u', e'⟩ := ((g2.tr g3).tr g4).t a u e
      exact ⟨u', by rw [upd_ne z]; exact e'⟩
  · exact back_none g2 n3
theorem q_retP {m : (PotT → Option β) → Option β} {k : PotT → Option β} (w : Wd pt0 S0 H0 S H L) (h : EvP hd te σ S H m) (hm : Mir.run (m fun a => bnd a k) () = some z)
    (nx : ∀ s i S1 H1, Gm [] S0 H0 S1 H1 → PotAt (potOf hd i) s S1 H1 → H0 i.a = none → H0 i.g = none → Mir.run (k s) () = some z → D.rt (.ref i.a) H1) : tSeq (tRet te) tz D σ H :=
  h S H (Gm.rf w.i) _ z hm _ fun s i S1 H1 g1 p1 n1 n2 hm1 => nx s i S1 H1 (w.g.tr g1) p1 (back_none w.g n1) (back_none w.g n2) hm1
def spP (hd : Addr → Int → Int → HO) (fm : List Int → Option PotT) (K : PySem.W.Frag) : Sp := fun vs H Q _ => ∃ a S s, Ex S H ∧ (aOne (rX K)) a vs S ∧ fm a = some s ∧
  ∀ i S' H', Gm [] S H S' H' → PotAt (potOf hd i) s S' H' → H i.a = none → H i.g = none → Q (.ref i.a) H'
/-- the law's first line -/
theorem q_pot {fm : List Int → Option PotT} {j : Nat} {v : V} {a : List Int} {s : PotT} (ex : Ex S H) (e : σ[0]? = some (some v)) (r : rX K a v S) (hf : fm a = some s) (σ' : V → St) (hσ : ∀ v, σ.set j (some v) = σ' v)
    (nx : ∀ i S1 H1, Wd (potOf hd i) S1 H1 S1 H1 [] → PotAt (potOf hd i) s S1 H1 → Ex S S1 → tz D (σ' (.ref i.a)) H1) : tSeq (tAsg (tCall (spP hd fm K) [] E0 (tCons (tVar 0) tNil)) (gName j)) tz D σ H :=
  ⟨v, e, a, S, s, ex, ⟨v, rfl, r⟩, hf, fun i S1 H1 g1 p1 _ _ => by
    have q := nx i S1 H1 (Wd.start g1.i) p1 g1.s
    rw [← hσ] at q
    exact q⟩
/-- the law's promise: its answer is True -/
def spLaw (K : PySem.W.Frag) (ok : List Int → Prop) : Sp := fun vs H Q _ => ∃ a, (aOne (rX K)) a vs H ∧ ok a ∧ ∀ H', Q (.bl true) H'
end
end Wk
set_option Elab.async false
set_option maxRecDepth 100000
set_option maxHeartbeats 4000000
set_option linter.all false
/-! W8: sums of tuples, the pot as a list -/
namespace Wk
open PySem L2
open PyProof.Rows hiding St
def rSumT (K : PySem.W.Frag) : List V → Hp → VK → Prop := fun vs H Q => ∃ (a : Addr) (ns : List Int), vs = [V.ref a] ∧ SqT K H a (ns.map V.int) ∧ Q (.int ns.sum) H
section
variable {X : Cx}
theorem cr_sumT (hc : X.calm = true) : CallR X (.builtin "sum") (rSumT X.K) := by
  intro pins s σ H vs us Q I r h
  obtain ⟨a, ns, rfl, hs, q⟩ := h
  obtain ⟨its, rv, ht, _⟩ := I.tuple hs
  rw [Vals.ref1 r]
  have ht : s.heap.IsTuple a its.toArray := by
    obtain ⟨o, ho, hcl, n, hd⟩ := ht
    exact ⟨o, ho, hcl, n, hd⟩
  have hi : IntsAre its ns := rv.ints
  obtain ⟨xs, hx⟩ := hi.allInts.items
  have hn : numsOf its.toArray.toList = ns := by rw [show its.toArray.toList = its from rfl, hi.numsOf]
  rw [hx] at ht hn
  rw [nums_intItems] at hn
  refine PySem.W.ktm_sumG (I.ok.hd hc) ht fun h' tk t' hk => ⟨.int ns.sum, H, I.kept hk, ?_, q⟩
  rw [preSum_eq, List.take_of_length_le (by simp), hn]
  exact ⟨_, rfl⟩
theorem k_sumT (K : PySem.W.Frag) (hc : X.calm = true := by rfl) (h : X.K = K := by rfl) : CallR X (.builtin "sum") (rSumT K) := h ▸ cr_sumT hc
end
section
variable {μ : Type → Type} {τ : Type} [Mir μ τ] {α β : Type} {p : Pt τ} {σ : St} {S H : Hp} {te ta tb : TE} {K : PySem.W.Frag}
theorem c_sumT {m : (List Int → μ β) → μ β} (h : Ev p te σ S H m (rT K (aAll rI))) : Ev p (tCB (rSumT K) (tCons te tNil)) σ S H (fun k => m fun xs => k xs.sum) rI := fun S1 H1 s g ps k z hm Q q =>
  h S1 H1 s g ps _ z hm _ fun xs v S2 H2 s2 g2 p2 ⟨x, vs, e2, h2, r2⟩ hm2 => ⟨x, xs, by rw [e2], by rw [← All.ints r2]; exact sqT_ex g2.i h2, q _ _ S2 H2 s2 g2 p2 rfl hm2⟩
end
section
variable {β : Type} {i : PotI} {σ : St} {S H S0 H0 : Hp} {te ta tb t1 t2 : TE} {K : PySem.W.Frag} {z : β × PotT} {L : List (Addr × HO)} {s : PotT} {tz : TS} {D : Ends} {hd : Addr → Int → Int → HO}
/-! as a list -/
theorem dL_ix {j : Nat} {c : Int} {v : V} (ps : PotAt (potOf hdL i) s S H) (e : σ[j]? = some (some (.ref i.a))) (hv : atI [V.ref i.g, .int s.mix, .int s.turn] c = some v) {Q : VK} (q : Q v H) : tOp (rIxL K) (tVar j) (tC (.int c)) σ H Q :=
  ⟨.ref i.a, e, i.a, _, c, v, rfl, rfl, .of (pot_hd ps).1, hv, q⟩
theorem dL_G {j : Nat} (e : σ[j]? = some (some (.ref i.a))) : Ev (μ := PM PotT) (β := β) (potOf hdL i) (tOp (rIxL K) (tVar j) (tC (.int 0))) σ S H (fun k => k ()) (rG i) := fun S1 H1 s g ps k z hm Q q =>
  dL_ix ps e rfl (q () _ S1 H1 s (Gm.rf g.i) ps rfl hm)
theorem dL_S {j : Nat} (e : σ[j]? = some (some (.ref i.a))) : Ev (μ := PM PotT) (β := β) (potOf hdL i) (tOp (rIxL K) (tVar j) (tC (.int 1))) σ S H (fun k => potS >>= fun s => k s.mix) rI :=
  e_pot (α := Int) (fun s => s.mix) fun s S1 H1 ex ps Q q => dL_ix ps e rfl (q _ rfl)
theorem dL_T {j : Nat} (e : σ[j]? = some (some (.ref i.a))) : Ev (μ := PM PotT) (β := β) (potOf hdL i) (tOp (rIxL K) (tVar j) (tC (.int 2))) σ S H (fun k => potS >>= fun s => k s.turn) rI :=
  e_pot (α := Int) (fun s => s.turn) fun s S1 H1 ex ps Q q => dL_ix ps e rfl (q _ rfl)
theorem qL_T {j : Nat} {m : (Int → PM PotT β) → PM PotT β} {k : PM PotT β} (w : Wd (potOf hdL i) S0 H0 S H L) (ps : PotAt (potOf hdL i) s S H) (e : σ[j]? = some (some (.ref i.a))) (h : Ev (potOf hdL i) te σ S H m rI)
    (hm : Mir.run (m fun a => potW (fun s => { s with turn := a }) >>= fun _ => k) s = some z)
    (nx : ∀ S1 H1 s1, Wd (potOf hdL i) S0 H0 S1 H1 L → PotAt (potOf hdL i) s1 S1 H1 → Gm (potOf hdL i).M S H S1 H1 → Mir.run k s1 = some z → tz D σ H1) : tSeq (tAsg te (gSub (tVar j) (tC (.int 2)) rSetL)) tz D σ H :=
  h S H s (Gm.rf w.i) ps _ z hm _ fun a v S1 H1 s1 g p1 r hm1 => by
    cases (show v = .int a from r)
    obtain ⟨u, s2, e1, hm2⟩ := run_of_bind hm1
    cases e1
    obtain ⟨p2, g2⟩ := pot_ph g.i p1 s1.mix a
    exact ⟨.ref i.a, e, i.a, _, 2, 2, rfl, rfl, (pot_hd p1).1, rfl, nx S1 _ _ ((w.go g).go g2) p2 (g.tr g2) hm2⟩
/-- great.pop() -/
def popL : PM PotT Int := fun s => match s.great.getLast? with | none => none | some c => some (c, { s with great := s.great.dropLast })
theorem e_popL {m : (Unit → PM PotT β) → PM PotT β} (h : Ev (potOf hd i) te σ S H m (rG i)) : Ev (potOf hd i) (tBM0 K "list" rPop te) σ S H (fun k => m fun _ => popL >>= k) rI := fun S1 H1 s g ps k z hm Q q =>
  h S1 H1 s g ps _ z hm _ fun _ v S2 H2 s2 g2 p2 r hm2 => by
    cases (show v = .ref i.g from r)
    refine ⟨ty_G p2, ?_⟩
    obtain ⟨c, s3, e1, hm3⟩ := run_of_bind hm2
    have e1 : popL s2 = some (c, s3) := e1
    unfold popL at e1
    cases e : s2.great.getLast? with
    | none => rw [e] at e1; cases e1
    | some b =>
      rw [e] at e1
      obtain ⟨rfl, rfl⟩ := Prod.mk.inj (Option.some.inj e1)
      obtain ⟨p3, g3⟩ := pot_pg g2.i p2 s2.great.dropLast
      refine ⟨i.g, s2.great.map V.int, .int b, rfl, rfl, (pot_gr p2).1, ?_, ?_⟩
      · rw [List.length_map, List.getElem?_map, ← List.getLast?_eq_getElem?, e]; rfl
      rw [← List.map_dropLast]
      exact q b _ S2 _ _ (g2.tr g3) p3 rfl hm3
/-- great.append(e) -/
theorem e_appG {m : (Unit → PM PotT β) → PM PotT β} {m' : (Int → PM PotT β) → PM PotT β} (h : Ev (potOf hd i) te σ S H m (rG i)) (h' : Ev (potOf hd i) ta σ S H m' rI) : Ev (potOf hd i) (tBM K "list" rAppend te (tCons ta tNil)) σ S H
      (fun k => m fun _ => m' fun a => potS >>= fun s => Mir.lft (grd (s.great.length < 16000000)) >>= fun _ => potW (fun s => { s with great := s.great ++ [a] }) >>= k) rN := fun S1 H1 s g ps k z hm Q q =>
  h S1 H1 s g ps _ z hm _ fun _ v S2 H2 s2 g2 p2 r hm2 => by
    cases (show v = .ref i.g from r)
    refine ⟨ty_G p2, h' S2 H2 s2 (g.tr g2) p2 _ z hm2 _ fun a u S3 H3 s3 g3 p3 r3 hm3 => ?_⟩
    cases (show u = .int a from r3)
    obtain ⟨s4, s5, e1, hm4⟩ := run_of_bind hm3
    cases e1
    obtain ⟨_, e2, hm5⟩ := run_of_lft hm4
    have hl := grd_of e2
    obtain ⟨_, s6, e3, hm6⟩ := run_of_bind hm5
    cases e3
    obtain ⟨p4, g4⟩ := pot_pg g3.i p3 (s3.great ++ [a])
    refine ⟨i.g, s3.great.map V.int, .int a, rfl, rfl, (pot_gr p3).1, by rw [List.length_map, sizeLine_eq]; omega, ?_⟩
    rw [show (s3.great.map V.int ++ [V.int a]) = (s3.great ++ [a]).map V.int by simp]
    exact q () _ S3 _ _ ((g2.tr g3).tr g4) p4 rfl hm6
end
section
variable {β : Type} {σ : St} {S H : Hp} {t1 t2 : TE}
theorem pot_lst {m1 : (List Int → Option β) → Option β} {m2 : (Int → Option β) → Option β} (h1 : EvL pt0 t1 σ S H m1 (aAll rI)) (h2 : Ev pt0 t2 σ S H m2 rI) :
    EvP hdL (tLst (tCons t1 (tCons t2 (tCons (tC (.int 0)) tNil)))) σ S H (fun k => m1 fun l => m2 fun x => k ⟨l, x, 0⟩) := fun S1 H1 g k z hm Q q => by
  refine h1 S1 H1 () g pot0' _ z hm _ fun l q1 vs S3 H3 _ g3 _ n3 e3 s3 _ r3 hm3 => ?_
  refine h2 S3 H3 () (g.tr g3) pot0' _ z hm3 _ fun x v S4 H4 _ g4 _ r4 hm4 => ?_
  cases (show v = .int x from r4)
  have eg : H4 q1 = some (.lst vs) := g4.h _ _ (by simp [pt0]) e3
  have sg : S4 q1 = none := g4.f _ _ e3 s3
  have hv : vs = l.map V.int := All.ints r3
  subst hv
  refine ⟨by rw [sizeLine_eq]; simp, fun p hp => ?_⟩
  have ne : p ≠ q1 := by
    rintro rfl
    rw [eg] at hp
    cases hp
  have g5 : Gm [] S4 H4 S4 (upd H4 p (.lst [.ref q1, .int x, .int 0])) := Gm.own g4.i hp
  exact q ⟨l, x, 0⟩ ⟨p, q1, ne⟩ S4 _ ((g3.tr g4).tr g5) (pot_mk upd_same (g4.i.no hp) (by rw [upd_ne (Ne.symm ne)]; exact eg) sg) (back_none (g3.tr g4) hp) n3 hm4
end
end Wk
set_option Elab.async false
set_option maxRecDepth 100000
set_option maxHeartbeats 4000000
set_option linter.all false
/-! W9: what is never reached, typed ==, sorted, tuples taken apart -/
namespace Wk
open PySem L2
open PyProof.Rows hiding St
theorem ps_dead {X : Cx} {st : Stmt} : PS X st (fun _ _ _ => False) := ⟨fun _ _ _ _ _ _ h => h.elim⟩
section
variable {μ : Type → Type} {τ : Type} [Mir μ τ] {α β γ : Type} {p : Pt τ} {σ : St} {S H S0 H0 : Hp} {te ta tb : TE} {K : PySem.W.Frag} {s : τ} {tz : TS} {D : Ends} {z : β × τ}
/-- a raise that is never reached -/
theorem q_dead {k : Unit → μ β} (hm : Mir.run (Mir.lft (none : Option Unit) >>= k) s = some z) : tSeq (fun _ _ _ => False) tz D σ H := by
  obtain ⟨_, e, _⟩ := run_of_lft hm
  cases e
/-- x is True, x is False -/
theorem e_isB {m m' : (Bool → μ β) → μ β} (h : Ev p ta σ S H m rB) (h' : Ev p tb σ S H m' rB) : Ev p (tOp rIsB ta tb) σ S H (fun k => m fun a => m' fun b => k (decide (a = b))) rB := fun S1 H1 s g ps k z hm Q q =>
  h S1 H1 s g ps _ z hm _ fun a v S2 H2 s2 g2 p2 r hm2 => h' S2 H2 s2 (g.tr g2) p2 _ z hm2 _ fun b u S3 H3 s3 g3 p3 r3 hm3 => ⟨a, b, r, r3, q _ _ S3 H3 s3 (g2.tr g3) p3 rfl hm3⟩
theorem e_notB {m m' : (Bool → μ β) → μ β} (h : Ev p ta σ S H m rB) (h' : Ev p tb σ S H m' rB) : Ev p (tOp rNotB ta tb) σ S H (fun k => m fun a => m' fun b => k (!decide (a = b))) rB := fun S1 H1 s g ps k z hm Q q =>
  h S1 H1 s g ps _ z hm _ fun a v S2 H2 s2 g2 p2 r hm2 => h' S2 H2 s2 (g.tr g2) p2 _ z hm2 _ fun b u S3 H3 s3 g3 p3 r3 hm3 => ⟨a, b, r, r3, q _ _ S3 H3 s3 (g2.tr g3) p3 rfl hm3⟩
theorem Ev.eta {m : (α → μ β) → μ β} {R : Rp α} (h : Ev p te σ S H (fun k => m k) R) : Ev p te σ S H m R := h
theorem EvL.eta {m : (α → μ β) → μ β} {A : Rq α} (h : EvL p te σ S H (fun k => m k) A) : EvL p te σ S H m A := h
/-! ### == of values of one kind -/
/-- data that is told apart as the values are -/
structure EqD (D : Nat) (d : α → PyData) : Prop where
  e : ∀ a b, PyData.eqv (d a) (d b) = true ↔ a = b
  l : ∀ a, (d a).canLay0 = true
  d : ∀ a, (d a).depth ≤ D
structure EqDs (D : Nat) (d : α → List PyData) : Prop where
  e : ∀ a b, PyData.eqvAll (d a) (d b) = true ↔ a = b
  l : ∀ a, PyData.canLayAll0 (d a) = true
  d : ∀ a, PyData.depthAll (d a) ≤ D
theorem q_I : EqD 0 PyData.int := ⟨fun a b => by simp only [PyData.eqv]; exact beq_iff_eq, fun _ => rfl, fun _ => by simp only [PyData.depth]; exact Nat.le_refl _⟩
theorem q_B : EqD 0 PyData.bool := ⟨fun a b => by simp only [PyData.eqv]; exact beq_iff_eq, fun _ => rfl, fun _ => by simp only [PyData.depth]; exact Nat.le_refl _⟩
theorem qs_nil : EqDs 0 (fun _ : Unit => []) := ⟨fun a b => by simp only [PyData.eqvAll], fun _ => rfl, fun _ => by simp only [PyData.depthAll]; exact Nat.le_refl _⟩
theorem qs_one {n : Nat} {d : α → PyData} (h : EqD n d) : EqDs n (fun a => [d a]) := ⟨fun a b => by simp only [PyData.eqvAll, Bool.and_true]; exact h.e a b, fun a => by simp only [PyData.canLayAll0, Bool.and_true]; exact h.l a, fun a => by simp only [PyData.depthAll]; have := h.d a; omega⟩
theorem qs_cons {n m : Nat} {d : α → PyData} {ds : γ → List PyData} (h : EqD n d) (h' : EqDs m ds) : EqDs (max n m) (fun a : α × γ => d a.1 :: ds a.2) :=
  ⟨fun a b => by simp only [PyData.eqvAll, Bool.and_eq_true]; rw [h.e, h'.e]; exact Prod.ext_iff.symm, fun a => by simp only [PyData.canLayAll0, Bool.and_eq_true]; exact ⟨h.l _, h'.l _⟩, fun a => by simp only [PyData.depthAll]; have := h.d a.1; have := h'.d a.2; omega⟩
theorem qs_all {n : Nat} {d : α → PyData} (h : EqD n d) : EqDs n (fun xs : List α => xs.map d) := by
  refine ⟨fun a b => ?_, fun a => ?_, fun a => ?_⟩
  · induction a generalizing b with
    | nil => cases b <;> simp [PyData.eqvAll]
    | cons x a ih =>
      cases b with
      | nil => simp [PyData.eqvAll]
      | cons y b =>
        simp only [List.map_cons, PyData.eqvAll, Bool.and_eq_true]
        rw [h.e, ih, List.cons.injEq]
  · induction a with
    | nil => rfl
    | cons x a ih => simp only [List.map_cons, PyData.canLayAll0, Bool.and_eq_true]; exact ⟨h.l x, ih⟩
  · induction a with
    | nil => simp only [List.map_nil, PyData.depthAll]; omega
    | cons x a ih => simp only [List.map_cons, PyData.depthAll]; have := h.d x; omega
theorem q_T {n : Nat} {ds : α → List PyData} (h : EqDs n ds) : EqD (n + 1) (fun a => PyData.tuple (ds a)) := ⟨fun a b => by simp only [PyData.eqv]; exact h.e a b, fun a => by simp only [PyData.canLay0]; exact h.l a, fun a => by simp only [PyData.depth]; have := h.d a; omega⟩
theorem q_L {n : Nat} {ds : α → List PyData} (h : EqDs n ds) : EqD (n + 1) (fun a => PyData.list (ds a)) := ⟨fun a b => by simp only [PyData.eqv]; exact h.e a b, fun a => by simp only [PyData.canLay0]; exact h.l a, fun a => by simp only [PyData.depth]; have := h.d a; omega⟩
theorem EqD.sh {n : Nat} {d : α → PyData} (h : EqD n d) (hn : n ≤ 64) (a : α) : ShD (d a) := by
  unfold ShD SeqAt.shaped
  rw [h.l a, decide_eq_true (Nat.le_trans (h.d a) hn)]; rfl
theorem EqD.dec [DecidableEq α] {n : Nat} {d : α → PyData} (h : EqD n d) (a b : α) : PyData.eqv (d a) (d b) = decide (a = b) := by
  by_cases q : a = b
  · rw [decide_eq_true q]; exact (h.e a b).mpr q
  · rw [decide_eq_false q]
    cases e : PyData.eqv (d a) (d b) with
    | false => rfl
    | true => exact absurd ((h.e a b).mp e) q
/-- data known as a value -/
def EvQ (K : PySem.W.Frag) (d : α → PyData) (p : Pt τ) (te : TE) (σ : St) (S H : Hp) (m : (α → μ β) → μ β) : Prop :=
  ∀ S1 H1 s, Gm p.M S H S1 H1 → PotAt p s S1 H1 → ∀ (k : α → μ β) z, Mir.run (m k) s = some z → ∀ Q : VK,
    (∀ a v S2 H2 s2, Gm p.M S1 H1 S2 H2 → PotAt p s2 S2 H2 → (∀ S3 H3, Gm p.M S2 H2 S3 H3 → Dp K H3 v (d a)) → Mir.run (k a) s2 = some z → Q v H2) → te σ H1 Q
theorem Ev.Q {R : Rp α} [Mo R] {d : α → PyData} {m : (α → μ β) → μ β} (h : Ev p te σ S H m R) (hd : isD K R d) : EvQ K d p te σ S H m := fun S1 H1 s g ps k z hm Q q =>
  h S1 H1 s g ps _ z hm _ fun a v S2 H2 s2 g2 p2 r hm2 => q a v S2 H2 s2 g2 p2 (fun S3 H3 g3 => hd a v S3 H3 (Mo.mo g3.s r) g3.i) hm2
theorem EvR.Q {A : Rq α} [Mo A] {d : α → List PyData} {m : (α → μ β) → μ β} (h : EvR p te σ S H m A) (hd : isDs K A d) : EvQ K (fun a => .list (d a)) p te σ S H m := fun S1 H1 s g ps k z hm Q q =>
  h S1 H1 s g ps _ z hm _ fun a x vs S2 H2 s2 g2 p2 e m2 r hm2 => q a (.ref x) S2 H2 s2 g2 p2 (fun S3 H3 g3 => .lst (.of (g3.h _ _ m2 e)) (hd a vs S3 H3 (Mo.mo g3.s r) g3.i)) hm2
theorem e_eqQ [DecidableEq α] {n : Nat} {d : α → PyData} {m m' : (α → μ β) → μ β} (hd : EqD n d) (hn : n ≤ 64) (h : EvQ K d p ta σ S H m) (h' : EvQ K d p tb σ S H m') : Ev p (tOp (rEqD K) ta tb) σ S H (fun k => m fun a => m' fun b => k (decide (a = b))) rB := fun S1 H1 s g ps k z hm Q q =>
  h S1 H1 s g ps _ z hm _ fun a v S2 H2 s2 g2 p2 r hm2 => h' S2 H2 s2 (g.tr g2) p2 _ z hm2 _ fun b u S3 H3 s3 g3 p3 r3 hm3 =>
    ⟨d a, d b, r _ _ g3, r3 _ _ (Gm.rf g3.i), hd.sh hn a, hd.sh hn b, q _ _ S3 H3 s3 (g2.tr g3) p3 (by rw [hd.dec]; rfl) hm3⟩
theorem e_neQ [DecidableEq α] {n : Nat} {d : α → PyData} {m m' : (α → μ β) → μ β} (hd : EqD n d) (hn : n ≤ 64) (h : EvQ K d p ta σ S H m) (h' : EvQ K d p tb σ S H m') : Ev p (tOp (rNeD K) ta tb) σ S H (fun k => m fun a => m' fun b => k (!decide (a = b))) rB := fun S1 H1 s g ps k z hm Q q =>
  h S1 H1 s g ps _ z hm _ fun a v S2 H2 s2 g2 p2 r hm2 => h' S2 H2 s2 (g.tr g2) p2 _ z hm2 _ fun b u S3 H3 s3 g3 p3 r3 hm3 =>
    ⟨d a, d b, r _ _ g3, r3 _ _ (Gm.rf g3.i), hd.sh hn a, hd.sh hn b, q _ _ S3 H3 s3 (g2.tr g3) p3 (by rw [hd.dec]; rfl) hm3⟩
/-! ### sorted -/
def ins1 (x : Int) : List Int → List Int
  | [] => [x]
  | y :: r => if x ≤ y then x :: y :: r else y :: ins1 x r
def srt : List Int → List Int
  | [] => []
  | x :: r => ins1 x (srt r)
theorem ins1_perm (x : Int) : ∀ l, (ins1 x l).Perm (x :: l)
  | [] => .refl _
  | y :: r => by
    unfold ins1
    split
    · exact .refl _
    · exact ((ins1_perm x r).cons y).trans (.swap x y r)
theorem srt_perm : ∀ l, (srt l).Perm l
  | [] => .refl _
  | x :: r => (ins1_perm x (srt r)).trans ((srt_perm r).cons x)
theorem ins1_sorted (x : Int) : ∀ l, List.Pairwise (· ≤ ·) l → List.Pairwise (· ≤ ·) (ins1 x l)
  | [], _ => by simp [ins1]
  | y :: r, h => by
    unfold ins1
    obtain ⟨h1, h2⟩ := List.pairwise_cons.mp h
    split
    · rename_i hx
      refine List.pairwise_cons.mpr ⟨fun a ha => ?_, h⟩
      rcases List.mem_cons.mp ha with e | ha
      · omega
      · have := h1 a ha; omega
    · rename_i hx
      refine List.pairwise_cons.mpr ⟨fun a ha => ?_, ins1_sorted x r h2⟩
      rcases List.mem_cons.mp ((ins1_perm x r).mem_iff.mp ha) with e | ha
      · omega
      · exact h1 a ha
theorem srt_sorted : ∀ l, List.Pairwise (· ≤ ·) (srt l)
  | [] => .nil
  | x :: r => ins1_sorted x _ (srt_sorted r)
theorem sorted_one {a b : List Int} (h : a.Perm b) (ha : List.Pairwise (· ≤ ·) a) (hb : List.Pairwise (· ≤ ·) b) : a = b :=
  h.eq_of_pairwise (fun x y _ _ h1 h2 => Int.le_antisymm h1 h2) ha hb
theorem l_srt {m : (List Int → μ β) → μ β} (h : EvR p te σ S H m (aAll rI)) : EvL p (tCB (rSortedI K) (tCons te tNil)) σ S H (fun k => m fun xs => k (srt xs)) (aAll rI) := fun S1 H1 s g ps k z hm Q q =>
  h S1 H1 s g ps _ z hm _ fun xs x vs S2 H2 s2 g2 p2 e2 m2 r2 hm2 => ⟨x, xs, rfl, .of (by rw [e2, All.ints r2]), fun ns y h1 h2 hy => by
    have e : ns = srt xs := sorted_one (h1.trans (srt_perm xs).symm) h2 (srt_sorted xs)
    subst e
    exact q (srt xs) y _ S2 _ s2 (g2.tr (Gm.own g2.i hy)) (p2.go (Gm.own g2.i hy)) (back_none g2 hy) upd_same (g2.i.no hy) (new_nM p2 hy) (All.ofInts _) hm2⟩
/-- a list of ones own goes over to another name, and stays as it is from here on -/
theorem q_mv {i n j : Nat} {q : Addr} {vs : List V} {xs : List α} {R : Rp α} [Mo R] {L : List (Addr × HO)} {k : List α → μ β} (σ' : St) (hσ : σ.set n (some (.ref q)) = σ') (w : Wd p S0 H0 S H L) (ps : PotAt p s S H) (hj : L[j]? = some (q, .lst vs)) (e : σ[i]? = some (some (.ref q))) (ha : All R S xs vs)
    (hm : Mir.run (bnd xs k) s = some z) (nx : ∀ S1, Wd p S0 H0 S1 H (L.eraseIdx j) → PotAt p s S1 H → Ex S S1 → rL (aAll R) xs (.ref q) S1 → Mir.run (k xs) s = some z → tz D σ' H) : tSeq (tAsg (tVar i) (gName n)) tz D σ H :=
  ⟨.ref q, e, by
    have h := nx (upd S q (.lst vs)) (w.frz hj) (ps.frz (w.nmAt hj)) (ex_frz (w.at hj).2.1) ⟨q, vs, rfl, upd_same, ha.mo (ex_frz (w.at hj).2.1)⟩ hm
    rw [← hσ] at h
    exact h⟩
/-! ### a tuple of one kind taken apart -/
def two? : List α → Option (α × α)
  | [a, b] => some (a, b)
  | _ => none
theorem two_all {R : Rp α} {xs : List α} {vs : List V} {ab : α × α} (r : All R S xs vs) (e : two? xs = some ab) : aCons R (aOne R) ab vs S := by
  cases r with
  | nil => cases e
  | cons ra t =>
    cases t with
    | nil => cases e
    | cons rb t =>
      cases t with
      | nil =>
        cases e
        exact ⟨_, _, rfl, ra, _, rfl, rb⟩
      | cons _ _ => cases e
theorem e_two {R : Rp α} {m : (List α → μ β) → μ β} (h : Ev p te σ S H m (rT K (aAll R))) : Ev p te σ S H (fun k => m fun xs => Mir.lft (two? xs) >>= k) (rT K (aCons R (aOne R))) := fun S1 H1 s g ps k z hm Q q =>
  h S1 H1 s g ps _ z hm _ fun xs v S2 H2 s2 g2 p2 r hm2 => by
    obtain ⟨ab, e, hm3⟩ := run_of_lft hm2
    obtain ⟨x, vs, e2, h2, r2⟩ := r
    exact q ab v S2 H2 s2 g2 p2 ⟨x, vs, e2, h2, two_all r2 e⟩ hm3
end
section
variable {X : Cx}
theorem k_srt (K : PySem.W.Frag) (h : X.K = K := by rfl) : CallR X (.builtin "sorted") (rSortedI K) := h ▸ cr_sortedI
end
end Wk
set_option Elab.async false
set_option maxRecDepth 100000
set_option maxHeartbeats 4000000
set_option linter.all false
/-! W10: enumerate of tuples, zip of lists and tuples -/
namespace Wk
open PySem L2
open PyProof.Rows hiding St
set_option maxHeartbeats 1000000 in
theorem meets_enum1 {v : Value} {o : Obj} {H : Heap → Prop} (B : Begins v o H) :
    Meets (Builtin.«enumerate.__new__» ⟨[.type "enumerate", v], []⟩) (fun _ R s => H s.heap ∧
      R (.ok (.ret (.ref (s.heap.push o).objs.size))) { s with heap := (s.heap.push o).push { cls := .type "enumerate", data := .fields #[.none, .bool false, .ref s.heap.objs.size, rawInt 0, .none, .none] } }) :=
  .of_wp fun prog w A R s h => by
    obtain ⟨hp, g, d, tk, os⟩ := s; obtain ⟨h1, h⟩ := h
    have hsub := sub_enumerate
    have q1 : ∀ {A' : Around} {E : Value → Shared → Prop} {Q : Value → Shared → Prop}, Q (.ref hp.objs.size) ⟨hp.push o, g, d, tk, os⟩ → wpAny (model prog w) A' (pyIter v) Q E ⟨hp, g, d, tk, os⟩ :=
      fun q => B.iter prog w _ _ ⟨hp, g, d, tk, os⟩ _ h1 q
    wp_walk using q1
    refine wpAny_stack_any fun st => wpAny_pure ?_
    split
    · rename_i c _ _ _ _ _
      cases (c == Value.type "enumerate")
      · wp_walk using q1
        exact ⟨_, rfl, h⟩
      · wp_walk using q1
        exact ⟨_, rfl, h⟩
    · wp_walk using q1
      exact ⟨_, rfl, h⟩
section
variable {prog : Program} {w : World} {A : Around} {E : Value → Shared → Prop} {s : Shared}
theorem enum1_begins {v : Value} {o : Obj} {H : Heap → Prop} {Q : Value → Shared → Prop} (B : Begins v o H) (h1 : H s.heap)
    (h : ∀ h', IsEnum h' (s.heap.objs.size + 1) s.heap.objs.size 0 .none → h'.get? s.heap.objs.size = some o → h'.objs.size = s.heap.objs.size + 2 →
      (∀ b o, s.heap.get? b = some o → h'.get? b = some o) → Q (.ref (s.heap.objs.size + 1)) { s with heap := h' }) :
    wpAny (model prog w) A (call (.type "enumerate") [v]) Q E s := by
  refine callType_new F.called_enumerate (by decide) (F.typeCall_enumerate_1 _) (F.newCall_enumerate_1 _) (fun obj => F.args_object_init_2 obj _) F.entry_enumerate_new
    (meets_enum1 B) ⟨h1, ?_⟩
  have hz : (s.heap.push o).objs.size = s.heap.objs.size + 1 := Heap.size_push ..
  show _ ∧ _
  rw [hz]
  have he : IsEnum ((s.heap.push o).push { cls := .type "enumerate", data := .fields #[.none, .bool false, .ref s.heap.objs.size, rawInt 0, .none, .none] }) (s.heap.objs.size + 1) s.heap.objs.size 0 .none := by
    have := Heap.get?_push_size (s.heap.push o) (o := { cls := .type "enumerate", data := .fields #[.none, .bool false, .ref s.heap.objs.size, rawInt 0, .none, .none] }) rfl
    rw [hz] at this; exact this
  refine ⟨⟨_, he, rfl⟩, h _ he (Heap.get?_push_of_some _ (Heap.get?_push_size _ B.free)) (by rw [Heap.size_push, hz]) fun b o x => Heap.get?_push_of_some _ (Heap.get?_push_of_some _ x)⟩
end
def IteT (K : PySem.W.Frag) (a : Addr) : It :=
  ⟨fun i H => ∃ (xs : List V) (x : V), SqT K H a xs ∧ xs[i]? = some x, fun i H v H' => ∃ T x, v = .ref T ∧ H T = none ∧ H' = upd H T (.tup [.int (i : Nat), x]) ∧ ∀ xs, SqT K H a xs → xs[i]? = some x, fun i H => ∃ xs : List V, SqT K H a xs ∧ xs.length ≤ i⟩
theorem turn_enumT {P : Program} {w : World} {K : PySem.W.Frag} {elts : List Expr} {kk : Nat} {tpos : Pos} (a e it : Addr) :
    Turn P w K (.Tuple elts kk tpos) (IteT K a) [e, it] e (fun i h => (∃ old, IsEnum h e it ((i : Nat) : Int) old) ∧ h.IsTupleIter it a i ∧ e ≠ it) where
  mem := by simp
  obj := fun i h st b hb => by
    obtain ⟨⟨old, he⟩, ⟨o, ho, hc, hd⟩, _⟩ := st
    have e' : b = e ∨ b = it := by simpa using hb
    rcases e' with z | z
    · rw [z]; exact ⟨_, he, fun v q => nomatch q⟩
    · rw [z]; exact ⟨o, ho, fun v q => by rw [hd] at q; cases q⟩
  keep := fun i h h' st k => let ⟨⟨old, he⟩, hi, hne⟩ := st; ⟨⟨old, k e (by simp) _ he⟩, hi.at fun o q => k it (by simp) o q, hne⟩
  item := by
    intro X hP hw hK hc i pins s σ H E I hf st hg
    subst hP hw hK
    obtain ⟨⟨old, he⟩, hit, hne⟩ := st
    obtain ⟨xs, x, hq, hx⟩ := hg
    obtain ⟨its, rv, p, hz⟩ := I.tuple hq
    obtain ⟨u, hu, ru⟩ := rv.get hx
    have hel : e < s.heap.objs.size := Heap.lt_size he
    have hil : it < s.heap.objs.size := by obtain ⟨_, q, _⟩ := hit; exact Heap.lt_size q
    have hp : s.heap.IsTuple a its.toArray := p
    have hea : e ≠ a := by
      rintro rfl
      obtain ⟨o, ho, hc', _⟩ := hp
      have he' := he
      unfold IsEnum at he'
      rw [ho] at he'
      cases he'
      exact absurd (Value.type.inj hc') (by decide)
    have hia : a ≠ it := by
      rintro rfl
      obtain ⟨o, ho, hc', _⟩ := hp
      obtain ⟨o2, ho2, hc2, _⟩ := hit
      rw [ho] at ho2
      cases ho2
      rw [hc'] at hc2
      exact absurd (Value.type.inj hc2) (by decide)
    have hil2 : i < its.toArray.size := by
      have := (List.getElem?_eq_some_iff.mp hu).1
      simpa using this
    refine wpAny_pyNext_enum_itemC (Draws.tuple (A := X.A.in1) (show X.A.in1.handled = none from I.ok.hd hc) it a hia its.toArray) he ⟨hit, hp⟩ hil2 hne (by simp [hne, hea]) fun x' h' tk hP ho hst' hT hsz hk => ?_
    have hxe : x' = u := by
      have hu' : its.toArray[i]? = some u := by simpa using hu
      rw [hu'] at hP
      exact (Option.some.inj hP).symm
    subst hxe
    refine ⟨_, rfl, wpAny_letOwnedTupleGo_enum (s := { s with heap := h', toks := tk + 1 }) ho fun h'' he' sb => ?_⟩
    have hT2 : h''.get? s.heap.objs.size = some { cls := .type "tuple", data := .seq #[.int i tk, x'] } := (sb.2 _ (Nat.ne_of_gt hel)).trans hT
    have new : ObjOk X.prog X.w (upd H s.heap.objs.size (.tup [.int (i : Nat), x])) h'' s.heap.objs.size (.tup [.int (i : Nat), x]) :=
      ⟨by show 2 ≤ sizeLine; decide, [.int i tk, x'], .cons ⟨_, rfl⟩ (.cons ru .nil), ⟨_, hT2, rfl, _, rfl⟩⟩
    have I1 : Inv X pins σ (upd H s.heap.objs.size (.tup [.int (i : Nat), x])) { s with heap := h'', toks := tk + 1 } :=
      I.turnedNew (ch := [e, it]) (fun b ob hb q => (sb.2 b (fun z => hb (by simp [z]))).trans (hk b ob (fun z => hb (by simp [z])) (fun z => hb (by simp [z])) q)) hf (Nat.le_refl _) new
    refine ⟨.ref s.heap.objs.size, _, I1, rfl, ⟨_, x, rfl, I.hok.fresh (Nat.le_refl _), rfl, fun ys hy => by rw [I.tuple_inj hy hq]; exact hx⟩, ⟨⟨x', ?_⟩, hst'.1.at fun o q => (sb.2 it (Ne.symm hne)).trans q, hne⟩, fun b hb => ?_⟩
    · have e1 : ((i + 1 : Nat) : Int) = (i : Int) + 1 := by omega
      rw [e1]; exact he'
    · have hb' : b < s.heap.objs.size := by
        have e' : b = e ∨ b = it := by simpa using hb
        rcases e' with z | z
        · rw [z]; exact hel
        · rw [z]; exact hil
      rw [upd_ne (Nat.ne_of_lt hb')]
      exact (hf b hb).1
  done := by
    intro X hP hw hK hc i pins s σ H E I hf st hg
    subst hP hw hK
    obtain ⟨⟨old, he⟩, hit, hne⟩ := st
    obtain ⟨xs, hq, hx⟩ := hg
    obtain ⟨its, rv, p, hz⟩ := I.tuple hq
    obtain ⟨f0, f1, f2, f3, f4, f5⟩ := hf it (by simp)
    have hl := rv.length
    have hp : s.heap.IsTuple a its.toArray := p
    have hia : a ≠ it := by
      rintro rfl
      obtain ⟨o, ho, hc', _⟩ := hp
      obtain ⟨o2, ho2, hc2, _⟩ := hit
      rw [ho] at ho2
      cases ho2
      rw [hc'] at hc2
      exact absurd (Value.type.inj hc2) (by decide)
    have D : Draws X.prog X.w X.A.in1 it [it, a] i (fun _ _ => True) (fun j h => j = i ∧ h.IsTupleIter it a i ∧ h.IsTuple a its.toArray) :=
      { live := fun _ _ st => let ⟨o, ho, _⟩ := st.2.1; ⟨o, ho⟩
        frame := fun _ _ _ st hk => ⟨st.1, st.2.1.at fun o e => hk it (by simp) o e, st.2.2.at fun o e => hk a (by simp) o e⟩
        item := fun j s Q E hi st hQ => absurd st.1 (Nat.ne_of_lt hi)
        done := fun s Q E st hE => wpAny_nextOf_tuple_end (show X.A.in1.handled = none from I.ok.hd hc) st.2.1 st.2.2 (by simp; omega) hE }
    exact wpAny_pyNext_enum_endD D he ⟨rfl, hit, hp⟩ fun h' eb => ⟨rfl, I.turned (t' := s.toks) (fun b o hb q => eb b o hb q) f0 f1 f3 f4 f5⟩
  self := fun A i s Q E st h => let ⟨⟨_, he⟩, _⟩ := st; wpAny_pyIter_enum he h
def iEnumT (K : PySem.W.Frag) (ta : TA) : TI := fun σ H R => ta σ H fun vs H1 => ∃ a xs, vs = [.ref a] ∧ SqT K H1 a xs ∧ R (IteT K a) H1
theorem pi_enumT {X : Cx} {e : Expr} {ta : TA} {p pos tpos : Pos} {elts : List Expr} {kk : Nat} (hg : Gl X "enumerate") (hm : X.mg "enumerate" = none) (ha : PA X [e] ta) (hs : starEach [e] X.env = [(false, eval e X.env)] := by rfl) :
    PI X (.Tuple elts kk tpos) (.Call (.Name "enumerate" p) [e] [] pos) (iEnumT X.K ta) := by
  refine ⟨fun pins s σ H R I h => ?_⟩
  refine Call_ (ld_blt I hg hm boot_enumerate (PyProof.Rows.callWith_type1 (thn (ha.run pos pins s σ H _ I h) fun us s1 ⟨vs, H1, I1, r1, q1⟩ => ?_) hs rfl))
  obtain ⟨a, xs, ex, hq, q⟩ := q1
  subst ex
  cases r1 with
  | cons r rr =>
    cases rr
    cases r
    obtain ⟨its, rv, p', hz⟩ := I1.tuple hq
    have hp : s1.heap.IsTuple a its.toArray := p'
    refine enum1_begins (begins_tuple a its.toArray) hp fun h' he hit hsz hk => wpAny_pyIter_enum he ?_
    have I2 : Inv X pins σ H1 { s1 with heap := h' } := I1.kept (t' := s1.toks) hk
    refine ⟨s1.heap.objs.size + 1, [s1.heap.objs.size + 1, s1.heap.objs.size], _, _, H1, rfl, I2, turn_enumT a (s1.heap.objs.size + 1) s1.heap.objs.size, ⟨⟨.none, he⟩, ⟨_, hit, rfl, rfl⟩, Nat.succ_ne_self _⟩, fun b hb => ?_, q⟩
    have e' : b = s1.heap.objs.size + 1 ∨ b = s1.heap.objs.size := by simpa using hb
    have hle : s1.heap.objs.size ≤ b := by
      rcases e' with z | z
      · rw [z]; exact Nat.le_add_right _ _
      · rw [z]; exact Nat.le_refl _
    exact I1.fpOk hle (I1.hok.fresh hle)
end Wk
set_option Elab.async false
set_option maxRecDepth 100000
set_option maxHeartbeats 4000000
set_option linter.all false
/-! W11: chains, isinstance, tuples put together, places of items, values of two kinds -/
namespace Wk
open PySem L2
open PyProof.Rows hiding St
section
variable {μ : Type → Type} {τ : Type} [Mir μ τ] {α β γ δ ρ : Type} {p : Pt τ} {σ : St} {S H S0 H0 : Hp} {te ta tb tc : TE} {tt : TT} {K : PySem.W.Frag}
theorem i_enumT {m : (List α → μ β) → μ β} {R : Rp α} [Mo R] (h : Ev p te σ S H m (rT K (aAll R))) : EvI p (iEnumT K (tCons te tNil)) σ S H (fun k => m fun xs => k (enum xs)) (rT K (aCons rI (aOne R))) [] := fun S1 H1 s g ps k z hm Q q =>
  h S1 H1 s g ps _ z hm _ fun xs v S2 H2 s2 g2 p2 ⟨x, vs, e, h1, h2⟩ hm2 => ⟨x, vs, by rw [e], sqT_ex g2.i h1, q _ _ S2 H2 s2 g2 p2 (fun S3 H3 e1 e2 _ => by
    have a2 : All R S2 xs vs := h2
    have hq : SqT K H3 x vs := sqT_ex (e1.tr e2) h1
    have ln : (enum xs).length = vs.length := by unfold enum; rw [List.length_map, List.length_zipIdx, a2.len]
    refine ⟨fun i hi => ⟨vs, vs[i]'(by rw [← ln]; exact hi), hq, List.getElem?_eq_getElem _⟩, ⟨vs, hq, by rw [ln]; exact Nat.le_refl _⟩, fun i y v H4 hx yl => ?_⟩
    obtain ⟨tp, u, e3, n, e4, yl⟩ := yl
    subst e3
    subst e4
    have hu := yl vs hq
    have hx' : xs.zipIdx[i]? = some (y.2, i) ∧ y.1 = (i : Int) := by
      unfold enum at hx
      rw [List.getElem?_map] at hx
      cases q2 : xs.zipIdx[i]? with
      | none => rw [q2] at hx; cases hx
      | some c =>
        rw [q2] at hx
        have e5 := Option.some.inj hx
        rw [List.getElem?_zipIdx] at q2
        cases q3 : xs[i]? with
        | none => rw [q3] at q2; cases q2
        | some d =>
          rw [q3] at q2
          have e6 := Option.some.inj q2
          rw [← e5, ← e6]
          simp
    rw [List.getElem?_zipIdx] at hx'
    obtain ⟨hx1, hx2⟩ := hx'
    have hx3 : xs[i]? = some y.2 := by
      cases q3 : xs[i]? with
      | none => rw [q3] at hx1; cases hx1
      | some d => rw [q3] at hx1; have := Option.some.inj hx1; simp at this; rw [this]
    obtain ⟨u', hu', ru⟩ := a2.get hx3
    rw [hu] at hu'
    cases hu'
    refine ⟨upd S3 tp (.tup [.int (i : Nat), u]), Gm.new e2 n, tp, _, rfl, .of upd_same, _, _, rfl, ?_, _, rfl, Mo.mo (e1.tr (Gm.new (M := []) e2 n).s) ru⟩
    show V.int _ = V.int _
    rw [hx2]) hm2⟩
theorem zip_get {xs : List α} {ys : List γ} {i : Nat} {y : α × γ} (h : (xs.zip ys)[i]? = some y) : xs[i]? = some y.1 ∧ ys[i]? = some y.2 := by
  rw [List.getElem?_zip_eq_some] at h
  exact h
/-- zip of two lists, of two tuples -/
theorem i_zipL {m : (List α → μ β) → μ β} {m' : (List γ → μ β) → μ β} {R : Rp α} {R' : Rp γ} [Mo R] [Mo R'] (h : Ev p ta σ S H m (rL (aAll R))) (h' : Ev p tb σ S H m' (rL (aAll R'))) :
    EvI p (RZ.iZipA K (tCons ta (tCons tb tNil))) σ S H (fun k => m fun xs => m' fun ys => k (xs.zip ys)) (rT K (aCons R (aOne R'))) [] := fun S1 H1 s g ps k z hm Q q =>
  h S1 H1 s g ps _ z hm _ fun xs v S2 H2 s2 g2 p2 ⟨x, vs, e, h1, h2⟩ hm2 => h' S2 H2 s2 (g.tr g2) p2 _ z hm2 _ fun ys w S3 H3 s3 g3 p3 ⟨y, ws, e', h1', h2'⟩ hm3 => by
    subst e e'
    refine ⟨x, y, vs, ws, rfl, .inl ⟨.of (g3.i _ _ (g3.s _ _ h1)), .of (g3.i _ _ h1'), q _ _ S3 H3 s3 (g2.tr g3) p3 (fun S4 H4 e1 e2 _ => ?_) hm3⟩⟩
    have a1 : All R S2 xs vs := h2
    have a2 : All R' S3 ys ws := h2'
    have q1 : SqL K H4 x vs := .of (e2 _ _ (e1 _ _ (g3.s _ _ h1)))
    have q2 : SqL K H4 y ws := .of (e2 _ _ (e1 _ _ h1'))
    have ln : (xs.zip ys).length = min vs.length ws.length := by rw [List.length_zip, a1.len, a2.len]
    refine ⟨fun i hi => ⟨vs, ws, vs[i]'(by omega), ws[i]'(by omega), q1, q2, List.getElem?_eq_getElem _, List.getElem?_eq_getElem _⟩, ⟨vs, ws, q1, q2, by rw [ln]; omega⟩, fun i u v H5 hx yl => ?_⟩
    obtain ⟨tp, b1, b2, e3, n, e4, y1, y2⟩ := yl
    subst e3 e4
    obtain ⟨c1, c2⟩ := zip_get hx
    obtain ⟨d1, hd1, rd1⟩ := a1.get c1
    obtain ⟨d2, hd2, rd2⟩ := a2.get c2
    rw [y1 vs q1] at hd1
    rw [y2 ws q2] at hd2
    cases hd1
    cases hd2
    have gn := Gm.new (M := []) (o := .tup [b1, b2]) e2 n
    exact ⟨upd S4 tp (.tup [b1, b2]), gn, tp, _, rfl, .of upd_same, _, _, rfl, Mo.mo ((g3.s.tr e1).tr gn.s) rd1, _, rfl, Mo.mo (e1.tr gn.s) rd2⟩
theorem i_zipT {m : (List α → μ β) → μ β} {m' : (List γ → μ β) → μ β} {R : Rp α} {R' : Rp γ} [Mo R] [Mo R'] (h : Ev p ta σ S H m (rT K (aAll R))) (h' : Ev p tb σ S H m' (rT K (aAll R'))) :
    EvI p (RZ.iZipA K (tCons ta (tCons tb tNil))) σ S H (fun k => m fun xs => m' fun ys => k (xs.zip ys)) (rT K (aCons R (aOne R'))) [] := fun S1 H1 s g ps k z hm Q q =>
  h S1 H1 s g ps _ z hm _ fun xs v S2 H2 s2 g2 p2 ⟨x, vs, e, h1, h2⟩ hm2 => h' S2 H2 s2 (g.tr g2) p2 _ z hm2 _ fun ys w S3 H3 s3 g3 p3 ⟨y, ws, e', h1', h2'⟩ hm3 => by
    subst e e'
    refine ⟨x, y, vs, ws, rfl, .inr ⟨sqT_ex (g3.s.tr g3.i) h1, sqT_ex g3.i h1', q _ _ S3 H3 s3 (g2.tr g3) p3 (fun S4 H4 e1 e2 _ => ?_) hm3⟩⟩
    have a1 : All R S2 xs vs := h2
    have a2 : All R' S3 ys ws := h2'
    have q1 : SqT K H4 x vs := sqT_ex ((g3.s.tr e1).tr e2) h1
    have q2 : SqT K H4 y ws := sqT_ex (e1.tr e2) h1'
    have ln : (xs.zip ys).length = min vs.length ws.length := by rw [List.length_zip, a1.len, a2.len]
    refine ⟨fun i hi => ⟨vs, ws, vs[i]'(by omega), ws[i]'(by omega), q1, q2, List.getElem?_eq_getElem _, List.getElem?_eq_getElem _⟩, ⟨vs, ws, q1, q2, by rw [ln]; omega⟩, fun i u v H5 hx yl => ?_⟩
    obtain ⟨tp, b1, b2, e3, n, e4, y1, y2⟩ := yl
    subst e3 e4
    obtain ⟨c1, c2⟩ := zip_get hx
    obtain ⟨d1, hd1, rd1⟩ := a1.get c1
    obtain ⟨d2, hd2, rd2⟩ := a2.get c2
    rw [y1 vs q1] at hd1
    rw [y2 ws q2] at hd2
    cases hd1
    cases hd2
    have gn := Gm.new (M := []) (o := .tup [b1, b2]) e2 n
    exact ⟨upd S4 tp (.tup [b1, b2]), gn, tp, _, rfl, .of upd_same, _, _, rfl, Mo.mo ((g3.s.tr e1).tr gn.s) rd1, _, rfl, Mo.mo (e1.tr gn.s) rd2⟩
/-! chains of two comparisons of ints -/
def CmpI (r : R2) (c : Int → Int → Bool) : Prop := ∀ i j H (Q : VK), Q (.bl (c i j)) H → r (.int i) (.int j) H Q
theorem ci_lt : CmpI (rI0 fun i j => .bl (decide (i < j))) fun i j => decide (i < j) := fun i j _ _ q => ⟨i, j, rfl, rfl, q⟩
theorem ci_le : CmpI (rI0 fun i j => .bl (decide (i ≤ j))) fun i j => decide (i ≤ j) := fun i j _ _ q => ⟨i, j, rfl, rfl, q⟩
theorem ci_gt : CmpI (rI0 fun i j => .bl (decide (j < i))) fun i j => decide (j < i) := fun i j _ _ q => ⟨i, j, rfl, rfl, q⟩
theorem ci_ge : CmpI (rI0 fun i j => .bl (decide (j ≤ i))) fun i j => decide (j ≤ i) := fun i j _ _ q => ⟨i, j, rfl, rfl, q⟩
theorem e_chain {r r' : R2} {c c' : Int → Int → Bool} {ma mb : (Int → μ β) → μ β} {mc : (Int → μ Bool) → μ Bool} (hr : CmpI r c) (hr' : CmpI r' c') (ha : Ev p ta σ S H ma rI) (hb : Ev p tb σ S H mb rI) (hc : Ev p tc σ S H mc rI) :
    Ev p (tChain r r' ta tb tc) σ S H (fun k => ma fun i => mb fun j => (if c i j = true then mc fun l => pure (c' j l) else pure false) >>= k) rB := fun S1 H1 s g ps k z hm Q q =>
  ha S1 H1 s g ps _ z hm _ fun i v S2 H2 s2 g2 p2 r2 hm2 => hb S2 H2 s2 (g.tr g2) p2 _ z hm2 _ fun j u S3 H3 s3 g3 p3 r3 hm3 => by
    cases (show v = .int i from r2)
    cases (show u = .int j from r3)
    obtain ⟨b, s4, e1, e2⟩ := run_of_bind hm3
    refine hr i j _ _ ⟨_, rfl, ?_⟩
    cases e : c i j with
    | true =>
      rw [if_pos rfl]
      rw [if_pos e] at e1
      refine hc S3 H3 s3 ((g.tr g2).tr g3) p3 _ (b, s4) e1 _ fun l w S4 H4 s5 g4 p4 r4 hm4 => ?_
      cases (show w = .int l from r4)
      cases run_of_pure hm4
      exact hr' j l _ _ (q _ _ S4 H4 _ ((g2.tr g3).tr g4) p4 rfl e2)
    | false =>
      rw [if_neg (by decide)]
      rw [if_neg (by rw [e]; decide)] at e1
      cases run_of_pure e1
      exact q _ _ S3 H3 _ (g2.tr g3) p3 rfl e2
theorem e_chainT {r r' : R2} {c c' : Int → Int → Bool} {l : Int} {ma mb : (Int → μ β) → μ β} (hr : CmpI r c) (hr' : CmpI r' c') (ha : Ev p ta σ S H ma rI) (hb : Ev p tb σ S H mb rI) (hc : Ev (μ := μ) (β := β) p tc σ S H (fun k => k l) rI) :
    Ev p (tChain r r' ta tb tc) σ S H (fun k => ma fun i => mb fun j => k (c i j && c' j l)) rB := fun S1 H1 s g ps k z hm Q q =>
  ha S1 H1 s g ps _ z hm _ fun i v S2 H2 s2 g2 p2 r2 hm2 => hb S2 H2 s2 (g.tr g2) p2 _ z hm2 _ fun j u S3 H3 s3 g3 p3 r3 hm3 => by
    cases (show v = .int i from r2)
    cases (show u = .int j from r3)
    refine hr i j _ _ ⟨_, rfl, ?_⟩
    cases e : c i j with
    | true =>
      rw [if_pos rfl]
      rw [e, Bool.true_and] at hm3
      refine hc S3 H3 s3 ((g.tr g2).tr g3) p3 (fun l => k (c' j l)) z hm3 _ fun l w S4 H4 s5 g4 p4 r4 hm4 => ?_
      cases (show w = .int l from r4)
      exact hr' j l _ _ (q _ _ S4 H4 _ ((g2.tr g3).tr g4) p4 rfl hm4)
    | false =>
      rw [if_neg (by decide)]
      rw [e, Bool.false_and] at hm3
      exact q _ _ S3 H3 _ (g2.tr g3) p3 rfl hm3
/-! isinstance -/
def TyRp (K : PySem.W.Frag) (R : Rp α) (T : String) : Prop := ∀ a v S H, Ex S H → R a v S → TyX K H v (.type T)
theorem ty_I : TyRp K rI "int" := fun a v _ _ _ h => by cases (show v = .int a from h); exact .base (.int _)
theorem ty_B : TyRp K rB "bool" := fun a v _ _ _ h => by cases (show v = .bl a from h); exact .base (.bl _)
theorem ty_S : TyRp K rS "str" := fun a v _ _ _ h => by cases (show v = .str a from h); exact .base (.str _)
theorem ty_N : TyRp K rN "NoneType" := fun a v _ _ _ h => by cases (show v = .non from h); exact .base .non
theorem ty_T {A : Rq α} : TyRp K (rT K A) "tuple" := fun a v S H e ⟨x, vs, e1, h1, _⟩ => by
  subst e1
  rcases sqT_ex e h1 with (h | ⟨o, h⟩) | ⟨o, its, n, h2, h3, _⟩
  · exact .base (.tup h)
  · exact .fTuple h
  · exact .kTuple h2 h3
theorem ty_L {A : Rq α} : TyRp K (rL A) "list" := fun a v S H e ⟨x, vs, e1, h1, _⟩ => by
  subst e1
  exact .base (.lst (e _ _ h1))
theorem c_isi {R : Rp α} {m : (α → μ β) → μ β} {T U : String} {b : Bool} (h : Ev p te σ S H m R) (ht : TyRp K R T) (hk : PySem.W.kitOne K (.type T) (.type U) = some b) :
    Ev p (tCB (rIsi K) (tCons te (tCons (tC (.ty U)) tNil))) σ S H (fun k => m fun _ => k b) rB := fun S1 H1 s g ps k z hm Q q =>
  h S1 H1 s g ps _ z hm _ fun a v S2 H2 s2 g2 p2 r hm2 => ⟨v, .ty U, .type T, .type U, b, rfl, .ty U, ht a v S2 H2 g2.i r, hk, q _ _ S2 H2 s2 g2 p2 rfl hm2⟩
/-! tuples -/
/-- a tuple of a known make as one of items -/
theorem Ev.tl2 {R : Rp α} {m : (α × α → μ β) → μ β} (h : Ev p te σ S H m (rT K (aCons R (aOne R)))) : Ev p te σ S H (fun k => m fun a => k [a.1, a.2]) (rT K (aAll R)) :=
  h.map (fun a => [a.1, a.2]) fun a v S ⟨x, vs, e, h1, v1, r, e1, h2, v2, e2, h3⟩ => ⟨x, vs, e, h1, by rw [e1, e2]; exact .cons h2 (.cons h3 .nil)⟩
theorem Ev.tl3 {R : Rp α} {m : (α × α × α → μ β) → μ β} (h : Ev p te σ S H m (rT K (aCons R (aCons R (aOne R))))) : Ev p te σ S H (fun k => m fun a => k [a.1, a.2.1, a.2.2]) (rT K (aAll R)) :=
  h.map (fun a => [a.1, a.2.1, a.2.2]) fun a v S ⟨x, vs, e, h1, v1, r, e1, h2, v2, r2, e2, h3, v3, e3, h4⟩ => ⟨x, vs, e, h1, by rw [e1, e2, e3]; exact .cons h2 (.cons h3 (.cons h4 .nil))⟩
theorem Ev.tl1 {R : Rp α} {m : (α → μ β) → μ β} (h : Ev p te σ S H m (rT K (aOne R))) : Ev p te σ S H (fun k => m fun a => k [a]) (rT K (aAll R)) :=
  h.map (fun a => [a]) fun a v S ⟨x, vs, e, h1, v1, e1, h2⟩ => ⟨x, vs, e, h1, by rw [e1]; exact .cons h2 .nil⟩
theorem Ev.tl0 {R : Rp α} {m : (Unit → μ β) → μ β} (h : Ev p te σ S H m (rT K aNil)) : Ev p te σ S H (fun k => m fun _ => k []) (rT K (aAll R)) :=
  h.map (fun _ => []) fun a v S ⟨x, vs, e, h1, h2⟩ => ⟨x, vs, e, h1, by rw [show vs = [] from h2]; exact .nil⟩
/-- how many items there are, just -/
def ArL (n : Nat) (A : Rq α) : Prop := ∀ a vs S, A a vs S → vs.length = n
theorem arL_nil : ArL 0 aNil := fun _ vs _ h => by rw [show vs = [] from h]; rfl
theorem arL_one {R : Rp α} : ArL 1 (aOne R) := fun _ vs _ ⟨v, e, _⟩ => by rw [e]; rfl
theorem arL_cons {n : Nat} {R : Rp α} {A : Rq γ} (h : ArL n A) : ArL (n + 1) (aCons R A) := fun _ vs _ ⟨v, r, e, _, h2⟩ => by
  rw [e]
  exact congrArg Nat.succ (h _ _ _ h2)
theorem c_lenN {n : Nat} {A : Rq α} {m : (α → μ β) → μ β} (h : Ev p te σ S H m (rT K A)) (hn : ArL n A) : Ev p (tCB (fun xs H Q => ∃ p ys, xs = [.ref p] ∧ (SqL K H p ys ∨ SqT K H p ys) ∧ Q (.int ys.length) H) (tCons te tNil)) σ S H (fun k => m fun _ => k (n : Int)) rI := fun S1 H1 s g ps k z hm Q q =>
  h S1 H1 s g ps _ z hm _ fun xs v S2 H2 s2 g2 p2 ⟨x, vs, e2, h2, r2⟩ hm2 => ⟨x, vs, by rw [e2], .inr (sqT_ex g2.i h2), q _ _ S2 H2 s2 g2 p2 (by show V.int _ = V.int _; rw [hn _ _ _ r2]) hm2⟩
/-- t + u -/
theorem e_catT {A : Rq α} {B : Rq γ} {C : Rq δ} [Mo A] [Mo C] {ma : (α → μ β) → μ β} {mb : (γ → μ β) → μ β} (f : α → γ → δ) (n : Nat) (ha : Ev p ta σ S H ma (rT K A)) (hb : Ev p tb σ S H mb (rT K B))
    (hf : ∀ a b vs ws S, A a vs S → B b ws S → C (f a b) (vs ++ ws) S ∧ vs.length + ws.length ≤ n) (hn : n ≤ sizeLine) :
    Ev p (tOp (rCatA K) ta tb) σ S H (fun k => ma fun a => mb fun b => k (f a b)) (rT K C) := fun S1 H1 s g ps k z hm Q q =>
  ha S1 H1 s g ps _ z hm _ fun a v S2 H2 s2 g2 p2 ⟨x, vs, e, h1, h2⟩ hm2 => hb S2 H2 s2 (g.tr g2) p2 _ z hm2 _ fun b w S3 H3 s3 g3 p3 ⟨y, ws, e', h1', h2'⟩ hm3 => by
    subst e e'
    obtain ⟨hc, hl⟩ := hf a b vs ws S3 (Mo.mo g3.s h2) h2'
    refine ⟨x, y, vs, ws, rfl, rfl, sqT_ex (g3.s.tr g3.i) h1, sqT_ex g3.i h1', Nat.le_trans hl hn, fun e => ?_, fun _ e => ?_, fun _ _ pp hp => ?_⟩
    · exact q _ _ S3 H3 s3 (g2.tr g3) p3 ⟨y, ws, rfl, h1', by rw [e, List.nil_append] at hc; exact hc⟩ hm3
    · exact q _ _ S3 H3 s3 (g2.tr g3) p3 ⟨x, vs, rfl, sqT_ex g3.s h1, by rw [e, List.append_nil] at hc; exact hc⟩ hm3
    · have g4 : Gm p.M S3 H3 (upd S3 pp (.tup (vs ++ ws))) (upd H3 pp (.tup (vs ++ ws))) := Gm.new g3.i hp
      exact q _ _ _ _ s3 ((g2.tr g3).tr g4) (p3.go (Gm.new g3.i hp)) ⟨pp, vs ++ ws, rfl, .of upd_same, Mo.mo g4.s hc⟩ hm3
theorem e_catTL {R : Rp α} [Mo R] {ma mb : (List α → μ β) → μ β} (ha : Ev p ta σ S H ma (rT K (aAll R))) (hb : Ev p tb σ S H mb (rT K (aAll R))) :
    Ev p (tOp (rCatA K) ta tb) σ S H (fun k => ma fun a => mb fun b => Mir.lft (grd (a.length + b.length ≤ 16000000)) >>= fun _ => k (a ++ b)) (rT K (aAll R)) := fun S1 H1 s g ps k z hm Q q =>
  ha S1 H1 s g ps _ z hm _ fun a v S2 H2 s2 g2 p2 ⟨x, vs, e, h1, h2⟩ hm2 => hb S2 H2 s2 (g.tr g2) p2 _ z hm2 _ fun b w S3 H3 s3 g3 p3 ⟨y, ws, e', h1', h2'⟩ hm3 => by
    subst e e'
    obtain ⟨_, eg, hm4⟩ := run_of_lft hm3
    have hg := grd_of eg
    have a1 : All R S2 a vs := h2
    have a2 : All R S3 b ws := h2'
    have hc : All R S3 (a ++ b) (vs ++ ws) := (a1.mo g3.s).app a2
    refine ⟨x, y, vs, ws, rfl, rfl, sqT_ex (g3.s.tr g3.i) h1, sqT_ex g3.i h1', by rw [← a1.len, ← a2.len, sizeLine_eq]; omega, fun e => ?_, fun _ e => ?_, fun _ _ pp hp => ?_⟩
    · exact q _ _ S3 H3 s3 (g2.tr g3) p3 ⟨y, ws, rfl, h1', by rw [e, List.nil_append] at hc; exact hc⟩ hm4
    · exact q _ _ S3 H3 s3 (g2.tr g3) p3 ⟨x, vs, rfl, sqT_ex g3.s h1, by rw [e, List.append_nil] at hc; exact hc⟩ hm4
    · have g4 : Gm p.M S3 H3 (upd S3 pp (.tup (vs ++ ws))) (upd H3 pp (.tup (vs ++ ws))) := Gm.new g3.i hp
      exact q _ _ _ _ s3 ((g2.tr g3).tr g4) (p3.go (Gm.new g3.i hp)) ⟨pp, vs ++ ws, rfl, .of upd_same, All.mo g4.s hc⟩ hm4
theorem cut_all {α : Type} {xs : List α} {lo hi : Option Int} (h : HT.sIx xs.length 0 lo = 0 ∧ HT.sIx xs.length xs.length hi = xs.length) : cut xs lo hi = xs := by
  unfold cut
  rw [h.1, h.2]
  simp
/-- a slice of a tuple -/
theorem e_cutT {R : Rp α} {m : (List α → μ β) → μ β} {ml mh : (Option Int → μ β) → μ β} {tl th : TO} [Mo R] (h : Ev p te σ S H m (rT K (aAll R))) (hl : EvO p tl σ S H ml) (hh : EvO p th σ S H mh) :
    Ev p (tSl (rSlA K) te tl th) σ S H (fun k => m fun xs => ml fun l => mh fun u => k (cut xs l u)) (rT K (aAll R)) := fun S1 H1 s g ps k z hm Q q =>
  h S1 H1 s g ps _ z hm _ fun xs v S2 H2 s2 g2 p2 ⟨x, vs, e, h1, h2⟩ hm2 => hl S2 H2 s2 (g.tr g2) p2 _ z hm2 _ fun lo S3 H3 s3 g3 p3 hm3 => hh S3 H3 s3 ((g.tr g2).tr g3) p3 _ z hm3 _ fun hi S4 H4 s4 g4 p4 hm4 => by
    subst e
    have a1 : All R S4 xs vs := All.mo (g3.s.tr g4.s) h2
    have hq : SqT K S4 x vs := sqT_ex (g3.s.tr g4.s) h1
    refine ⟨x, vs, rfl, sqT_ex g4.i hq, fun e => ?_, fun _ pp hp => ?_⟩
    · have e1 : cut xs lo hi = xs := cut_all (by rw [a1.len]; exact e)
      exact q _ _ S4 H4 s4 ((g2.tr g3).tr g4) p4 ⟨x, vs, rfl, hq, by rw [e1]; exact a1⟩ hm4
    · have g5 : Gm p.M S4 H4 (upd S4 pp (.tup (cutV vs lo hi))) (upd H4 pp (.tup (cutV vs lo hi))) := Gm.new g4.i hp
      exact q _ _ _ _ s4 (((g2.tr g3).tr g4).tr g5) (p4.go (Gm.new g4.i hp)) ⟨pp, _, rfl, .of upd_same, All.mo g5.s (a1.cut lo hi)⟩ hm4
end
end Wk
set_option Elab.async false
set_option maxRecDepth 100000
set_option maxHeartbeats 4000000
set_option linter.all false
/-! W12: texts among texts, values of two kinds, places, greatest of tuples -/
namespace Wk
open PySem L2
open PyProof.Rows hiding St
section
variable {prog : Program} {w : World} {A : Around} {E : Value → Shared → Prop} {s : Shared} {t : Addr} {xs : Array (Int × Tok)}
theorem max_intTuple {Q : Value → Shared → Prop} (hh : A.handled = none) (ht : s.heap.IsTuple t (intItems xs)) (hne : 0 < xs.size)
    (h : ∀ v h' tk, (intItems xs)[argBest (fun i j => decide (numAt xs i > numAt xs j)) (xs.size - 1)]? = some v → (∀ b o, s.heap.get? b = some o → h'.get? b = some o) → Q v { s with heap := h', toks := tk }) :
    wpAny (model prog w) A (call (.builtin "max") [.ref t]) Q E s := by
  have hlt : t < s.heap.objs.size := by obtain ⟨o, ho, _⟩ := ht; exact Heap.lt_size ho
  refine call_max_walk (wpAny_pyIter_tuple ht ?_)
  refine ⟨s.heap.objs.size, [s.heap.objs.size, t], [s.heap.objs.size], _, _, _, _, rfl, Walks.tuple (A := A.in1) hh s.heap.objs.size t (Nat.ne_of_lt hlt) (intItems xs), ⟨⟨_, Heap.get?_push_size _ rfl, rfl, rfl⟩, ht.push _⟩, ?_, by simpa [intItems] using hne, CmpOf.ints_gt (numAt xs) (fun _ _ => intItems_at), fun v h' tk hP hk => ?_⟩
  · intro b hb
    have e : b = s.heap.objs.size ∨ b = t := by simpa using hb
    show b < (s.heap.push _).objs.size
    rw [Heap.size_push]
    rcases e with e | e
    · rw [e]; exact Nat.lt_succ_self _
    · rw [e]; exact Nat.lt_succ_of_lt hlt
  · refine h v h' tk (by simpa [intItems] using hP) fun b o e => hk b o ?_ (Heap.get?_push_of_some _ e)
    intro hb
    have : b = s.heap.objs.size := by simpa using hb
    have h2 := Heap.lt_size e
    rw [this] at h2
    exact absurd h2 (Nat.lt_irrefl _)
end
def rMaxT (K : PySem.W.Frag) : List V → Hp → VK → Prop := fun vs H Q => ∃ (a : Addr) (ns : List Int), vs = [V.ref a] ∧ SqT K H a (ns.map V.int) ∧ 0 < ns.length ∧ ∀ m, m ∈ ns → (∀ y, y ∈ ns → y ≤ m) → Q (.int m) H
section
variable {X : Cx}
theorem cr_maxT (hc : X.calm = true) : CallR X (.builtin "max") (rMaxT X.K) := by
  intro pins s σ H vs us Q I r h
  obtain ⟨a, ns, rfl, hs, hne, q⟩ := h
  obtain ⟨its, rv, ht, _⟩ := I.tuple hs
  rw [Vals.ref1 r]
  have ht : s.heap.IsTuple a its.toArray := ht
  have hi : IntsAre its ns := rv.ints
  obtain ⟨xs, e⟩ := hi.allInts.items
  have hn : numsOf (intItems xs).toList = ns := by rw [← e]; exact hi.numsOf
  rw [nums_intItems] at hn
  subst hn
  rw [e] at ht
  have hsz : 0 < xs.size := by simpa using hne
  refine max_intTuple (I.ok.hd hc) ht hsz fun v h' tk hv hk => ?_
  obtain ⟨t, rfl⟩ := intItems_at hv
  obtain ⟨h1, h2⟩ := argBest_gt (numAt xs) (xs.size - 1)
  refine ⟨.int _, H, I.kept hk, ⟨_, rfl⟩, q _ ?_ fun a ha => ?_⟩
  · rw [numAt_eq]; exact PySem.getD_mem (by rw [List.length_map, Array.length_toList]; omega)
  · obtain ⟨j, hj, rfl⟩ := mem_getD ha
    rw [List.length_map, Array.length_toList] at hj
    rw [← numAt_eq]; exact h2 j (by omega)
theorem k_maxT (K : PySem.W.Frag) (hc : X.calm = true := by rfl) (h : X.K = K := by rfl) : CallR X (.builtin "max") (rMaxT K) := h ▸ cr_maxT hc
theorem k_isi (K : PySem.W.Frag) (h : X.K = K := by rfl) : CallR X (.builtin "isinstance") (rIsi K) := h ▸ call_isi
theorem k_catT (K : PySem.W.Frag) (h : X.K = K := by rfl) : OpR X (binaryOp .Add) (rCatA K) := h ▸ op_catA
theorem k_slt (K : PySem.W.Frag) (h : X.K = K := by rfl) : SlR X (rSlA K) := h ▸ sl_tupA
theorem k_idx {k : Nat} (K : PySem.W.Frag) (hu : Room k X.A) (h : X.K = K := by rfl) : MtR X "list.index" (rIndexD K) := h ▸ mt_indexD (by have := hu.un; omega)
theorem k_cnt (K : PySem.W.Frag) (h : X.K = K := by rfl) : MtR X "list.count" (rCntI K) := h ▸ mt_lcount
theorem k_pieT (K : PySem.W.Frag) {e : Expr} {ta : TA} {p pos tpos : Pos} {elts : List Expr} {kk : Nat} (hg : Gl X "enumerate") (hm : X.mg "enumerate" = none) (ha : PA X [e] ta) (hs : starEach [e] X.env = [(false, eval e X.env)] := by rfl) (h : X.K = K := by rfl) :
    PI X (.Tuple elts kk tpos) (.Call (.Name "enumerate" p) [e] [] pos) (iEnumT K ta) := h ▸ pi_enumT hg hm ha hs
theorem k_pizA (K : PySem.W.Frag) {e e2 : Expr} {ta : TA} {p pos tpos : Pos} {elts : List Expr} {kk : Nat} (hg : Gl X "zip") (hm : X.mg "zip" = none) (ha : PA X [e, e2] ta)
    (hs : starEach [e, e2] X.env = (false, eval e X.env) :: starEach [e2] X.env := by rfl) (hpl : (backTo pos (starEach [e2] X.env)).any (·.1) = false := by rfl) (h : X.K = K := by rfl) :
    PI X (.Tuple elts kk tpos) (.Call (.Name "zip" p) [e, e2] [] pos) (RZ.iZipA K ta) := h ▸ RZ.pi_zipA hg hm ha hs hpl
end
section
variable {P : Program} {w : World} {K : PySem.W.Frag} {mg : Str → Option Value} {base : Heap}
/-- a promise in two cases -/
theorem FnG.cases {CX : CXT} {k : Nat} {f : Addr} {fd : FuncData} {ps : List Str} {sp sp1 sp2 : Sp} (F1 : FnG P w K mg base CX k f fd ps sp1) (F2 : FnG P w K mg base CX k f fd ps sp2)
    (h : ∀ vs H Q E, sp vs H Q E → sp1 vs H Q E ∨ sp2 vs H Q E) : FnG P w K mg base CX k f fd ps sp :=
  ⟨fun vs H Q E q => (h vs H Q E q).elim (F1.len vs H Q E) (F2.len vs H Q E), fun A o s H a us vs Q E hr gd e0 hb rv q => (h vs H Q E q).elim (F1.run A o s H a us vs Q E hr gd e0 hb rv) (F2.run A o s H a us vs Q E hr gd e0 hb rv)⟩
end
section
variable {μ : Type → Type} {τ : Type} [Mir μ τ] {α β γ δ ρ : Type} {p : Pt τ} {σ : St} {S H S0 H0 : Hp} {te ta tb tc : TE} {tt : TT} {K : PySem.W.Frag}
theorem e_ixU {A : Rq α} {B : Rq γ} {R : Rp δ} {n : Int} {f : α → δ} {g : γ → δ} {mA : (α ⊕ γ → μ β) → μ β} (ha : Ev p ta σ S H mA (rU (rT K A) (rT K B))) (hb : tb = tC (.int n)) (hn : ∀ a vs S, A a vs S → ∃ v, L2.atI vs n = some v ∧ R (f a) v S)
    (hn' : ∀ a vs S, B a vs S → ∃ v, L2.atI vs n = some v ∧ R (g a) v S) : Ev p (tOp (rIxT K) ta tb) σ S H (fun k => mA fun a => k (Sum.elim f g a)) R := fun S1 H1 s gg ps k z hm Q q =>
  ha S1 H1 s gg ps _ z hm _ fun a v S2 H2 s2 g2 p2 r hm2 => by
    subst hb
    cases a with
    | inl a =>
      obtain ⟨x, vs, e2, h2, r2⟩ := r
      obtain ⟨u, e4, r4⟩ := hn a vs S2 r2
      exact ⟨x, vs, n, u, e2, rfl, sqT_ex g2.i h2, e4, q _ u S2 H2 s2 g2 p2 r4 hm2⟩
    | inr a =>
      obtain ⟨x, vs, e2, h2, r2⟩ := r
      obtain ⟨u, e4, r4⟩ := hn' a vs S2 r2
      exact ⟨x, vs, n, u, e2, rfl, sqT_ex g2.i h2, e4, q _ u S2 H2 s2 g2 p2 r4 hm2⟩
theorem All.strs {S : Hp} : ∀ {xs : List Str} {vs : List V}, All rS S xs vs → vs = xs.map V.str
  | _, _, .nil => rfl
  | _, _, .cons h t => by rw [t.strs, show _ = V.str _ from h]; rfl
theorem inV_strs (x : Str) (xs : List Str) : inV (.str x) (xs.map V.str) = xs.any fun y => decide (y = x) := by
  unfold inV
  rw [List.any_map]
  rfl
theorem flat_strs (xs : List Str) : (xs.map V.str).all flatV = true := by
  rw [List.all_map]
  simp [flatV]
theorem e_inS {neg : Bool} {mA : (Str → μ β) → μ β} {mB : (List Str → μ β) → μ β} (ha : Ev p ta σ S H mA rS) (hb : Ev p tb σ S H mB (rT K (aAll rS))) : Ev p (tOp (rIn K neg) ta tb) σ S H (fun k => mA fun x => mB fun xs => k (if neg = true then !(xs.any fun y => decide (y = x)) else xs.any fun y => decide (y = x))) rB := fun S1 H1 s g ps k z hm Q q =>
  ha S1 H1 s g ps _ z hm _ fun x v S2 H2 s2 g2 p2 r2 hm2 => hb S2 H2 s2 (g.tr g2) p2 _ z hm2 _ fun xs u S3 H3 s3 g3 p3 ⟨y, us, e3, h3, r3⟩ hm3 => by
    cases (show v = .str x from r2)
    have e4 := All.strs r3
    subst e4
    exact ⟨y, _, e3, .inr (sqT_ex g3.i h3), rfl, flat_strs xs, q _ _ S3 H3 s3 (g2.tr g3) p3 (by rw [inV_strs]; rfl) hm3⟩
/-! == of unlike makes -/
theorem q_N : EqD 0 (fun _ : Unit => PyData.none) := ⟨fun a b => by simp only [PyData.eqv], fun _ => rfl, fun _ => by simp only [PyData.depth]; exact Nat.le_refl _⟩
/-- a written slice of a tuple of known make -/
theorem e_cutC {A : Rq α} {C : Rq γ} [Mo A] [Mo C] {f : α → γ} {lo hi : Option Int} {m : (α → μ β) → μ β} {tl th : TO} (h : Ev p te σ S H m (rT K A)) (hl : EvO (μ := μ) (β := β) p tl σ S H (fun k => k lo)) (hh : EvO (μ := μ) (β := β) p th σ S H (fun k => k hi))
    (hf : ∀ a vs S, A a vs S → C (f a) (cutV vs lo hi) S) : Ev p (tSl (rSlA K) te tl th) σ S H (fun k => m fun a => k (f a)) (rT K C) := fun S1 H1 s g ps k z hm Q q =>
  h S1 H1 s g ps _ z hm _ fun a v S2 H2 s2 g2 p2 ⟨x, vs, e, h1, h2⟩ hm2 => hl S2 H2 s2 (g.tr g2) p2 (fun l => if l = lo then k (f a) else Mir.lft none) z (by show Mir.run (if lo = lo then k (f a) else Mir.lft none) s2 = some z; rw [if_pos rfl]; exact hm2) _ fun lo' S3 H3 s3 g3 p3 hm3 => by
    have el : lo' = lo := Classical.byContradiction fun c => by
      rw [if_neg c, Mir.run_lft] at hm3; cases hm3
    rw [if_pos el] at hm3
    refine hh S3 H3 s3 ((g.tr g2).tr g3) p3 (fun l => if l = hi then k (f a) else Mir.lft none) z (by show Mir.run (if hi = hi then k (f a) else Mir.lft none) s3 = some z; rw [if_pos rfl]; exact hm3) _ fun hi' S4 H4 s4 g4 p4 hm4 => ?_
    have eh : hi' = hi := Classical.byContradiction fun c => by
      rw [if_neg c, Mir.run_lft] at hm4; cases hm4
    rw [if_pos eh] at hm4
    subst el eh e
    have a1 : C (f a) (cutV vs lo' hi') S4 := hf a vs S4 (Mo.mo (g3.s.tr g4.s) h2)
    have hq : SqT K S4 x vs := sqT_ex (g3.s.tr g4.s) h1
    refine ⟨x, vs, rfl, sqT_ex g4.i hq, fun e => ?_, fun _ pp hp => ?_⟩
    · have e1 : cutV vs lo' hi' = vs := by
        unfold cutV
        rw [e.1, e.2]
        simp
      exact q _ _ S4 H4 s4 ((g2.tr g3).tr g4) p4 ⟨x, vs, rfl, hq, by rw [e1] at a1; exact a1⟩ hm4
    · have g5 : Gm p.M S4 H4 (upd S4 pp (.tup (cutV vs lo' hi'))) (upd H4 pp (.tup (cutV vs lo' hi'))) := Gm.new g4.i hp
      exact q _ _ _ _ s4 (((g2.tr g3).tr g4).tr g5) (p4.go (Gm.new g4.i hp)) ⟨pp, _, rfl, .of upd_same, Mo.mo g5.s a1⟩ hm4
theorem c_maxT {m : (List Int → μ β) → μ β} (h : Ev p te σ S H m (rT K (aAll rI))) : Ev p (tCB (rMaxT K) (tCons te tNil)) σ S H (fun k => m fun xs => Mir.lft xs.max? >>= k) rI := fun S1 H1 s g ps k z hm Q q =>
  h S1 H1 s g ps _ z hm _ fun xs v S2 H2 s2 g2 p2 ⟨x, vs, e2, h2, r2⟩ hm2 => by
    obtain ⟨a, e, hm3⟩ := run_of_lft hm2
    subst e2
    refine ⟨x, xs, rfl, by rw [← All.ints r2]; exact sqT_ex g2.i h2, ?_, fun n h1 h2 => q a _ S2 H2 s2 g2 p2 (by rw [max_one e h1 h2]; rfl) hm3⟩
    cases xs with
    | nil => cases e
    | cons _ _ => simp
/-! places, counts -/
theorem idx_get {xs : List Int} {x : Int} {j : Nat} (h : xs.idxOf? x = some j) : xs[j]? = some x ∧ ∀ m y, m < j → xs[m]? = some y → y ≠ x := by
  obtain ⟨h1, h2, h3⟩ := List.idxOf?_eq_some_iff.mp h
  refine ⟨by rw [List.getElem?_eq_getElem h1, h2], fun m y hm hy e => ?_⟩
  obtain ⟨h4, h5⟩ := List.getElem?_eq_some_iff.mp hy
  exact h3 m hm (by rw [h5, e])
theorem dp_ints {H1 : Hp} : ∀ {S1 : Hp} {xs : List Int} {vs : List V}, All rI S1 xs vs → DpAll K H1 vs (xs.map PyData.int)
  | _, _, _, .nil => .nil
  | _, _, _, .cons h t => by
    rw [show _ = V.int _ from h]
    exact .cons (.int _) (dp_ints t)
/-- xs.index(x), found -/
theorem c_idx {m : (List Int → μ β) → μ β} {m' : (Int → μ β) → μ β} (h : EvR p te σ S H m (aAll rI)) (h' : Ev p ta σ S H m' rI) : Ev p (tBM K "list" (rIndexD K) te (tCons ta tNil)) σ S H (fun k => m fun xs => m' fun x => Mir.lft (xs.idxOf? x) >>= fun j => k (j : Int)) rI := fun S1 H1 s g ps k z hm Q q =>
  h S1 H1 s g ps _ z hm _ fun xs a vs S2 H2 s2 g2 p2 e2 m2 r2 hm2 => ⟨.inl ⟨rfl, _, .of e2⟩, h' S2 H2 s2 (g.tr g2) p2 _ z hm2 _ fun x v S3 H3 s3 g3 p3 r3 hm3 => by
    cases (show v = .int x from r3)
    obtain ⟨j, e, hm4⟩ := run_of_lft hm3
    obtain ⟨h1, h2⟩ := idx_get e
    have e3 := g3.h _ _ m2 e2
    have a2 : All rI S3 xs vs := All.mo g3.s r2
    refine ⟨a, .int x, .int x, xs.map PyData.int, j, .int x, rfl, rfl, .lst (.of e3) (dp_ints a2), .int x, shaped_ints xs, (q_I).sh (by decide) x, by rw [List.getElem?_map, h1]; rfl, by simp only [PyData.eqv]; exact beq_self_eq_true x, fun m z' hm hz => ?_, q _ _ S3 H3 s3 (g2.tr g3) p3 rfl hm4⟩
    rw [List.getElem?_map] at hz
    cases hy : xs[m]? with
    | none => rw [hy] at hz; cases hz
    | some y =>
      rw [hy] at hz
      cases hz
      have := h2 m y hm hy
      simp only [PyData.eqv]
      cases hb : y == x with
      | false => rfl
      | true => exact absurd (eq_of_beq hb) this⟩
theorem c_cnt {m : (List Int → μ β) → μ β} {m' : (Int → μ β) → μ β} (h : EvR p te σ S H m (aAll rI)) (h' : Ev p ta σ S H m' rI) : Ev p (tBM K "list" (rCntI K) te (tCons ta tNil)) σ S H (fun k => m fun xs => m' fun x => k (xs.count x : Int)) rI := fun S1 H1 s g ps k z hm Q q =>
  h S1 H1 s g ps _ z hm _ fun xs a vs S2 H2 s2 g2 p2 e2 m2 r2 hm2 => ⟨.inl ⟨rfl, _, .of e2⟩, h' S2 H2 s2 (g.tr g2) p2 _ z hm2 _ fun x v S3 H3 s3 g3 p3 r3 hm3 => by
    cases (show v = .int x from r3)
    have e4 := All.ints r2
    subst e4
    exact ⟨a, xs, x, rfl, rfl, .of (g3.h _ _ m2 e2), q _ _ S3 H3 s3 (g2.tr g3) p3 rfl hm3⟩⟩
end
end Wk
set_option Elab.async false
set_option maxRecDepth 100000
set_option maxHeartbeats 4000000
set_option linter.all false
/-! W13: a list of ones own as an argument, == of what may be none -/
namespace Wk
open PySem L2
open PyProof.Rows hiding St
/-- the list of ones own at a place -/
def rQ {α : Type} (q : Addr) (xs : List α) : Rp (List α) := fun a v _ => a = xs ∧ v = .ref q
instance {α : Type} (q : Addr) (xs : List α) : Mo (rQ q xs) := ⟨fun _ h => h⟩
instance {α γ : Type} {R : Rp α} {R' : Rp γ} [NN R] [NN R'] : NN (rU R R') := ⟨fun a v S h => match a, h with
  | .inl a, h => NN.nn (R := R) a v S h
  | .inr a, h => NN.nn (R := R') a v S h⟩
section
variable {μ : Type → Type} {τ : Type} [Mir μ τ] {α β γ δ ρ ζ : Type} {p : Pt τ} {σ : St} {S H S0 H0 : Hp} {te ta tb tc : TE} {tt : TT} {K : PySem.W.Frag} {L : List (Addr × HO)}
/-- a list of ones own is handed to a def that leaves it as it is, and gives nothing that lives on the heap -/
theorem e_callO {fm : α → Option ρ} {A A' : Rq α} {R : Rp ρ} {t : TA} {E : XK} {m : (α → μ β) → μ β} {q : Addr} {us : List V} {j : Nat} (w : Wd p S0 H0 S H L) (hj : L[j]? = some (q, .lst us)) (h : EvA p t σ S H m A')
    (hA : ∀ a vs S1, Ex S S1 → Ex S1 (upd S1 q (.lst us)) → A' a vs S1 → A a vs (upd S1 q (.lst us))) (hR : ∀ r v S S', R r v S → R r v S') :
    Ev p (tCall (spV F0 fm (fun _ => A) R) [] E t) σ S H (fun k => m fun a => Mir.lft (fm a) >>= k) R := fun S1 H1 s g ps k z hm Q qq =>
  h S1 H1 s g ps _ z hm _ fun a vs S2 H2 s2 g2 p2 r hm2 => by
    obtain ⟨b, e, hm3⟩ := run_of_lft hm2
    have gt := g.tr g2
    have o := w.at hj
    have hM := w.nmAt hj
    have q2 : H2 q = some (.lst us) := gt.h _ _ hM o.1
    have n2 : S2 q = none := gt.f _ _ o.1 o.2.1
    have ex1 : Ex S2 (upd S2 q (.lst us)) := fun x u hx => by
      rw [upd_ne (ne_of_none hx n2)]; exact hx
    have ex2 : Ex (upd S2 q (.lst us)) H2 := fun x u hx => by
      by_cases c : x = q
      · subst c; rw [upd_same] at hx; rw [q2]; exact hx
      · rw [upd_ne c] at hx; exact g2.i x u hx
    refine ⟨(), a, upd S2 q (.lst us), (), b, (), ex2, pot0', by rw [List.append_nil]; exact hA a vs S2 gt.s ex1 r, by show (fm a).map _ = _; rw [e]; rfl, fun v S' H' g3 _ r3 => ?_⟩
    have g4 : Gm [] S2 H2 S2 H' := ⟨Ex.rf, (ex1.tr g3.s).tr g3.i, fun x u hx hu => g3.h x u hx hu, fun x u hx hn => hn, g3.t⟩
    exact qq b v S2 H' s2 (g2.tr (Gm.up g4)) (p2.go g4) (hR _ _ _ _ r3) hm3
theorem hR_I : ∀ (r : Int) v (S S' : Hp), rI r v S → rI r v S' := fun _ _ _ _ h => h
theorem hR_B : ∀ (r : Bool) v (S S' : Hp), rB r v S → rB r v S' := fun _ _ _ _ h => h
theorem hR_S : ∀ (r : Str) v (S S' : Hp), rS r v S → rS r v S' := fun _ _ _ _ h => h
/-! == of what may be none -/
structure NoN (d : α → PyData) : Prop where
  l : ∀ a, PyData.eqv (d a) .none = false
  r : ∀ a, PyData.eqv .none (d a) = false
theorem nn_I : NoN PyData.int := ⟨fun a => by simp only [PyData.eqv], fun a => by simp only [PyData.eqv]⟩
theorem nn_B : NoN PyData.bool := ⟨fun a => by simp only [PyData.eqv], fun a => by simp only [PyData.eqv]⟩
theorem nn_T {ds : α → List PyData} : NoN (fun a => PyData.tuple (ds a)) := ⟨fun a => by simp only [PyData.eqv], fun a => by simp only [PyData.eqv]⟩
theorem nn_L {ds : α → List PyData} : NoN (fun a => PyData.list (ds a)) := ⟨fun a => by simp only [PyData.eqv], fun a => by simp only [PyData.eqv]⟩
theorem q_O {n : Nat} {d : α → PyData} (h : EqD n d) (hn : NoN d) : EqD n (dO d) := by
  refine ⟨fun a b => ?_, fun a => ?_, fun a => ?_⟩
  · cases a with
    | none => cases b with
      | none => simp only [dO, PyData.eqv]
      | some b => simp only [dO, hn.r]; simp
    | some a => cases b with
      | none => simp only [dO, hn.l]; simp
      | some b => simp only [dO]; rw [h.e]; simp
  · cases a with
    | none => rfl
    | some a => exact h.l a
  · cases a with
    | none => simp only [dO, PyData.depth]; omega
    | some a => exact h.d a
end
end Wk
set_option Elab.async false
set_option maxRecDepth 100000
set_option maxHeartbeats 4000000
set_option linter.all false
/-! W14: sorted of pairs, lists of known make put together, extend by any list -/
namespace Wk
open PySem L2
open PyProof.Rows hiding St
/-- a tuple made by a display -/
def rPT {α : Type} (A : Rq α) : Rp α := fun a v S => ∃ p vs, v = .ref p ∧ S p = some (.tup vs) ∧ A a vs S
instance {α : Type} (A : Rq α) [Mo A] : Mo (rPT A) := ⟨fun e ⟨p, vs, h1, h2, h3⟩ => ⟨p, vs, h1, e _ _ h2, Mo.mo e h3⟩⟩
instance {α : Type} {A : Rq α} : NN (rPT A) := ⟨fun _ _ _ ⟨_, _, h, _⟩ e => by rw [h] at e; cases e⟩
theorem rPT.t {α : Type} {K : PySem.W.Frag} {A : Rq α} {a : α} {v : V} {S : Hp} (h : rPT A a v S) : rT K A a v S := by
  obtain ⟨p, vs, h1, h2, h3⟩ := h
  exact ⟨p, vs, h1, .of h2, h3⟩
theorem All.imp {α : Type} {R R' : Rp α} {S : Hp} (h : ∀ a v, R a v S → R' a v S) : ∀ {xs : List α} {vs : List V}, All R S xs vs → All R' S xs vs
  | _, _, .nil => .nil
  | _, _, .cons x t => .cons (h _ _ x) (t.imp h)
/-! lists of pairs, sorted -/
def leP (p q : Int × Int) : Prop := SrtO.lexB q p = false
instance (p q : Int × Int) : Decidable (leP p q) := inferInstanceAs (Decidable (_ = _))
theorem leP_iff {p q : Int × Int} : leP p q ↔ p.1 < q.1 ∨ (p.1 = q.1 ∧ p.2 ≤ q.2) := by
  unfold leP
  cases e : SrtO.lexB q p with
  | true =>
    have := SrtO.lexB_iff.mp e
    constructor
    · intro h; cases h
    · intro h; omega
  | false =>
    have : ¬ (q.1 < p.1 ∨ (q.1 = p.1 ∧ q.2 < p.2)) := fun z => by rw [SrtO.lexB_iff.mpr z] at e; cases e
    exact ⟨fun _ => by omega, fun _ => rfl⟩
def ins2 (x : Int × Int) : List (Int × Int) → List (Int × Int)
  | [] => [x]
  | y :: r => if leP x y then x :: y :: r else y :: ins2 x r
def srt2 : List (Int × Int) → List (Int × Int)
  | [] => []
  | x :: r => ins2 x (srt2 r)
theorem ins2_perm (x : Int × Int) : ∀ l, (ins2 x l).Perm (x :: l)
  | [] => .refl _
  | y :: r => by
    unfold ins2
    split
    · exact .refl _
    · exact ((ins2_perm x r).cons y).trans (.swap x y r)
theorem srt2_perm : ∀ l, (srt2 l).Perm l
  | [] => .refl _
  | x :: r => (ins2_perm x (srt2 r)).trans ((srt2_perm r).cons x)
theorem ins2_sorted (x : Int × Int) : ∀ l, List.Pairwise leP l → List.Pairwise leP (ins2 x l)
  | [], _ => by simp [ins2]
  | y :: r, h => by
    unfold ins2
    obtain ⟨h1, h2⟩ := List.pairwise_cons.mp h
    split
    · rename_i hx
      refine List.pairwise_cons.mpr ⟨fun a ha => ?_, h⟩
      rcases List.mem_cons.mp ha with e | ha
      · rw [e]; exact hx
      · have := leP_iff.mp (h1 a ha)
        have := leP_iff.mp hx
        exact leP_iff.mpr (by omega)
    · rename_i hx
      refine List.pairwise_cons.mpr ⟨fun a ha => ?_, ins2_sorted x r h2⟩
      rcases List.mem_cons.mp ((ins2_perm x r).mem_iff.mp ha) with e | ha
      · rw [e]
        have hx : ¬ (x.1 < y.1 ∨ (x.1 = y.1 ∧ x.2 ≤ y.2)) := fun z => hx (leP_iff.mpr z)
        exact leP_iff.mpr (by omega)
      · exact h1 a ha
theorem srt2_sorted : ∀ l, List.Pairwise leP (srt2 l)
  | [] => .nil
  | x :: r => ins2_sorted x _ (srt2_sorted r)
theorem sorted2_one {a b : List (Int × Int)} (h : a.Perm b) (ha : List.Pairwise leP a) (hb : List.Pairwise leP b) : a = b :=
  h.eq_of_pairwise (fun x y _ _ h1 h2 => by
    have h1 := leP_iff.mp h1
    have h2 := leP_iff.mp h2
    exact Prod.ext (by omega) (by omega)) ha hb
section
variable {μ : Type → Type} {τ : Type} [Mir μ τ] {α β γ δ ρ ζ : Type} {p : Pt τ} {σ : St} {S H S0 H0 : Hp} {te ta tb tc : TE} {tt : TT} {K : PySem.W.Frag} {L : List (Addr × HO)} {D : Ends} {tz : TS} {s : τ} {z : β × τ}
theorem Ev.unP {A : Rq α} {m : (α → μ β) → μ β} (h : Ev p te σ S H m (rPT A)) : Ev p te σ S H m (rT K A) := fun S1 H1 s g ps k z hm Q q =>
  h S1 H1 s g ps k z hm _ fun a v S2 H2 s2 g2 p2 r hm2 => q a v S2 H2 s2 g2 p2 r.t hm2
/-- what may be none, and is not -/
theorem Ev.unO {R : Rp α} {m : (Option α → μ β) → μ β} (h : Ev p te σ S H m (rO R)) : Ev p te σ S H (fun k => m fun a => Mir.lft a >>= k) R := fun S1 H1 s g ps k z hm Q q =>
  h S1 H1 s g ps _ z hm _ fun a v S2 H2 s2 g2 p2 r hm2 => by
    obtain ⟨x, e, hm3⟩ := run_of_lft hm2
    subst e
    exact q x v S2 H2 s2 g2 p2 r hm3
theorem e_tupP {m : (α → μ β) → μ β} {A : Rq α} {t : TA} {n : Nat} [Mo A] (h : EvA p t σ S H m A) (hn : ArN n A) (hz : n ≤ sizeLine) : Ev p (tTup t) σ S H m (rPT A) := fun S1 H1 s g ps k z hm Q q =>
  h S1 H1 s g ps k z hm _ fun a vs S2 H2 s2 g2 p2 r hm2 => ⟨Nat.le_trans (hn _ _ _ r) hz, fun x hx =>
    have g3 : Gm p.M S2 H2 (upd S2 x (.tup vs)) (upd H2 x (.tup vs)) := Gm.new g2.i hx
    q a _ _ _ s2 (g2.tr g3) (p2.go (Gm.new g2.i hx)) ⟨x, vs, rfl, upd_same, Mo.mo g3.s r⟩ hm2⟩
theorem g_pt {g : TG} {A : Rq α} {P : α → St → St → Hp → Prop} (h : Tg g (rT K A) P) : Tg g (rPT A) P := fun a v σ S H Q e r q => h a v σ S H Q e r.t q
theorem d_PT {A : Rq α} {ds : α → List PyData} (h : isDs K A ds) : isD K (rPT A) fun a => .tuple (ds a) := fun a v S H r e => d_T h a v S H r.t e
/-- the pair at a value -/
def prV (S : Hp) : V → Int × Int
  | .ref a => match S a with
    | some (.tup [.int i, .int j]) => (i, j)
    | _ => (0, 0)
  | _ => (0, 0)
theorem prV_eq {S : Hp} {x : Int × Int} {v : V} (h : rPT (aCons rI (aOne rI)) x v S) : ∃ t, v = .ref t ∧ S t = some (.tup [.int x.1, .int x.2]) ∧ prV S v = x := by
  obtain ⟨t, vs, rfl, h2, v1, r, rfl, h3, v2, rfl, h4⟩ := h
  cases (show v1 = .int x.1 from h3)
  cases (show v2 = .int x.2 from h4)
  refine ⟨t, rfl, h2, ?_⟩
  show (match S t with | some (.tup [.int i, .int j]) => (i, j) | _ => ((0 : Int), (0 : Int))) = x
  rw [h2]
theorem All.prs {S : Hp} : ∀ {xs : List (Int × Int)} {vs : List V}, All (rPT (aCons rI (aOne rI))) S xs vs → vs.map (prV S) = xs ∧ ∀ v ∈ vs, ∃ t, v = .ref t ∧ S t = some (.tup [.int (prV S v).1, .int (prV S v).2])
  | _, _, .nil => ⟨rfl, fun _ h => nomatch h⟩
  | _, _, .cons h t => by
    obtain ⟨h1, h2⟩ := t.prs
    obtain ⟨a, e1, e2, e3⟩ := prV_eq h
    refine ⟨by rw [List.map_cons, e3, h1], fun v hv => ?_⟩
    rcases List.mem_cons.mp hv with e | hv
    · rw [e]; exact ⟨a, e1, by rw [e3]; exact e2⟩
    · exact h2 v hv
theorem All.of_prs {S : Hp} : ∀ {vs : List V}, (∀ v ∈ vs, ∃ t, v = .ref t ∧ S t = some (.tup [.int (prV S v).1, .int (prV S v).2])) → All (rT K (aCons rI (aOne rI))) S (vs.map (prV S)) vs
  | [], _ => .nil
  | v :: vs, h => by
    obtain ⟨t, e1, e2⟩ := h v (List.mem_cons_self ..)
    exact .cons ⟨t, _, e1, .of e2, _, _, rfl, rfl, _, rfl, rfl⟩ (All.of_prs fun w hw => h w (List.mem_cons_of_mem _ hw))
/-- sorted(xs), xs pairs of ints -/
theorem l_srtP {m : (List (Int × Int) → μ β) → μ β} (h : EvR p te σ S H m (aAll (rPT (aCons rI (aOne rI))))) : EvL p (tCB (rSortedPO K) (tCons te tNil)) σ S H (fun k => m fun xs => k (srt2 xs)) (aAll (rT K (aCons rI (aOne rI)))) := fun S1 H1 s g ps k z hm Q q =>
  h S1 H1 s g ps _ z hm _ fun xs x vs S2 H2 s2 g2 p2 e2 m2 r2 hm2 => by
    obtain ⟨a1, a2⟩ := All.prs r2
    refine ⟨x, vs, prV S2, rfl, .of e2, fun v hv => ?_, fun ys y h1 h2 hy => ?_⟩
    · obtain ⟨t, e1, e3⟩ := a2 v hv
      exact ⟨t, e1, g2.i _ _ e3⟩
    · have e : ys.map (prV S2) = srt2 xs := by
        refine sorted2_one ?_ ?_ (srt2_sorted xs)
        · have := (h2.perm.map (prV S2))
          rw [a1] at this
          exact this.trans (srt2_perm xs).symm
        · exact List.pairwise_map.mpr h1
      have a3 : All (rT K (aCons rI (aOne rI))) S2 (srt2 xs) ys := by
        rw [← e]
        exact All.of_prs fun v hv => a2 v (h2.perm.mem_iff.mp hv)
      exact q (srt2 xs) y _ S2 _ s2 (g2.tr (Gm.own g2.i hy)) (p2.go (Gm.own g2.i hy)) (back_none g2 hy) upd_same (g2.i.no hy) (new_nM p2 hy) a3 hm2
/-- lists of known make, put together -/
theorem l_catC {A : Rq α} {B : Rq γ} {C : Rq δ} [Mo A] {mA : (α → μ β) → μ β} {mB : (γ → μ β) → μ β} (f : α → γ → δ) (n : Nat) (ha : EvR p ta σ S H mA A) (hb : EvR p tb σ S H mB B) (hf : ∀ a b vs ws S, A a vs S → B b ws S → C (f a b) (vs ++ ws) S ∧ vs.length + ws.length ≤ n) (hn : n ≤ sizeLine) :
    EvL p (tOp rCat ta tb) σ S H (fun k => mA fun a => mB fun b => k (f a b)) C := fun S1 H1 s g ps k z hm Q q =>
  ha S1 H1 s g ps _ z hm _ fun xs x vs S2 H2 s2 g2 p2 e2 m2 r2 hm2 => hb S2 H2 s2 (g.tr g2) p2 _ z hm2 _ fun ys y us S3 H3 s3 g3 p3 e3 m3 r3 hm3 => by
    obtain ⟨hc, hl⟩ := hf xs ys vs us S3 (Mo.mo g3.s r2) r3
    refine ⟨x, y, vs, us, rfl, rfl, g3.h _ _ m2 e2, e3, Nat.le_trans hl hn, fun l hl => ?_⟩
    have n1 : H1 l = none := by
      cases e : H1 l with
      | none => rfl
      | some u => obtain ⟨u', e'⟩ := (g2.tr g3).t l u e; rw [hl] at e'; cases e'
    exact q _ l _ S3 _ s3 ((g2.tr g3).tr (Gm.own g3.i hl)) (p3.go (Gm.own g3.i hl)) n1 upd_same (g3.i.no hl) (new_nM p3 hl) hc hm3
/-- xs.extend(ys), ys any list -/
theorem q_extR {i j : Nat} {q : Addr} {vs : List V} {xs : List α} {m : (List α → μ β) → μ β} {R : Rp α} [Mo R] {k : List α → μ β} (w : Wd p S0 H0 S H L) (ps : PotAt p s S H) (hj : L[j]? = some (q, .lst vs)) (e : σ[i]? = some (some (.ref q))) (ha : All R S xs vs) (h : EvR p te σ S H m (aAll R))
    (hm : Mir.run (m fun a => Mir.lft (grd (xs.length + a.length ≤ 16000000)) >>= fun _ => bnd (xs ++ a) k) s = some z)
    (nx : ∀ ys us S1 H1 s1, Wd p S0 H0 S1 H1 (L.set j (q, .lst us)) → PotAt p s1 S1 H1 → Ex S S1 → All R S1 ys us → Mir.run (k ys) s1 = some z → tz D σ H1) : tSeq (tDrop (tBM K "list" rExtend (tVar i) (tCons te tNil))) tz D σ H :=
  ⟨.ref q, e, ty_own (w.at hj).1, h S H s (Gm.rf w.i) ps _ z hm _ fun a x us S1 H1 s1 g p1 e2 m2 r hm1 => by
    obtain ⟨_, e1, hm1⟩ := run_of_lft hm1
    have hl := grd_of e1
    have w1 := w.go g
    have hr : All R S1 a us := r
    refine ⟨q, x, vs, us, rfl, rfl, (w1.at hj).1, e2, by rw [← ha.len, ← hr.len, sizeLine_eq]; omega, ?_⟩
    exact nx (xs ++ a) (vs ++ us) S1 _ s1 (w1.put hj) (p1.put (w.nmAt hj)) g.s ((ha.mo g.s).app hr) hm1⟩
end
section
variable {X : Cx}
theorem k_srtP (K : PySem.W.Frag) (h : X.K = K := by rfl) : CallR X (.builtin "sorted") (rSortedPO K) := h ▸ cr_sortedPO
end
end Wk
set_option Elab.async false
set_option maxRecDepth 100000
set_option maxHeartbeats 4000000
set_option linter.all false
/-! W15: dicts of ones own, keys ints or texts -/
namespace Wk
open PySem L2
open PyProof.Rows hiding St
section
variable {κ α : Type} [DecidableEq κ]
def dget (d : List (κ × α)) (k : κ) : Option α := (d.find? fun y => decide (y.1 = k)).map (·.2)
def dput (d : List (κ × α)) (k : κ) (x : α) : List (κ × α) := if (d.any fun y => decide (y.1 = k)) = true then d.map (fun y => if y.1 = k then (y.1, x) else y) else d ++ [(k, x)]
/-- what a dict holds -/
inductive AllD (e : κ → Key) (R : Rp α) (S : Hp) : List (κ × α) → List (Key × V) → Prop
  | nil : AllD e R S [] []
  | cons {k : κ} {x : α} {v : V} {d : List (κ × α)} {kvs : List (Key × V)} : R x v S → AllD e R S d kvs → AllD e R S ((k, x) :: d) ((e k, v) :: kvs)
variable {e : κ → Key} {R : Rp α} {S S' : Hp}
theorem AllD.mo [Mo R] (hs : Ex S S') : ∀ {d : List (κ × α)} {kvs : List (Key × V)}, AllD e R S d kvs → AllD e R S' d kvs
  | _, _, .nil => .nil
  | _, _, .cons h t => .cons (Mo.mo hs h) (t.mo hs)
theorem AllD.len : ∀ {d : List (κ × α)} {kvs : List (Key × V)}, AllD e R S d kvs → d.length = kvs.length
  | _, _, .nil => rfl
  | _, _, .cons _ t => congrArg Nat.succ t.len
theorem AllD.get (inj : ∀ a b, e a = e b → a = b) {k : κ} : ∀ {d : List (κ × α)} {kvs : List (Key × V)}, AllD e R S d kvs → (∀ x, dget d k = some x → ∃ v, valV kvs (e k) = some v ∧ R x v S) ∧ (dget d k = none → valV kvs (e k) = none)
  | _, _, .nil => ⟨fun x h => (by cases h), fun _ => rfl⟩
  | _, _, .cons (k := j) (x := y) (v := v) (d := d) (kvs := kvs) h t => by
    obtain ⟨h1, h2⟩ := t.get inj (k := k)
    by_cases z : j = k
    · subst z
      refine ⟨fun x hx => ⟨v, valV_pos rfl, ?_⟩, fun hx => ?_⟩
      · unfold dget at hx
        rw [List.find?_cons_of_pos (by simp)] at hx
        cases hx; exact h
      · unfold dget at hx
        rw [List.find?_cons_of_pos (by simp)] at hx
        cases hx
    · have hn : ¬ e j = e k := fun q => z (inj _ _ q)
      have ed : dget ((j, y) :: d) k = dget d k := by
        unfold dget
        rw [List.find?_cons_of_neg (by simp [z])]
      rw [ed, valV_neg hn]
      exact ⟨h1, h2⟩
theorem AllD.any (inj : ∀ a b, e a = e b → a = b) {k : κ} : ∀ {d : List (κ × α)} {kvs : List (Key × V)}, AllD e R S d kvs → (d.any fun y => decide (y.1 = k)) = (kvs.any fun y => decide (y.1 = e k))
  | _, _, .nil => rfl
  | _, _, .cons (k := j) h t => by
    rw [List.any_cons, List.any_cons, t.any inj]
    congr 1
    exact decide_eq_decide.mpr ⟨fun q => congrArg e q, fun q => inj _ _ q⟩
theorem AllD.app : ∀ {d : List (κ × α)} {kvs : List (Key × V)} {k : κ} {x : α} {v : V}, AllD e R S d kvs → R x v S → AllD e R S (d ++ [(k, x)]) (kvs ++ [(e k, v)])
  | _, _, _, _, _, .nil, h => .cons h .nil
  | _, _, _, _, _, .cons h t, h' => .cons h (t.app h')
theorem AllD.repl (inj : ∀ a b, e a = e b → a = b) {k : κ} {x : α} {v : V} (hx : R x v S) : ∀ {d : List (κ × α)} {kvs : List (Key × V)}, AllD e R S d kvs → AllD e R S (d.map fun y => if y.1 = k then (y.1, x) else y) (kvs.map fun y => if y.1 = e k then (y.1, v) else y)
  | _, _, .nil => .nil
  | _, _, .cons (k := j) (x := y) (v := u) (d := d) (kvs := kvs) h t => by
    rw [List.map_cons, List.map_cons]
    by_cases z : j = k
    · rw [if_pos z, if_pos (congrArg e z)]
      exact .cons hx (t.repl inj hx)
    · rw [if_neg z, if_neg fun q => z (inj _ _ q)]
      exact .cons h (t.repl inj hx)
theorem AllD.put (inj : ∀ a b, e a = e b → a = b) {k : κ} {x : α} {v : V} (hx : R x v S) {d : List (κ × α)} {kvs : List (Key × V)} (h : AllD e R S d kvs) : AllD e R S (dput d k x) (putK kvs (e k) v) := by
  unfold dput putK
  rw [h.any inj]
  by_cases z : (kvs.any fun y => decide (y.1 = e k)) = true
  · rw [if_pos z, if_pos z]
    exact h.repl inj hx
  · rw [if_neg z, if_neg z]
    exact h.app hx
end
theorem inj_I : ∀ a b : Int, (Sum.inl a : Key) = Sum.inl b → a = b := fun _ _ h => Sum.inl.inj h
theorem inj_S : ∀ a b : Str, (Sum.inr a : Key) = Sum.inr b → a = b := fun _ _ h => Sum.inr.inj h
/-- the key's value -/
def KRp {κ : Type} (R : Rp κ) (e : κ → Key) : Prop := ∀ a v S, R a v S → v = kV (e a)
theorem kr_I : KRp rI Sum.inl := fun _ _ _ h => h
theorem kr_S : KRp rS Sum.inr := fun _ _ _ h => h
section
variable {μ : Type → Type} {τ : Type} [Mir μ τ] {κ α β γ : Type} [DecidableEq κ] {p : Pt τ} {σ : St} {S H S0 H0 : Hp} {te tk tv : TE} {K : PySem.W.Frag} {L : List (Addr × HO)} {D : Ends} {tz : TS} {s : τ} {z : β × τ} {e : κ → Key} {R : Rp α} {RK : Rp κ}
theorem e_dGet {m : (κ → μ β) → μ β} {i j : Nat} {q : Addr} {kvs : List (Key × V)} {d : List (κ × α)} [Mo R] (inj : ∀ a b, e a = e b → a = b) (kr : KRp RK e) (w : Wd p S0 H0 S H L) (hj : L[j]? = some (q, .dK kvs)) (hi : σ[i]? = some (some (.ref q))) (ha : AllD e R S d kvs) (h : Ev p tk σ S H m RK) :
    Ev p (tDGet (tVar i) tk) σ S H (fun k => m fun x => Mir.lft (dget d x) >>= k) R := fun S1 H1 s1 g ps k z hm Q qq =>
  ⟨.ref q, hi, h S1 H1 s1 g ps _ z hm _ fun x v S2 H2 s2 g2 p2 r hm2 => by
    obtain ⟨y, e1, hm3⟩ := run_of_lft hm2
    have a2 := ha.mo (g.tr g2).s
    obtain ⟨u, e2, r2⟩ := (a2.get inj (k := x)).1 y e1
    rw [kr x v S2 r]
    have hq := (g.tr g2).h _ _ (w.nmAt hj) (w.at hj).1
    exact ⟨q, u, rfl, by rw [← e2]; exact DGet.k hq, qq y u S2 H2 s2 g2 p2 r2 hm3⟩⟩
theorem e_dIn {m : (κ → μ β) → μ β} {i j : Nat} {q : Addr} {kvs : List (Key × V)} {d : List (κ × α)} [Mo R] (inj : ∀ a b, e a = e b → a = b) (kr : KRp RK e) (w : Wd p S0 H0 S H L) (hj : L[j]? = some (q, .dK kvs)) (hi : σ[i]? = some (some (.ref q))) (ha : AllD e R S d kvs) (h : Ev p tk σ S H m RK) :
    Ev p (tDIn tk (tVar i)) σ S H (fun k => m fun x => k (dget d x).isSome) rB := fun S1 H1 s1 g ps k z hm Q qq =>
  h S1 H1 s1 g ps _ z hm _ fun x v S2 H2 s2 g2 p2 r hm2 => ⟨.ref q, hi, by
    have a2 := ha.mo (g.tr g2).s
    have hg := a2.get inj (k := x)
    rw [kr x v S2 r]
    have hq := (g.tr g2).h _ _ (w.nmAt hj) (w.at hj).1
    refine ⟨q, valV kvs (e x), rfl, DGet.k hq, qq _ _ S2 H2 s2 g2 p2 ?_ hm2⟩
    show V.bl _ = V.bl _
    cases hd : dget d x with
    | none => rw [hg.2 hd]; rfl
    | some y => obtain ⟨u, e2, _⟩ := hg.1 y hd; rw [e2]; rfl⟩
theorem e_dNotIn {m : (κ → μ β) → μ β} {i j : Nat} {q : Addr} {kvs : List (Key × V)} {d : List (κ × α)} [Mo R] (inj : ∀ a b, e a = e b → a = b) (kr : KRp RK e) (w : Wd p S0 H0 S H L) (hj : L[j]? = some (q, .dK kvs)) (hi : σ[i]? = some (some (.ref q))) (ha : AllD e R S d kvs) (h : Ev p tk σ S H m RK) :
    Ev p (tDNotIn tk (tVar i)) σ S H (fun k => m fun x => k (!(dget d x).isSome)) rB := fun S1 H1 s1 g ps k z hm Q qq =>
  h S1 H1 s1 g ps _ z hm _ fun x v S2 H2 s2 g2 p2 r hm2 => ⟨.ref q, hi, by
    have a2 := ha.mo (g.tr g2).s
    have hg := a2.get inj (k := x)
    rw [kr x v S2 r]
    have hq := (g.tr g2).h _ _ (w.nmAt hj) (w.at hj).1
    refine ⟨q, valV kvs (e x), rfl, DGet.k hq, qq _ _ S2 H2 s2 g2 p2 ?_ hm2⟩
    show V.bl _ = V.bl _
    cases hd : dget d x with
    | none => rw [hg.2 hd]; rfl
    | some y => obtain ⟨u, e2, _⟩ := hg.1 y hd; rw [e2]; rfl⟩
/-- d[k] = v -/
theorem q_dPut {i j : Nat} {q : Addr} {kvs : List (Key × V)} {d : List (κ × α)} {mv : (α → μ β) → μ β} {mk : (κ → μ β) → μ β} [Mo R] {k : List (κ × α) → μ β} (inj : ∀ a b, e a = e b → a = b) (kr : KRp RK e) (w : Wd p S0 H0 S H L) (ps : PotAt p s S H) (hj : L[j]? = some (q, .dK kvs)) (hi : σ[i]? = some (some (.ref q)))
    (ha : AllD e R S d kvs) (hv : Ev p tv σ S H mv R) (hk : Ev p tk σ S H mk RK) (hm : Mir.run (mv fun y => mk fun x => Mir.lft (grd (d.length < 16000000)) >>= fun _ => bnd (dput d x y) k) s = some z)
    (nx : ∀ d' kvs' S1 H1 s1, Wd p S0 H0 S1 H1 (L.set j (q, .dK kvs')) → PotAt p s1 S1 H1 → Ex S S1 → AllD e R S1 d' kvs' → Mir.run (k d') s1 = some z → tz D σ H1) : tSeq (sDPut (tVar i) tk tv) tz D σ H :=
  hv S H s (Gm.rf w.i) ps _ z hm _ fun y v S1 H1 s1 g1 p1 r1 hm1 => ⟨.ref q, hi, hk S1 H1 s1 g1 p1 _ z hm1 _ fun x u S2 H2 s2 g2 p2 r2 hm2 => by
    obtain ⟨_, e1, hm3⟩ := run_of_lft hm2
    have hl := grd_of e1
    have gt := g1.tr g2
    have w2 := w.go gt
    have a2 := ha.mo gt.s
    have rv := Mo.mo g2.s r1
    rw [kr x u S2 r2]
    refine ⟨q, _, rfl, DPut.k (w2.at hj).1 (by rw [← a2.len, sizeLine_eq]; omega), ?_⟩
    exact nx (dput d x y) (putK kvs (e x) v) S2 _ s2 (w2.put hj) (p2.put (w.nmAt hj)) gt.s (a2.put inj rv) hm3⟩
theorem x_dNew {k : List (κ × α) → μ β} {Q : VK} (w : Wd p S0 H0 S H L) (ps : PotAt p s S H) (hm : Mir.run (bnd ([] : List (κ × α)) k) s = some z)
    (nx : ∀ d q kvs S1 H1 s1, Wd p S0 H0 S1 H1 ((q, .dK kvs) :: L) → PotAt p s1 S1 H1 → Gm p.M S H S1 H1 → AllD e R S1 d kvs → Mir.run (k d) s1 = some z → Q (.ref q) H1) : tDNewK σ H Q := fun q hq => by
  have g : Gm p.M S H S (upd H q (.dK [])) := Gm.own w.i hq
  exact nx [] q [] S _ s (w.add g hq upd_same (w.i.no hq) (new_nM ps hq)) (ps.go (Gm.own w.i hq)) g .nil hm
/-- d = {} -/
theorem q_dNew {i : Nat} {k : List (κ × α) → μ β} (σ' : V → St) (hσ : ∀ v, σ.set i (some v) = σ' v) (w : Wd p S0 H0 S H L) (ps : PotAt p s S H) (hm : Mir.run (bnd ([] : List (κ × α)) k) s = some z)
    (nx : ∀ d q kvs S1 H1 s1, Wd p S0 H0 S1 H1 ((q, .dK kvs) :: L) → PotAt p s1 S1 H1 → Gm p.M S H S1 H1 → AllD e R S1 d kvs → Mir.run (k d) s1 = some z → tz D (σ' (.ref q)) H1) : tSeq (tAsg tDNewK (gName i)) tz D σ H := fun q hq => by
  have g : Gm p.M S H S (upd H q (.dK [])) := Gm.own w.i hq
  have h := nx [] q [] S _ s (w.add g hq upd_same (w.i.no hq) (new_nM ps hq)) (ps.go (Gm.own w.i hq)) g .nil hm
  rw [← hσ] at h
  exact h
end
end Wk
set_option Elab.async false
set_option maxRecDepth 100000
set_option maxHeartbeats 4000000
set_option linter.all false
/-! W16: the set of a list of ints -/
namespace Wk
open PySem PySem.Spec PyProof.Rows L2
/-- a set just made -/
abbrev nSet (b : Bool) : Obj := { cls := .type "set", dict := none, data := .set #[] 0 (.fresh 0 0 b) }
abbrev sOf (w : World) (s : Shared) : Heap := s.heap.push (nSet (!w.params.followText "set-order"))
/-- what its __init__ ends with -/
abbrev iniR (s : Shared) (Z : Heap → Prop) (E : Value → Shared → Prop) : Result → Shared → Prop := wants (fun r s2 => r = .none ∧ ∃ h' tk, s2 = { s with heap := h', toks := tk } ∧ Z h') E
section
variable {P : Program} {w : World} {A : Around} {E : Value → Shared → Prop} {s : Shared}
/-- set(v) by what its __init__ does -/
theorem set_by_init {v : Value} {Z : Heap → Prop} {Q : Value → Shared → Prop} (hh : A.handled = none)
    (hI : ∀ B : Around, B.handled = none → Shared.TypeIs { s with heap := sOf w s } (.ref s.heap.objs.size) "set" → wpAny (model P w) B.in1 (Builtin.«set.__init__» ⟨[.ref s.heap.objs.size, v], []⟩)
      (fun fin s2 => match fin with
        | .done f => iniR s Z E (.ok f) s2
        | .again c => c.quiet = true ∧ codeAny (model P w) B c (iniR s Z E) s2) (fun e s2 => iniR s Z E (.error e) s2) { s with heap := sOf w s })
    (h : ∀ h' tk, Z h' → Q (.ref s.heap.objs.size) { s with heap := h', toks := tk }) : wpAny (model P w) A (call (.type "set") [v]) Q E s := by
  obtain ⟨m1, m2, m3⟩ := F.called_set.mro
  have k1 := F.called_set.made
  have k2 := F.called_set.sub
  have k3 := F.called_set.notType
  have k4 := F.called_set.canCreate
  have k5 := F.typeCall_set_1 v
  refine wpAny_call (codeAny_of_tree (wpAny_pure ⟨Code.quiet_builtin _ (by decide +kernel), codeAny_builtin F.entry_type_call ?_⟩))
  rw [Around.under_plain (weight_type_call_type "set" [v] []) rfl]
  repeat (any_goals (first | assumption | wp_step))
  refine codeAny_mono (code_set_led1 (E := E) v (Q₁ := fun o s1 => o = .ref s.heap.objs.size ∧ s1 = { s with heap := sOf w s }) ⟨rfl, rfl⟩) fun r s1 hr => ?_
  rcases r with e1 | fl
  · exact hr
  rcases fl with _ | _ | _ | o
  · exact hr.elim
  · exact hr.elim
  · exact hr.elim
  obtain ⟨rfl, rfl⟩ := hr
  have ty : Shared.TypeIs { s with heap := sOf w s } (.ref s.heap.objs.size) "set" := ⟨_, Heap.get?_push_size _ rfl, rfl⟩
  have k6 := F.called_set.init.lookup
  have k7 := F.called_set.init.bind (.ref s.heap.objs.size)
  repeat (any_goals (first | assumption | wp_step))
  refine codeAny_mono (codeAny_call_builtin F.called_set.init.plain F.entry_set_init (check_set_init_1 ty (hI _ (by simp [hh]) ty))) fun r2 s2 hr2 => ?_
  rcases r2 with e2 | fl2
  · exact hr2
  rcases fl2 with _ | _ | _ | o2
  · exact hr2.elim
  · exact hr2.elim
  · exact hr2.elim
  obtain ⟨rfl, h', tk, rfl, hz⟩ := hr2
  repeat (any_goals (first | assumption | wp_step))
  exact h h' tk hz
/-- set(xs), xs a list of ints -/
theorem set_ints {l : Addr} {items : Array Value} {ns : List Int} {Q : Value → Shared → Prop} (hh : A.handled = none) (hl : s.heap.IsList l items) (hi : IntsAre items.toList ns) (hb : ns.length + 1 < scanBound)
    (h : ∀ h' tk c, SetR w h' s.heap.objs.size (fun j => decide (j ∈ ns)) c → c ≤ ns.length → (∀ b o, s.heap.get? b = some o → h'.get? b = some o) → Q (.ref s.heap.objs.size) { s with heap := h', toks := tk }) :
    wpAny (model P w) A (call (.type "set") [.ref l]) Q E s := by
  have hz : items.size = ns.length := by rw [← hi.length, Array.length_toList]
  refine set_by_init (Z := fun h' => ∃ c, SetR w h' s.heap.objs.size (fun j => decide (j ∈ ns)) c ∧ c ≤ ns.length ∧ ∀ b o, s.heap.get? b = some o → h'.get? b = some o) hh (fun B hB ty => ?_) fun h' tk ⟨c, q1, q2, q3⟩ => h h' tk c q1 q2 q3
  obtain ⟨o, ho, hc, n, hd⟩ := hl
  obtain ⟨oc, od, ot, os⟩ := o
  cases hc
  cases hd
  have lt : l < s.heap.objs.size := Heap.lt_size ho
  have g1 : (sOf w s).get? l = some { cls := .type "list", dict := od, data := .seq items n, slots := os } := Heap.get?_push_of_some _ ho
  have il : (sOf w s).IsList l items := ⟨_, g1, rfl, n, rfl⟩
  have u1 := F.sub_list_set
  have u2 := F.sub_list_frozenset
  have u3 : (Value.type "list" == Value.type "dict") = false := by decide
  unfold Builtin.«set.__init__» noKeywords Builtin.Frozenset.updateFrom
  generalize hp : pyIter = PI
  wp_walk
  subst hp
  refine wpAny_pyIter_list il (wpAny_bind (wpAny_runValue ?_))
  have zs : (sOf w s).objs.size = s.heap.objs.size + 1 := Heap.size_push ..
  have ne1 : l ≠ (sOf w s).objs.size := by rw [zs]; exact Nat.ne_of_lt (Nat.lt_succ_of_lt lt)
  have ne2 : s.heap.objs.size ∉ [(sOf w s).objs.size, l] := by
    rw [zs]
    intro q
    rcases List.mem_cons.mp q with q | q
    · exact Nat.ne_of_lt (Nat.lt_succ_self _) q
    · exact Nat.ne_of_gt lt (List.mem_singleton.mp q)
  have each : ∀ (i : Nat) (v : Value), items[i]? = some v → ∃ k t, ns[i]? = some k ∧ v = .int k t := fun i v hv => by
    have hlt : i < ns.length := by rw [← hz]; exact (Array.getElem?_eq_some_iff.mp hv).1
    obtain ⟨t, e⟩ := hi.int_at i v (by rw [Array.getElem?_toList]; exact hv)
    refine ⟨ns[i], t, List.getElem?_eq_getElem hlt, e.trans ?_⟩
    rw [List.getD_eq_getElem?_getD, List.getElem?_eq_getElem hlt]; rfl
  have made : ((sOf w s).push { cls := .type "list_iterator", data := .fields #[.ref l, .int 0 0] }).get? s.heap.objs.size = some (nSet (!w.params.followText "set-order")) := Heap.get?_push_of_some _ (Heap.get?_push_size _ rfl)
  refine set_update_ints ((Walks.list (by simp [hB]) _ l ne1 items).toS) s.heap.objs.size ne2 ns hz hb each (items.size - 0) 0 _ (by omega) (Nat.zero_le _) ⟨⟨_, Heap.get?_push_size _ rfl, rfl, rfl⟩, il.push _⟩ ⟨0, Nat.le_refl 0, setR_new_at made⟩ fun s2 c mv hc hS => ?_
  obtain ⟨h2, ge, dr, tk, o2⟩ := s2
  cases (show ge = s.gens from mv.gens)
  cases (show dr = s.drawn from mv.drawn)
  cases (show o2 = s.os from mv.os)
  show wpAny _ _ _ _ _ _
  refine wpAny_pure ?_
  show wpAny _ _ (ret Value.none) _ _ _
  refine wpAny_pure ⟨rfl, h2, tk, rfl, c, hS, by rw [← hz]; exact hc, fun b o e => ?_⟩
  have b1 := Heap.lt_size e
  refine mv.heap b o (fun q => ?_) (Heap.get?_push_of_some _ (Heap.get?_push_of_some _ e))
  rcases List.mem_cons.mp q with q | q
  · exact Nat.ne_of_lt b1 q
  · have q := List.mem_singleton.mp q
    rw [zs] at q
    exact Nat.ne_of_lt (Nat.lt_succ_of_lt b1) q
end
end Wk
set_option Elab.async false
set_option maxRecDepth 100000
set_option maxHeartbeats 4000000
set_option linter.all false
/-! M0: what a mirror gives, told by rules -/
namespace Wk
open PySem L2
open PyProof.Rows hiding St
section
variable {μ : Type → Type} {τ : Type} [Mir μ τ] {α β γ ζ ρ : Type} {s : τ} {P : β → τ → Prop}
/-- from s on m ends with a value and a state of P -/
def Tt (s : τ) (m : μ α) (P : α → τ → Prop) : Prop := ∃ a s1, Mir.run m s = some (a, s1) ∧ P a s1
theorem tt_pure {a : β} : Tt s (pure a : μ β) P ↔ P a s := by
  constructor
  · rintro ⟨b, s1, e, h⟩
    cases run_of_pure e
    exact h
  · intro h
    exact ⟨a, s, Mir.run_pure _ _, h⟩
theorem tt_bind {m : μ α} {k : α → μ β} : Tt s (m >>= k) P ↔ Tt s m (fun a s1 => Tt s1 (k a) P) := by
  constructor
  · rintro ⟨b, s1, e, h⟩
    obtain ⟨a, s2, e1, e2⟩ := run_of_bind e
    exact ⟨a, s2, e1, b, s1, e2, h⟩
  · rintro ⟨a, s2, e1, b, s1, e2, h⟩
    refine ⟨b, s1, ?_, h⟩
    rw [Mir.run_bind, e1]
    exact e2
theorem tt_grd {c : Prop} [Decidable c] {k : Unit → μ β} : Tt s (Mir.lft (grd c) >>= k) P ↔ c ∧ Tt s (k ()) P := by
  constructor
  · rintro ⟨b, s1, e, h⟩
    obtain ⟨u, e1, e2⟩ := run_of_lft e
    exact ⟨grd_of e1, b, s1, e2, h⟩
  · rintro ⟨hc, b, s1, e, h⟩
    refine ⟨b, s1, ?_, h⟩
    rw [Mir.run_bind, Mir.run_lft, grd, if_pos hc]
    exact e
theorem tt_grP {c : Prop} {k : Unit → μ β} : Tt s (Mir.lft (grP c) >>= k) P ↔ c ∧ Tt s (k ()) P := by
  constructor
  · rintro ⟨b, s1, e, h⟩
    obtain ⟨u, e1, e2⟩ := run_of_lft e
    exact ⟨grP_of e1, b, s1, e2, h⟩
  · rintro ⟨hc, b, s1, e, h⟩
    refine ⟨b, s1, ?_, h⟩
    rw [Mir.run_bind, Mir.run_lft, grP, if_pos hc]
    exact e
theorem tt_lft {o : Option α} {a : α} (e : o = some a) {k : α → μ β} : Tt s (Mir.lft o >>= k) P ↔ Tt s (k a) P := by
  subst e
  constructor
  · rintro ⟨b, s1, e, h⟩
    obtain ⟨u, e1, e2⟩ := run_of_lft e
    cases e1
    exact ⟨b, s1, e2, h⟩
  · rintro ⟨b, s1, e, h⟩
    refine ⟨b, s1, ?_, h⟩
    rw [Mir.run_bind, Mir.run_lft]
    exact e
theorem tt_bnd {a : α} {k : α → μ β} : Tt s (bnd a k) P ↔ Tt s (k a) P := Iff.rfl
theorem tt_ite {c : Prop} [Decidable c] {x y : μ β} : Tt s (if c then x else y) P ↔ if c then Tt s x P else Tt s y P := by
  by_cases h : c
  · rw [if_pos h, if_pos h]
  · rw [if_neg h, if_neg h]
theorem Tt.mono {m : μ β} {P' : β → τ → Prop} (h : Tt s m P) (i : ∀ a s1, P a s1 → P' a s1) : Tt s m P' := by
  obtain ⟨a, s1, e, q⟩ := h
  exact ⟨a, s1, e, i a s1 q⟩
theorem Tt.then {m : μ α} {k : α → μ β} {P' : α → τ → Prop} (h : Tt s m P') (i : ∀ a s1, P' a s1 → Tt s1 (k a) P) : Tt s (m >>= k) P := tt_bind.mpr (h.mono i)
theorem Tt.lft {o : Option α} {Q : α → Prop} (h : ∃ a, o = some a ∧ Q a) {k : α → μ β} (i : ∀ a, Q a → Tt s (k a) P) : Tt s (Mir.lft o >>= k) P := by
  obtain ⟨a, e, q⟩ := h
  exact (tt_lft e).mpr (i a q)
theorem Tt.pos {c : Prop} [Decidable c] {x y : μ β} (h : c) (i : Tt s x P) : Tt s (if c then x else y) P := by rw [if_pos h]; exact i
theorem Tt.neg {c : Prop} [Decidable c] {x y : μ β} (h : ¬ c) (i : Tt s y P) : Tt s (if c then x else y) P := by rw [if_neg h]; exact i
/-- a pure one -/
theorem tt_eq {m : Option α} {v : α} (h : Tt () m (fun a _ => a = v)) : m = some v := by
  obtain ⟨a, s1, e, rfl⟩ := h
  cases m with
  | none => cases e
  | some b => cases e; rfl
theorem tt_ex {m : Option α} {Q : α → Prop} (h : Tt () m (fun a _ => Q a)) : ∃ a, m = some a ∧ Q a := by
  obtain ⟨a, s1, e, q⟩ := h
  cases m with
  | none => cases e
  | some b => cases e; exact ⟨_, rfl, q⟩
theorem tt_of {m : Option α} {v : α} {P : α → Unit → Prop} (e : m = some v) (h : P v ()) : Tt () m P := by
  subst e
  exact ⟨v, (), rfl, h⟩

/-! ### loops -/
/-- while: I holds at the head, nu goes down, R behind -/
theorem Tt.wh {c : ζ → (Bool → μ ζ) → μ ζ} {b : ζ → μ ζ} {R : ζ → τ → Prop} (I : ζ → τ → Prop) (nu : ζ → Nat)
    (h : ∀ st s (k : Bool → μ ζ) (P : ζ → τ → Prop), I st s → (∀ t s1, (t = true → Tt s1 (b st) fun st' s2 => I st' s2 ∧ nu st' < nu st) → (t = false → R st s1) → Tt s1 (k t) P) → Tt s (c st k) P) :
    ∀ (n : Nat) (st : ζ) (s : τ), I st s → nu st < n → Tt s (whS n c b st) R
  | 0, st, s, _, hn => absurd hn (Nat.not_lt_zero _)
  | n + 1, st, s, hI, hn => by
    refine h st s _ _ hI fun t s1 h1 h2 => ?_
    cases t with
    | true =>
      refine Tt.pos rfl ((h1 rfl).then fun st' s2 q => ?_)
      exact Tt.wh I nu h n st' s2 q.1 (by omega)
    | false => exact Tt.neg (by simp) (tt_pure.mpr (h2 rfl))
theorem Tt.whC {c : ζ → (Bool → μ (Ctl ρ ζ)) → μ (Ctl ρ ζ)} {b : ζ → μ (Ctl ρ ζ)} {R : Ctl ρ ζ → τ → Prop} (I : ζ → τ → Prop) (nu : ζ → Nat)
    (h : ∀ st s (k : Bool → μ (Ctl ρ ζ)) (P : Ctl ρ ζ → τ → Prop), I st s → (∀ t s1, (t = true → Tt s1 (b st) fun o s2 => match o with | .go st' => I st' s2 ∧ nu st' < nu st | x => R x s2) → (t = false → R (.go st) s1) → Tt s1 (k t) P) → Tt s (c st k) P) :
    ∀ (n : Nat) (st : ζ) (s : τ), I st s → nu st < n → Tt s (Wk.whC n c b st) R
  | 0, st, s, _, hn => absurd hn (Nat.not_lt_zero _)
  | n + 1, st, s, hI, hn => by
    refine h st s _ _ hI fun t s1 h1 h2 => ?_
    cases t with
    | true =>
      refine Tt.pos rfl ((h1 rfl).then fun o s2 q => ?_)
      cases o with
      | go st' => exact Tt.whC I nu h n st' s2 q.1 (by have := q.2; omega)
      | brk x => exact tt_pure.mpr q
      | ret x => exact tt_pure.mpr q
    | false => exact Tt.neg (by simp) (tt_pure.mpr (h2 rfl))
/-- while, what goes down stands beside -/
theorem Tt.whI {c : ζ → (Bool → μ ζ) → μ ζ} {b : ζ → μ ζ} {R : ζ → τ → Prop} (I : Nat → ζ → τ → Prop)
    (h : ∀ j st s (k : Bool → μ ζ) (P : ζ → τ → Prop), I j st s → (∀ t s1, (t = true → Tt s1 (b st) fun st' s2 => ∃ j', j' < j ∧ I j' st' s2) → (t = false → R st s1) → Tt s1 (k t) P) → Tt s (c st k) P) :
    ∀ (n j : Nat) (st : ζ) (s : τ), I j st s → j < n → Tt s (whS n c b st) R
  | 0, j, st, s, _, hn => absurd hn (Nat.not_lt_zero _)
  | n + 1, j, st, s, hI, hn => by
    refine h j st s _ _ hI fun t s1 h1 h2 => ?_
    cases t with
    | true =>
      refine Tt.pos rfl ((h1 rfl).then fun st' s2 ⟨j', q1, q2⟩ => ?_)
      exact Tt.whI I h n j' st' s2 q2 (by omega)
    | false => exact Tt.neg (by simp) (tt_pure.mpr (h2 rfl))
/-- for: I tells what is left -/
theorem Tt.lp {f : α → ζ → μ ζ} (I : List α → ζ → τ → Prop) (h : ∀ x xs st s, I (x :: xs) st s → Tt s (f x st) (I xs)) : ∀ (xs : List α) (st : ζ) (s : τ), I xs st s → Tt s (lpS xs f st) (I [])
  | [], st, s, hI => tt_pure.mpr hI
  | x :: xs, st, s, hI => (h x xs st s hI).then fun st' s1 q => Tt.lp I h xs st' s1 q
theorem Tt.lpC {f : α → ζ → μ (Ctl ρ ζ)} {R : Ctl ρ ζ → τ → Prop} (I : List α → ζ → τ → Prop) (h : ∀ x xs st s, I (x :: xs) st s → Tt s (f x st) fun o s1 => match o with | .go st' => I xs st' s1 | y => R y s1)
    (h0 : ∀ st s, I [] st s → R (.go st) s) : ∀ (xs : List α) (st : ζ) (s : τ), I xs st s → Tt s (Wk.lpC xs f st) R
  | [], st, s, hI => tt_pure.mpr (h0 st s hI)
  | x :: xs, st, s, hI => (h x xs st s hI).then fun o s1 q => by
    cases o with
    | go st' => exact Tt.lpC I h h0 xs st' s1 q
    | brk y => exact tt_pure.mpr q
    | ret y => exact tt_pure.mpr q
theorem rng_step {lo hi : Int} (h : lo < hi) : rng lo hi = lo :: rng (lo + 1) hi := by
  unfold rng
  have e : (hi - lo).toNat = (hi - (lo + 1)).toNat + 1 := by omega
  rw [e, List.range_succ_eq_map, List.map_cons, List.map_map]
  congr 1
  · simp
  · apply List.map_congr_left
    intro k _
    simp only [Function.comp_apply]
    omega
theorem rng_no {lo hi : Int} (h : hi ≤ lo) : rng lo hi = [] := by
  unfold rng
  have e : (hi - lo).toNat = 0 := by omega
  rw [e]; rfl
theorem rng_len (lo hi : Int) : (rng lo hi).length = (hi - lo).toNat := by unfold rng; rw [List.length_map, List.length_range]
theorem mem_rng {lo hi x : Int} : x ∈ rng lo hi ↔ lo ≤ x ∧ x < hi := by
  unfold rng
  rw [List.mem_map]
  constructor
  · rintro ⟨k, hk, rfl⟩
    have := List.mem_range.mp hk
    omega
  · intro h
    exact ⟨(x - lo).toNat, List.mem_range.mpr (by omega), by omega⟩
/-- for x in range: I tells the place -/
theorem Tt.rg {f : Int → ζ → μ ζ} {hi : Int} (I : Int → ζ → τ → Prop) (h : ∀ x st s, x < hi → I x st s → Tt s (f x st) (I (x + 1))) : ∀ (n : Nat) (lo : Int) (st : ζ) (s : τ), lo + n = hi → I lo st s → Tt s (lpS (rng lo hi) f st) (I hi)
  | 0, lo, st, s, e, hI => by
    have : lo = hi := by omega
    subst this
    rw [rng_no (Int.le_refl _)]
    exact tt_pure.mpr hI
  | n + 1, lo, st, s, e, hI => by
    rw [rng_step (by omega)]
    exact (h lo st s (by omega) hI).then fun st' s1 q => Tt.rg I h n (lo + 1) st' s1 (by omega) q
theorem Tt.rgC {f : Int → ζ → μ (Ctl ρ ζ)} {hi : Int} {R : Ctl ρ ζ → τ → Prop} (I : Int → ζ → τ → Prop) (h : ∀ x st s, x < hi → I x st s → Tt s (f x st) fun o s1 => match o with | .go st' => I (x + 1) st' s1 | y => R y s1)
    (h0 : ∀ st s, I hi st s → R (.go st) s) : ∀ (n : Nat) (lo : Int) (st : ζ) (s : τ), lo + n = hi → I lo st s → Tt s (Wk.lpC (rng lo hi) f st) R
  | 0, lo, st, s, e, hI => by
    have : lo = hi := by omega
    subst this
    rw [rng_no (Int.le_refl _)]
    exact tt_pure.mpr (h0 _ _ hI)
  | n + 1, lo, st, s, e, hI => by
    rw [rng_step (by omega)]
    refine (h lo st s (by omega) hI).then fun o s1 q => ?_
    cases o with
    | go st' => exact Tt.rgC I h h0 n (lo + 1) st' s1 (by omega) q
    | brk y => exact tt_pure.mpr q
    | ret y => exact tt_pure.mpr q
/-- a comprehension: I tells what is left, what was found -/
theorem Tt.cmp {f : α → μ (Option γ)} {R : List γ → τ → Prop} (I : List α → List γ → τ → Prop) (h : ∀ x xs ys s, I (x :: xs) ys s → Tt s (f x) fun o s1 => I xs (ys ++ o.toList) s1) (h0 : ∀ ys s, I [] ys s → R ys s) : ∀ (xs : List α) (ys : List γ) (s : τ), I xs ys s → Tt s (Wk.cmp xs f) fun l s1 => R (ys ++ l) s1
  | [], ys, s, hI => tt_pure.mpr (by rw [List.append_nil]; exact h0 _ _ hI)
  | x :: xs, ys, s, hI => (h x xs ys s hI).then fun o s1 q => (Tt.cmp I h h0 xs _ s1 q).then fun l s2 r => tt_pure.mpr (by
      have e : ys ++ cns o l = ys ++ o.toList ++ l := by cases o <;> simp [cns]
      rw [e]; exact r)
/-- .. each item by itself -/
theorem tt_map {f : α → μ (Option γ)} {g : α → γ} : ∀ {xs : List α} {k : List γ → μ β}, (∀ x ∈ xs, ∀ s (Q : Option γ → τ → Prop), Q (some (g x)) s → Tt s (f x) Q) → (Tt s (k (xs.map g)) P → Tt s (Wk.cmp xs f >>= k) P) := by
  intro xs k h hk
  refine Tt.then (P' := fun l s1 => l = xs.map g ∧ s1 = s) ?_ (fun l s1 q => by rw [q.1, q.2]; exact hk)
  clear hk
  induction xs with
  | nil => exact tt_pure.mpr ⟨rfl, rfl⟩
  | cons x xs ih =>
    refine tt_bind.mpr (h x (List.mem_cons_self ..) s _ ?_)
    refine (ih fun y hy => h y (List.mem_cons_of_mem _ hy)).then fun l s1 q => tt_pure.mpr ⟨?_, q.2⟩
    rw [q.1]; rfl
theorem tt_filterMap {f : α → μ (Option γ)} {g : α → Option γ} : ∀ {xs : List α} {k : List γ → μ β}, (∀ x ∈ xs, ∀ s (Q : Option γ → τ → Prop), Q (g x) s → Tt s (f x) Q) → (Tt s (k (xs.filterMap g)) P → Tt s (Wk.cmp xs f >>= k) P) := by
  intro xs k h hk
  refine Tt.then (P' := fun l s1 => l = xs.filterMap g ∧ s1 = s) ?_ (fun l s1 q => by rw [q.1, q.2]; exact hk)
  clear hk
  induction xs with
  | nil => exact tt_pure.mpr ⟨rfl, rfl⟩
  | cons x xs ih =>
    refine tt_bind.mpr (h x (List.mem_cons_self ..) s _ ?_)
    refine (ih fun y hy => h y (List.mem_cons_of_mem _ hy)).then fun l s1 q => tt_pure.mpr ⟨?_, q.2⟩
    rw [q.1, List.filterMap_cons]
    cases g x <;> rfl
end
theorem lt_many {n : Nat} (h : n < 10 ^ 40) : n < many := by
  unfold many
  exact h
theorem sm_of {a : Int} (h1 : -10 ^ 4000 < a) (h2 : a < 10 ^ 4000) : Sm a := by
  refine Sm.of (n := 14000) ?_ (by decide) (by decide)
  have e : (10 : Nat) ^ 4000 ≤ 2 ^ 14000 := by decide +kernel
  have e2 : ((10 ^ 4000 : Nat) : Int) = 10 ^ 4000 := by push_cast; rfl
  generalize h3 : (10 : Nat) ^ 4000 = x at e e2
  generalize h4 : (2 : Nat) ^ 14000 = y at e ⊢
  rw [← e2] at h1 h2
  omega
theorem sm_lt {a : Int} {b : Nat} (h : a.natAbs ≤ b) (hb : b < 10 ^ 4000) : Sm a := by
  have e2 : ((10 ^ 4000 : Nat) : Int) = 10 ^ 4000 := by push_cast; rfl
  refine sm_of ?_ ?_ <;> rw [← e2] <;> generalize (10 : Nat) ^ 4000 = x at hb <;> omega
theorem dv_of {a : Int} (h0 : 0 < a) (h : a < 2 ^ 1000) : Dv a := by
  refine ⟨h0, ?_⟩
  refine PySem.Flt.log2_lt_of (by decide) (Nat.lt_trans (m := 2 ^ 1000) ?_ (by decide +kernel))
  have e2 : ((2 ^ 1000 : Nat) : Int) = 2 ^ 1000 := by push_cast; rfl
  rw [← e2] at h
  generalize (2 : Nat) ^ 1000 = x at h ⊢
  omega
end Wk
set_option Elab.async false
set_option maxRecDepth 100000
set_option maxHeartbeats 4000000
set_option linter.all false
/-! M1: what all laws need: sizes, ranges with a step, what repr takes, the pot's state -/
namespace Wk
open PySem L2
open PyProof.Rows hiding St
theorem sm_small {a : Int} (h : a.natAbs ≤ 10 ^ 30) : Sm a := sm_lt h (by decide)
theorem sm_nat {a : Nat} (h : a ≤ 10 ^ 30) : Sm (a : Int) := sm_small (by omega)
theorem sm_pow {a k : Nat} (h : a ≤ 10 ^ k) (hk : k ≤ 1000) : Sm (a : Int) := sm_lt (b := 10 ^ 1000) (by rw [Int.natAbs_natCast]; exact Nat.le_trans h (Nat.pow_le_pow_right (by decide) hk)) (by decide +kernel)
theorem dv_nat {p : Nat} (hp : 0 < p) (hq : p < 10 ^ 40) : Dv (p : Int) := by
  refine dv_of (by omega) (Int.lt_trans (b := 10 ^ 40) (by omega) (by decide))
theorem dec_nat {a b : Nat} : decide ((a : Int) = (b : Int)) = decide (a = b) := decide_eq_decide.mpr (by omega)
theorem atI_nat {α : Type} {xs : List α} {i : Nat} (h : i < xs.length) : atI xs (i : Int) = xs[i]? := by
  unfold atI ixN
  rw [if_pos (by omega), if_pos (by omega)]
  simp
theorem atI_last {α : Type} {xs : List α} {n : Nat} (h : xs.length = n + 1) : atI xs (-1) = xs[n]? := by
  unfold atI ixN
  rw [if_neg (by decide), if_pos (by omega), h]
  show xs[(-1 + ((n + 1 : Nat) : Int)).toNat]? = _
  congr 1
  omega
theorem rs_pos {a b c : Int} (hc : 0 < c) : Builtin.Range.rangeSize a b c = if a < b then (b - a - 1) / c + 1 else 0 := by
  unfold Builtin.Range.rangeSize
  rw [if_pos (by omega)]
theorem mem_rng3 {a b c x : Int} (hc : 0 < c) : x ∈ rng3 a b c ↔ ∃ k : Nat, x = a + (k : Int) * c ∧ x < b := by
  unfold rng3
  rw [rs_pos hc, List.mem_map]
  constructor
  · rintro ⟨k, hk, rfl⟩
    refine ⟨k, rfl, ?_⟩
    have hk := List.mem_range.mp hk
    by_cases h : a < b
    · rw [if_pos h] at hk
      have : (k : Int) ≤ (b - a - 1) / c := by omega
      have := (Int.le_ediv_iff_mul_le hc).mp this
      omega
    · rw [if_neg h] at hk
      simp at hk
  · rintro ⟨k, rfl, hx⟩
    have h0 : 0 ≤ (k : Int) * c := Int.mul_nonneg (by omega) (by omega)
    refine ⟨k, List.mem_range.mpr ?_, rfl⟩
    rw [if_pos (by omega)]
    have : (k : Int) ≤ (b - a - 1) / c := (Int.le_ediv_iff_mul_le hc).mpr (by omega)
    omega
theorem rg3_ok {a b c : Int} (hc : 0 < c) (hc2 : c < 1000000) (ha : 0 ≤ a) (ha2 : a < 2 ^ 60) (hb : 0 ≤ b) (hb2 : b < 2 ^ 60) : Rg3 a b c := by
  have hq : 0 ≤ (b - a - 1) / c ∨ ¬ a < b := by
    by_cases h : a < b
    · exact .inl (Int.ediv_nonneg (by omega) (by omega))
    · exact .inr h
  have hq2 : (b - a - 1) / c ≤ 2 ^ 60 ∨ ¬ a < b := by
    by_cases h : a < b
    · refine .inl (Int.le_trans (Int.ediv_le_self _ (by omega)) (by omega))
    · exact .inr h
  refine ⟨by omega, by omega, ?_, ?_⟩
  · unfold Builtin.Range.small
    rw [rs_pos hc]
    simp only [Builtin.Range.rangeFitsLong, Bool.and_eq_true, Bool.or_eq_true, decide_eq_true_eq, beq_iff_eq, show c > 0 from hc, if_true]
    generalize (b - a - 1) / c = q at *
    split <;> omega
  · rw [rs_pos hc]
    generalize (b - a - 1) / c = q at *
    split <;> omega
def Shp (D B : Nat) (d : PyData) : Prop := d.depth ≤ D ∧ wt d ≤ B
theorem shp_int {i : Int} (h : i.natAbs < 10 ^ 40) : Shp 0 50 (.int i) := ⟨by simp only [PyData.depth]; exact Nat.le_refl _, by simp only [wt]; rw [if_pos h]; exact Nat.le_refl _⟩
theorem shp_big {i : Int} (h : i.natAbs.log2 < 12900) : Shp 0 13000 (.int i) := ⟨by simp only [PyData.depth]; exact Nat.le_refl _, by
  simp only [wt]
  split
  · decide
  · exact Nat.le_refl _⟩
theorem shp_all {D B : Nat} : ∀ {l : List PyData}, (∀ x ∈ l, Shp D B x) → PyData.depthAll l ≤ D ∧ wts l ≤ l.length * (B + 2)
  | [], _ => ⟨by simp only [PyData.depthAll]; omega, by simp only [wts]; omega⟩
  | x :: l, h => by
    obtain ⟨h1, h2⟩ := h x (List.mem_cons_self ..)
    obtain ⟨h3, h4⟩ := shp_all (l := l) fun y hy => h y (List.mem_cons_of_mem _ hy)
    refine ⟨by simp only [PyData.depthAll]; omega, ?_⟩
    simp only [wts]
    rw [List.length_cons, Nat.add_mul]
    omega
theorem shp_list {D B n : Nat} {l : List PyData} (hl : l.length ≤ n) (h : ∀ x ∈ l, Shp D B x) : Shp (D + 1) (n * (B + 2) + 3) (.list l) := by
  obtain ⟨h1, h2⟩ := shp_all h
  have := Nat.mul_le_mul_right (B + 2) hl
  exact ⟨by simp only [PyData.depth]; omega, by simp only [wt]; omega⟩
theorem shp_tup {D B n : Nat} {l : List PyData} (hl : l.length ≤ n) (h : ∀ x ∈ l, Shp D B x) : Shp (D + 1) (n * (B + 2) + 3) (.tuple l) := by
  obtain ⟨h1, h2⟩ := shp_all h
  have := Nat.mul_le_mul_right (B + 2) hl
  exact ⟨by simp only [PyData.depth]; omega, by simp only [wt]; omega⟩
theorem Shp.le {D B D' B' : Nat} {d : PyData} (h : Shp D B d) (h1 : D ≤ D') (h2 : B ≤ B') : Shp D' B' d := ⟨Nat.le_trans h.1 h1, Nat.le_trans h.2 h2⟩
theorem Shp.ok {D B : Nat} {d : PyData} (h : Shp D B d) (h1 : D ≤ 50) (h2 : B ≤ 16000000) : OkD d := ⟨Nat.le_trans h.1 h1, Nat.le_trans h.2 h2⟩
theorem cut_head {α : Type} (xs : List α) (n : Nat) : cut xs none (some (n : Int)) = xs.take n := by
  unfold cut HT.sIx
  simp only [List.drop_zero, Nat.sub_zero]
  rw [if_neg (by omega), Int.toNat_natCast]
  by_cases h : n ≤ xs.length
  · rw [Nat.min_eq_left h]
  · rw [Nat.min_eq_right (by omega), List.take_of_length_le (Nat.le_refl _), List.take_of_length_le (by omega)]
theorem bits_sm {i : Int} (h : Builtin.Int.intBits i ≤ 1048576) : i.natAbs.log2 ≤ 1048576 := by
  unfold Builtin.Int.intBits at h
  split at h
  · rename_i z
    have : i = 0 := by simpa using z
    subst this; decide
  · omega
theorem abs_if (i : Int) : (if i < 0 then -i else i) = (i.natAbs : Int) := by split <;> omega
/-- a lot of values whose sizes are small -/
theorem shp_bool {b : Bool} : Shp 0 50 (.bool b) := ⟨by simp only [PyData.depth]; exact Nat.le_refl _, by simp only [wt]; decide⟩
theorem shp_none : Shp 0 50 .none := ⟨by simp only [PyData.depth]; exact Nat.le_refl _, by simp only [wt]; decide⟩
theorem Shp.l1 {D B : Nat} {a : PyData} (h : Shp D B a) : ∀ x ∈ [a], Shp D B x := fun x hx => by rw [List.mem_singleton.mp hx]; exact h
theorem Shp.lc {D B : Nat} {a : PyData} {l : List PyData} (h : Shp D B a) (t : ∀ x ∈ l, Shp D B x) : ∀ x ∈ a :: l, Shp D B x := fun x hx => by
  rcases List.mem_cons.mp hx with e | e
  · rw [e]; exact h
  · exact t x e
theorem shp_nil {D B : Nat} : ∀ x ∈ ([] : List PyData), Shp D B x := fun x hx => nomatch hx
theorem shp_map {α : Type} {D B : Nat} {f : α → PyData} {l : List α} (h : ∀ a ∈ l, Shp D B (f a)) : ∀ x ∈ l.map f, Shp D B x := fun x hx => by
  obtain ⟨a, ha, rfl⟩ := List.mem_map.mp hx
  exact h a ha
/-- the pot, b draws may follow -/
structure Pot (s : PotT) (b : Nat) : Prop where
  g : ∀ c ∈ s.great, 0 ≤ c
  l : s.great.length ≤ 100
  m0 : 0 ≤ s.mix
  m1 : s.mix < 2 ^ 40
  t0 : 0 ≤ s.turn
  t1 : s.turn + b ≤ 10 ^ 9
theorem Pot.le {s : PotT} {b c : Nat} (h : Pot s b) (hc : c ≤ b) : Pot s c := ⟨h.g, h.l, h.m0, h.m1, h.t0, by have := h.t1; omega⟩
/-- ascending lists with the same items are one -/
theorem asc_eq : ∀ {l r : List Int}, l.Pairwise (· < ·) → r.Pairwise (· < ·) → (∀ x, x ∈ l ↔ x ∈ r) → l = r
  | [], [], _, _, _ => rfl
  | [], y :: r, _, _, h => absurd ((h y).mpr (List.mem_cons_self ..)) (by simp)
  | x :: l, [], _, _, h => absurd ((h x).mp (List.mem_cons_self ..)) (by simp)
  | x :: l, y :: r, h1, h2, h => by
    have a1 := List.pairwise_cons.mp h1
    have a2 := List.pairwise_cons.mp h2
    have e : x = y := by
      rcases List.mem_cons.mp ((h x).mp (List.mem_cons_self ..)) with z | z
      · exact z
      · rcases List.mem_cons.mp ((h y).mpr (List.mem_cons_self ..)) with w | w
        · exact w.symm
        · have b1 := a2.1 x z
          have b2 := a1.1 y w
          omega
    subst e
    congr 1
    refine asc_eq a1.2 a2.2 fun z => ?_
    constructor
    · intro hz
      rcases List.mem_cons.mp ((h z).mp (List.mem_cons_of_mem _ hz)) with w | w
      · have := a1.1 z hz
        rw [w] at this; omega
      · exact w
    · intro hz
      rcases List.mem_cons.mp ((h z).mpr (List.mem_cons_of_mem _ hz)) with w | w
      · have := a2.1 z hz
        rw [w] at this; omega
      · exact w
theorem rng3_asc {a b c : Int} (hc : 0 < c) : (rng3 a b c).Pairwise (· < ·) := by
  unfold rng3
  rw [List.pairwise_map]
  refine List.Pairwise.imp ?_ List.pairwise_lt_range
  intro i j h
  have : (i : Int) * c < (j : Int) * c := Int.mul_lt_mul_of_pos_right (by omega) hc
  omega
theorem rng_asc {a b : Int} : (rng a b).Pairwise (· < ·) := by
  unfold rng
  rw [List.pairwise_map]
  refine List.Pairwise.imp ?_ List.pairwise_lt_range
  intro i j h
  omega
end Wk
set_option Elab.async false
set_option maxRecDepth 100000
set_option maxHeartbeats 4000000
set_option linter.all false
/-! M2: steps that go by themselves -/
namespace Wk
open PySem L2
open PyProof.Rows hiding St
theorem dv_s {a : Int} (h0 : 0 < a) (h : a < 10 ^ 40) : Dv a := dv_of h0 (Int.lt_trans (b := 10 ^ 40) h (by decide))
theorem least {P : Nat → Prop} [DecidablePred P] : ∀ {k : Nat}, P k → ∃ j, j ≤ k ∧ P j ∧ ∀ i, i < j → ¬ P i
  | 0, h => ⟨0, Nat.le_refl _, h, fun i hi => absurd hi (Nat.not_lt_zero i)⟩
  | k + 1, h => by
    by_cases z : ∃ i, i ≤ k ∧ P i
    · obtain ⟨i, h1, h2⟩ := z
      obtain ⟨j, h3, h4, h5⟩ := least (k := i) h2
      exact ⟨j, by omega, h4, h5⟩
    · exact ⟨k + 1, Nat.le_refl _, h, fun i hi hp => z ⟨i, by omega, hp⟩⟩
/-- no more unlike numbers than there are -/
theorem nd_len : ∀ {l r : List Nat}, l.Nodup → (∀ x ∈ l, x ∈ r) → l.length ≤ r.length
  | [], r, _, _ => Nat.zero_le _
  | x :: l, r, hl, h => by
    have a := List.nodup_cons.mp hl
    have hx := h x (List.mem_cons_self ..)
    have e := nd_len (l := l) (r := r.erase x) a.2 fun y hy => (List.mem_erase_of_ne (by rintro rfl; exact a.1 hy)).mpr (h y (List.mem_cons_of_mem _ hy))
    rw [List.length_erase_of_mem hx] at e
    have := List.length_pos_of_mem hx
    rw [List.length_cons]; omega
/-- unlike values below n -/
theorem few_below {f : Nat → Nat} {k n : Nat} (h : ∀ i, i < k → f i < n) (hu : ∀ i j, i < j → j < k → f i ≠ f j) : k ≤ n := by
  have h1 : ((List.range k).map f).Nodup := by
    rw [List.nodup_iff_pairwise_ne, List.pairwise_map]
    refine List.Pairwise.imp_of_mem ?_ List.pairwise_lt_range
    intro a b ha hb hab
    exact hu a b hab (List.mem_range.mp hb)
  have := nd_len (r := List.range n) h1 fun x hx => by
    obtain ⟨i, hi, rfl⟩ := List.mem_map.mp hx
    exact List.mem_range.mpr (h i (List.mem_range.mp hi))
  rw [List.length_map, List.length_range, List.length_range] at this
  exact this
end Wk
set_option Elab.async false
set_option maxRecDepth 100000
set_option maxHeartbeats 4000000
set_option linter.all false
/-! W17: sorted(set(xs)), xs a list of ints -/
namespace Wk
open PySem PySem.Spec L2
open PyProof.Rows hiding St
/-- each but once -/
def dd : List Int → List Int
  | [] => []
  | x :: r => if x ∈ dd r then dd r else x :: dd r
theorem dd_mem : ∀ {l : List Int} {k : Int}, k ∈ dd l ↔ k ∈ l
  | [], k => Iff.rfl
  | x :: r, k => by
    unfold dd
    split
    · rename_i h
      rw [dd_mem, List.mem_cons]
      constructor
      · exact .inr
      · rintro (rfl | q)
        · exact dd_mem.mp h
        · exact q
    · rw [List.mem_cons, List.mem_cons, dd_mem]
theorem dd_nodup : ∀ l : List Int, (dd l).Nodup
  | [] => List.nodup_nil
  | x :: r => by
    unfold dd
    split
    · exact dd_nodup r
    · rename_i h
      exact List.nodup_cons.mpr ⟨h, dd_nodup r⟩
theorem nodup_len {a b : List Int} (ha : a.Nodup) (hb : b.Nodup) (h : ∀ k, k ∈ a ↔ k ∈ b) : a.length = b.length :=
  Nat.le_antisymm (ha.length_le_of_subset fun k hk => (h k).mp hk) (hb.length_le_of_subset fun k hk => (h k).mpr hk)
theorem srt_dd {ns l : List Int} (h1 : ns.Pairwise (· < ·)) (h2 : ∀ k, k ∈ ns ↔ k ∈ l) : ns = srt (dd l) := by
  refine asc_eq h1 ?_ fun k => by rw [h2, (srt_perm _).mem_iff, dd_mem]
  have hn : (srt (dd l)).Nodup := (srt_perm _).nodup_iff.mpr (dd_nodup l)
  exact (List.Pairwise.and (srt_sorted (dd l)) hn).imp fun {a b} h => by have h1 : a ≤ b := h.1; have h2 : a ≠ b := h.2; omega
theorem SetR.card {w : World} {h : Heap} {a : Addr} {l : List Int} {n : Nat} (R : SetR w h a (fun j => decide (j ∈ l)) n) : n = (dd l).length := by
  obtain ⟨o, es, ep, t, _, _, _, _, nd, hm, _, _, hn, _⟩ := R
  rw [← hn, ← nodup_len nd (dd_nodup l) fun k => by rw [← hm, dd_mem, decide_eq_true_iff], List.length_map, Array.length_toList]
def rSetI (K : PySem.W.Frag) (w : World) : List V → Hp → VK → Prop := fun vs H Q => ∃ (a : Addr) (ns : List Int), vs = [V.ref a] ∧ SqL K H a (ns.map V.int) ∧ ns.length + 1 < scanBound ∧
  ∀ p, H p = none → Q (.ref p) (upd H p (SetO w p (fun j => decide (j ∈ ns)) (dd ns).length))
section
variable {X : Cx}
theorem cr_setI (hc : X.calm = true) : CallR X (.type "set") (rSetI X.K X.w) := by
  intro pins s σ H xs us Q I r h
  obtain ⟨a, ns, rfl, hs, hb, q⟩ := h
  obtain ⟨its, rv, hl, hz⟩ := I.list hs
  rw [Vals.ref1 r]
  refine set_ints (I.ok.hd hc) hl.isList rv.ints hb fun h' tk c R hcn hk => ?_
  have e := SetR.card R
  subst e
  exact ⟨.ref _, upd H s.heap.objs.size (SetO X.w s.heap.objs.size (fun j => decide (j ∈ ns)) (dd ns).length), I.laid (t' := tk) (fun b u z => hk b u z) (Nat.le_refl _) (setO_new R), rfl, q _ (I.hok.fresh (Nat.le_refl _))⟩
theorem k_setI (K : PySem.W.Frag) (hc : X.calm = true := by rfl) (h : X.K = K := by rfl) : CallR X (.type "set") (rSetI K X.w) := h ▸ cr_setI hc
theorem k_srtS (hc : X.calm = true := by rfl) : CallR X (.builtin "sorted") (rSortedSet X.w) := cr_sortedSet hc
end
section
variable {μ : Type → Type} {τ : Type} [Mir μ τ] {β : Type} {p : Pt τ} {σ : St} {S H : Hp} {te : TE} {K : PySem.W.Frag} {w : World}
theorem l_srtSet {m : (List Int → μ β) → μ β} (h : EvR p te σ S H m (aAll rI)) : EvL p (tCB (rSortedSet w) (tCons (tCB (rSetI K w) (tCons te tNil)) tNil)) σ S H (fun k => m fun xs => Mir.lft (grd (xs.length < 4000 ∧ (dd xs).length < 64)) >>= fun _ => k (srt (dd xs))) (aAll rI) := fun S1 H1 s g ps k z hm Q q =>
  h S1 H1 s g ps _ z hm _ fun xs x vs S2 H2 s2 g2 p2 e2 m2 r2 hm2 => by
    obtain ⟨_, eg, hm3⟩ := run_of_lft hm2
    have hg := grd_of eg
    refine ⟨x, xs, rfl, .of (by rw [e2, All.ints r2]), by have := hg.1; unfold scanBound; omega, fun y hy => ?_⟩
    have g3 : Gm p.M S2 H2 S2 (upd H2 y (SetO w y (fun j => decide (j ∈ xs)) (dd xs).length)) := Gm.own g2.i hy
    refine ⟨y, _, _, rfl, upd_same, hg.2, fun ns u h1 h2 h3 hu => ?_⟩
    have e : ns = srt (dd xs) := srt_dd h1 fun k => by rw [h2, decide_eq_true_iff]
    subst e
    have g4 := (g2.tr g3)
    exact q (srt (dd xs)) u _ S2 _ s2 (g4.tr (Gm.own g3.i hu)) ((p2.go (Gm.own g2.i hy)).go (Gm.own g3.i hu)) (back_none g4 hu) upd_same (g3.i.no hu) (new_nM (p2.go (Gm.own g2.i hy)) hu) (All.ofInts _) hm3
end
section
variable {X : Cx} {o e : Expr} {es : List Expr} {to : TE} {t : TA} {name : Str} {apos cpos : Pos} {T id : String} {r : V → List V → Hp → VK → Prop}
/-- a method's call, the frame told ahead (for comprehensions) -/
theorem pe_bmK (K : PySem.W.Frag) (pa : PlainAttrs T) (slot : Slot T name id) (hty : typeOf (.builtin id) = pure (.type "method_descriptor")) (hm : MtR X id r) (ho : PE X o to) (ha : PA X (e :: es) t) (h : X.K = K := by rfl)
    (h1 : attributeBase o name X.env (eval o X.env) = eval o X.env := by rfl)
    (h2 : ((backTo cpos (starEach (e :: es) X.env)).all (fun x => !x.1) && (backToKw cpos (keywordEach [] X.env)).all (fun x => x.1.isSome) && decide ((e :: es).length + ([] : List Keyword).length + (if ([] : List Keyword).isEmpty then 0 else 1) < 30)) = true := by rfl)
    (h3 : (apos.endLine == cpos.line) = true := by rfl) (h4 : starEach (e :: es) X.env = (false, eval e X.env) :: starEach es X.env := by rfl) (h5 : (backTo cpos (starEach es X.env)).any (·.1) = false := by rfl) :
    PE X (.Call (.Attribute o name apos) (e :: es) [] cpos) (tBM K T r to t) := h ▸ pe_bm pa slot hty hm ho ha h1 h2 h3 h4 h5
end
end Wk
set_option Elab.async false
set_option maxRecDepth 100000
set_option maxHeartbeats 4000000
set_option linter.all false
/-! W18: zip of a list and a tuple, in any order; dict(zip(..)) -/
namespace Wk
open PySem PySem.Spec
/-- what is walked by next: n items -/
structure Wlk (P : Program) (w : World) (i l : Addr) (n : Nat) (f : Nat → Value) (St : Nat → Heap → Prop) : Prop where
  i0 : ∀ {k h}, St k h → ∃ o fs, h.get? i = some o ∧ o.data = .fields fs
  l0 : ∀ {k h}, St k h → ∃ o, h.get? l = some o
  kp : ∀ {k h h'}, St k h → (∀ o, h.get? i = some o → h'.get? i = some o) → (∀ o, h.get? l = some o → h'.get? l = some o) → St k h'
  go : ∀ {A : Around} {E : Value → Shared → Prop} {s : Shared} {k : Nat} {Q : Value → Shared → Prop}, St k s.heap → k < n →
    (∀ h', St (k + 1) h' → Heap.SameBut i s.heap h' → Q (f k) { s with heap := h' }) → wpAny (model P w) A (Builtin.SmallTypes.nextOf (.ref i)) Q E s
  no : ∀ {A : Around} {E : Value → Shared → Prop} {s : Shared} {Q : Value → Shared → Prop}, A.handled = none → St n s.heap →
    (∀ h' e, Heap.ExtBut i s.heap h' → (∃ o, h'.get? e = some o ∧ o.cls = .type "StopIteration") → E (.ref e) { s with heap := h' }) → wpAny (model P w) A (Builtin.SmallTypes.nextOf (.ref i)) Q E s
theorem wlkL {P : Program} {w : World} {i l : Addr} {items : Array Value} (ne : l ≠ i) : Wlk P w i l items.size (fun k => items.getD k .none) (fun k h => h.IsListIter i l k ∧ h.IsList l items) where
  i0 := fun ⟨⟨o, a, _, b⟩, _⟩ => ⟨o, _, a, b⟩
  l0 := fun ⟨_, o, a, _⟩ => ⟨o, a⟩
  kp := fun st a b => ⟨st.1.at a, st.2.at b⟩
  go := fun st hk hQ => wpAny_nextOf_list_item st.1 st.2 (by rw [Array.getD_eq_getD_getElem?, Array.getElem?_eq_getElem hk]; rfl) fun h' a b => hQ h' ⟨a, st.2.extBut b.extBut ne⟩ b
  no := fun hh st hE => wpAny_nextOf_list_end hh st.1 st.2 (Array.getElem?_eq_none (Nat.le_refl _)) hE
theorem wlkT {P : Program} {w : World} {i l : Addr} {items : Array Value} (ne : l ≠ i) : Wlk P w i l items.size (fun k => items.getD k .none) (fun k h => h.IsTupleIter i l k ∧ h.IsTuple l items) where
  i0 := fun ⟨⟨o, a, _, b⟩, _⟩ => ⟨o, _, a, b⟩
  l0 := fun ⟨_, o, a, _⟩ => ⟨o, a⟩
  kp := fun st a b => ⟨st.1.at a, st.2.at b⟩
  go := fun st hk hQ => RZ.nextOf_tuple_item st.1 st.2 (by rw [Array.getD_eq_getD_getElem?, Array.getElem?_eq_getElem hk]; rfl) fun h' a b => hQ h' ⟨a, st.2.extBut b.extBut ne⟩ b
  no := fun hh st hE => RZ.nextOf_tuple_end hh st.1 st.2 (Array.getElem?_eq_none (Nat.le_refl _)) hE
section
variable {P : Program} {w : World} {A : Around} {E : Value → Shared → Prop} {s : Shared} {z TI TO i1 i2 l1 l2 : Addr} {n1 n2 k1 k2 : Nat} {f g : Nat → Value} {S1 S2 : Nat → Heap → Prop}
theorem Wlk.ext {i l : Addr} {n : Nat} {f : Nat → Value} {St : Nat → Heap → Prop} (W : Wlk P w i l n f St) {k : Nat} {h h' : Heap} {c : Addr} (st : St k h) (x : Heap.ExtBut c h h') (a : i ≠ c) (b : l ≠ c) : St k h' :=
  W.kp st (fun o e => x i o a e) fun o e => x l o b e
/-- the next pair, while the one before has gone -/
theorem zx_item {a b : Value} {Q : Value → Shared → Prop} (D : ZipApart z TI TO i1 i2 l1 l2) (W1 : Wlk P w i1 l1 n1 f S1) (W2 : Wlk P w i2 l2 n2 g S2) (Hz : IsZip s.heap z TI TO .none) (HI : IsPair s.heap TI (.ref i1) (.ref i2)) (HO : IsPair s.heap TO a b)
    (s1 : S1 k1 s.heap) (s2 : S2 k2 s.heap) (e1 : k1 < n1) (e2 : k2 < n2)
    (fin : ∀ h', IsZip h' z TI TO (rawInt s.heap.objs.size) → IsPair h' TO (f k1) (g k2) → S1 (k1 + 1) h' → S2 (k2 + 1) h' → IsPair h' s.heap.objs.size (f k1) (g k2) → h'.objs.size = s.heap.objs.size + 1 →
      (∀ c o, c ≠ z → c ≠ TO → c ≠ i1 → c ≠ i2 → s.heap.get? c = some o → h'.get? c = some o) → Q (.ref s.heap.objs.size) { s with heap := h' }) :
    wpAny (model P w) A (Builtin.«zip.__next__» ⟨[.ref z], []⟩) (fun r s' => ∃ v, r = .done (.ret v) ∧ Q v s') E s := by
  change wpAny _ A (field (.ref z) 2 >>= _) _ E s
  refine wpAny_bind (wpAny_field Hz rfl (x := .bool false) rfl ?_)
  change wpAny _ A (field (.ref z) 3 >>= _) _ E s
  refine wpAny_bind (wpAny_field Hz rfl (x := .ref TI) rfl (wpAny_bind (wpAny_seqItems HI rfl ?_)))
  change wpAny _ A (Builtin.SmallTypes.ownedTupleIsFree (.ref z) >>= _) _ E s
  refine wpAny_bind ?_
  (unfold Builtin.SmallTypes.ownedTupleIsFree; refine wpAny_bind (wpAny_field Hz rfl (x := .none) rfl (wpAny_pure ?_)); simp only [if_true])
  refine wpAny_bind (wpAny_rule (wpAny_bind (wpAny_field Hz rfl (x := .ref TO) rfl (wpAny_bind (wpAny_setField_rec Hz (by simp) fun u1 Hz1 c1 => ?_)))))
  have Hz1 : IsZip u1 z TI TO .ellipsis := Hz1
  simp only [List.forIn_cons, List.forIn_nil, List.zipIdx_cons, List.zipIdx_nil]
  refine wpAny_bind (wpAny_bind (wpAny_bind (wpAny_onRaise ?_)))
  change wpAny _ _ (Builtin.SmallTypes.nextOf (.ref i1) >>= _) _ _ _
  have s1a : S1 k1 u1 := W1.ext s1 c1.extBut D.i1z D.l1z
  refine wpAny_bind (W1.go s1a e1 fun u2 s1b c2 => wpAny_pure ?_)
  have HO2 : IsPair u2 TO a b := c2.extBut TO _ D.TOi1 (c1.extBut TO _ D.TOz HO)
  refine wpAny_bind (wpAny_seqItems HO2 rfl (wpAny_bind (wpAny_updateSeq_pair HO2 fun u3 HO3 c3 => ?_)))
  have HO3 : IsPair u3 TO (f k1) b := HO3
  refine wpAny_bind (wpAny_letGo (wpAny_pure (wpAny_bind (wpAny_bind (wpAny_onRaise ?_)))))
  change wpAny _ _ (Builtin.SmallTypes.nextOf (.ref i2) >>= _) _ _ _
  have s2a : S2 k2 u3 := W2.ext (W2.ext (W2.ext s2 c1.extBut D.i2z D.l2z) c2.extBut D.i12.symm D.l2i1) c3.extBut D.TOi2.symm D.l2TO
  refine wpAny_bind (W2.go s2a e2 fun u4 s2b c4 => wpAny_pure ?_)
  have HO4 : IsPair u4 TO (f k1) b := c4.extBut TO _ D.TOi2 HO3
  refine wpAny_bind (wpAny_seqItems HO4 rfl (wpAny_bind (wpAny_updateSeq_pair HO4 fun u5 HO5 c5 => ?_)))
  have HO5 : IsPair u5 TO (f k1) (g k2) := HO5
  refine wpAny_bind (wpAny_letGo (wpAny_pure (wpAny_pure (wpAny_bind (wpAny_seqItems HO5 rfl (wpAny_bind (wpAny_newTuple ?_)))))))
  have sz : u5.objs.size = s.heap.objs.size := by rw [c5.1, c4.1, c3.1, c2.1, c1.1]
  have Hz5 : IsZip u5 z TI TO .ellipsis := c5.extBut z _ D.TOz.symm (c4.extBut z _ D.i2z.symm (c3.extBut z _ D.TOz.symm (c2.extBut z _ D.i1z.symm Hz1)))
  have kp5 : ∀ c o, c ≠ z → c ≠ TO → c ≠ i1 → c ≠ i2 → s.heap.get? c = some o → u5.get? c = some o := fun c o q1 q2 q3 q4 e => c5.extBut c o q2 (c4.extBut c o q4 (c3.extBut c o q2 (c2.extBut c o q3 (c1.extBut c o q1 e))))
  have s1c : S1 (k1 + 1) u5 := W1.ext (W1.ext (W1.ext s1b c3.extBut D.TOi1.symm D.l1TO) c4.extBut D.i12 D.l1i2) c5.extBut D.TOi1.symm D.l1TO
  have s2c : S2 (k2 + 1) u5 := W2.ext s2b c5.extBut D.TOi2.symm D.l2TO
  have zl : z < u5.objs.size := Heap.lt_size Hz5
  change wpAny _ _ (Builtin.SmallTypes.ownedTupleHandOut (.ref z) (.ref u5.objs.size) >>= _) _ _ _
  refine wpAny_bind ?_
  (unfold Builtin.SmallTypes.ownedTupleHandOut; skip)
  have Hz6 : IsZip (u5.push { cls := .type "tuple", data := .seq #[f k1, g k2] }) z TI TO .ellipsis := Heap.get?_push_of_some _ Hz5
  refine wpAny_bind (wpAny_setField_rec Hz6 (by simp) fun u7 Hz7 c7 => ?_)
  have Hz7 : IsZip u7 z TI TO (rawInt u5.objs.size) := Hz7
  refine wpAny_setField_rec Hz7 (by simp) fun u8 Hz8 c8 => ?_
  have Hz8 : IsZip u8 z TI TO (rawInt u5.objs.size) := Hz8
  have up : ∀ c o, c ≠ z → u5.get? c = some o → u8.get? c = some o := fun c o q e => c8.extBut c o q (c7.extBut c o q (Heap.get?_push_of_some _ e))
  have T8 : IsPair u8 u5.objs.size (f k1) (g k2) := c8.extBut _ _ (Nat.ne_of_gt zl) (c7.extBut _ _ (Nat.ne_of_gt zl) (Heap.get?_push_size _ rfl))
  have sz8 : u8.objs.size = u5.objs.size + 1 := by rw [c8.1, c7.1, Heap.size_push]
  rw [sz] at Hz8 T8 sz8
  refine wpAny_pure ⟨_, rfl, ?_⟩
  change Q (.ref u5.objs.size) _
  rw [sz]
  exact fin u8 Hz8 (up TO _ D.TOz HO5) (W1.kp s1c (fun o => up i1 o D.i1z) fun o => up l1 o D.l1z) (W2.kp s2c (fun o => up i2 o D.i2z) fun o => up l2 o D.l2z) T8 sz8 fun c o q1 q2 q3 q4 e => up c o q1 (kp5 c o q1 q2 q3 q4 e)
/-- .. the shorter one has come to its end -/
theorem zx_end {k : Nat} {a b : Value} {Q : Fin → Shared → Prop} (hh : A.handled = none) (D : ZipApart z TI TO i1 i2 l1 l2) (W1 : Wlk P w i1 l1 n1 f S1) (W2 : Wlk P w i2 l2 n2 g S2) (Hz : IsZip s.heap z TI TO .none) (HI : IsPair s.heap TI (.ref i1) (.ref i2)) (HO : IsPair s.heap TO a b)
    (s1 : S1 k s.heap) (s2 : S2 k s.heap) (en : k = n1 ∨ (k < n1 ∧ k = n2))
    (fin : ∀ h' e, (∀ c o, c ≠ z → c ≠ TO → c ≠ i1 → c ≠ i2 → s.heap.get? c = some o → h'.get? c = some o) → (∃ o, h'.get? e = some o ∧ o.cls = .type "StopIteration") → E (.ref e) { s with heap := h' }) :
    wpAny (model P w) A (Builtin.«zip.__next__» ⟨[.ref z], []⟩) Q E s := by
  change wpAny _ A (field (.ref z) 2 >>= _) _ E s
  refine wpAny_bind (wpAny_field Hz rfl (x := .bool false) rfl ?_)
  change wpAny _ A (field (.ref z) 3 >>= _) _ E s
  refine wpAny_bind (wpAny_field Hz rfl (x := .ref TI) rfl (wpAny_bind (wpAny_seqItems HI rfl ?_)))
  change wpAny _ A (Builtin.SmallTypes.ownedTupleIsFree (.ref z) >>= _) _ E s
  refine wpAny_bind ?_
  (unfold Builtin.SmallTypes.ownedTupleIsFree; refine wpAny_bind (wpAny_field Hz rfl (x := .none) rfl (wpAny_pure ?_)); simp only [if_true])
  refine wpAny_bind (wpAny_rule (wpAny_bind (wpAny_field Hz rfl (x := .ref TO) rfl (wpAny_bind (wpAny_setField_rec Hz (by simp) fun u1 Hz1 c1 => ?_)))))
  have Hz1 : IsZip u1 z TI TO .ellipsis := Hz1
  simp only [List.forIn_cons, List.forIn_nil, List.zipIdx_cons, List.zipIdx_nil]
  refine wpAny_bind (wpAny_bind (wpAny_bind (wpAny_onRaise ?_)))
  change wpAny _ _ (Builtin.SmallTypes.nextOf (.ref i1) >>= _) _ _ _
  have s1a : S1 k u1 := W1.ext s1 c1.extBut D.i1z D.l1z
  rcases en with rfl | ⟨lt, rfl⟩
  · refine wpAny_bind (W1.no hh s1a fun u2 e c2 he => ?_)
    obtain ⟨oe, he1, he2⟩ := he
    have Hz2 : IsZip u2 z TI TO .ellipsis := c2 z _ D.i1z.symm Hz1
    have ez : e ≠ z := fun x => by subst x; rw [Hz2] at he1; cases he1; simp at he2
    exact wpAny_setField_rec Hz2 (by simp) fun u3 _ c3 => fin u3 e (fun c o q1 _ q3 _ x => c3.extBut c o q1 (c2 c o q3 (c1.extBut c o q1 x))) ⟨oe, c3.extBut e oe ez he1, he2⟩
  · refine wpAny_bind (W1.go s1a lt fun u2 s1b c2 => wpAny_pure ?_)
    have HO2 : IsPair u2 TO a b := c2.extBut TO _ D.TOi1 (c1.extBut TO _ D.TOz HO)
    refine wpAny_bind (wpAny_seqItems HO2 rfl (wpAny_bind (wpAny_updateSeq_pair HO2 fun u3 HO3 c3 => ?_)))
    refine wpAny_bind (wpAny_letGo (wpAny_pure (wpAny_bind (wpAny_bind (wpAny_onRaise ?_)))))
    change wpAny _ _ (Builtin.SmallTypes.nextOf (.ref i2) >>= _) _ _ _
    have s2a : S2 k u3 := W2.ext (W2.ext (W2.ext s2 c1.extBut D.i2z D.l2z) c2.extBut D.i12.symm D.l2i1) c3.extBut D.TOi2.symm D.l2TO
    refine wpAny_bind (W2.no hh s2a fun u4 e c4 he => ?_)
    obtain ⟨oe, he1, he2⟩ := he
    have Hz4 : IsZip u4 z TI TO .ellipsis := c4 z _ D.i2z.symm (c3.extBut z _ D.TOz.symm (c2.extBut z _ D.i1z.symm Hz1))
    have ez : e ≠ z := fun x => by subst x; rw [Hz4] at he1; cases he1; simp at he2
    exact wpAny_setField_rec Hz4 (by simp) fun u5 _ c5 => fin u5 e (fun c o q1 q2 q3 q4 x => c5.extBut c o q1 (c4 c o q4 (c3.extBut c o q2 (c2.extBut c o q3 (c1.extBut c o q1 x))))) ⟨oe, c5.extBut e oe ez he1, he2⟩
/-- the next pair, while the one before is still held -/
theorem zh_item {T : Addr} {fl : Bool} {oT : Obj} {Q : Value → Shared → Prop} (D : ZipApart z TI TO i1 i2 l1 l2) (W1 : Wlk P w i1 l1 n1 f S1) (W2 : Wlk P w i2 l2 n2 g S2) (Hz : IsZipHeld s.heap z TI TO T fl) (HT : s.heap.get? T = some oT) (HI : IsPair s.heap TI (.ref i1) (.ref i2))
    (s1 : S1 k1 s.heap) (s2 : S2 k2 s.heap) (e1 : k1 < n1) (e2 : k2 < n2)
    (fin : ∀ h', IsZipHeld h' z TI TO T true → S1 (k1 + 1) h' → S2 (k2 + 1) h' → IsPair h' s.heap.objs.size (f k1) (g k2) → h'.objs.size = s.heap.objs.size + 1 →
      (∀ c o, c ≠ z → c ≠ i1 → c ≠ i2 → s.heap.get? c = some o → h'.get? c = some o) → Q (.ref s.heap.objs.size) { s with heap := h' }) :
    wpAny (model P w) A (Builtin.«zip.__next__» ⟨[.ref z], []⟩) (fun r s' => ∃ v, r = .done (.ret v) ∧ Q v s') E s := by
  change wpAny _ A (field (.ref z) 2 >>= _) _ E s
  refine wpAny_bind (wpAny_field Hz rfl (x := .bool false) rfl ?_)
  change wpAny _ A (field (.ref z) 3 >>= _) _ E s
  refine wpAny_bind (wpAny_field Hz rfl (x := .ref TI) rfl (wpAny_bind (wpAny_seqItems HI rfl ?_)))
  change wpAny _ A (Builtin.SmallTypes.ownedTupleIsFree (.ref z) >>= _) _ E s
  refine wpAny_bind (wpAny_tupleHeld_zip Hz HT fun u1 Hz1 c1 => ?_)
  simp only [if_false, Bool.false_eq_true]
  rw [← Array.forIn_toList]; simp only [List.forIn_nil, List.forIn_cons]
  refine wpAny_bind (wpAny_bind (wpAny_bind (wpAny_holding ?_)))
  change wpAny _ _ (Builtin.SmallTypes.nextOf (.ref i1) >>= _) _ _ _
  have s1a : S1 k1 u1 := W1.ext s1 c1.extBut D.i1z D.l1z
  refine wpAny_bind (W1.go s1a e1 fun u2 s1b c2 => wpAny_pure (wpAny_pure (wpAny_bind (wpAny_bind (wpAny_holding ?_)))))
  change wpAny _ _ (Builtin.SmallTypes.nextOf (.ref i2) >>= _) _ _ _
  have s2a : S2 k2 u2 := W2.ext (W2.ext s2 c1.extBut D.i2z D.l2z) c2.extBut D.i12.symm D.l2i1
  refine wpAny_bind (W2.go s2a e2 fun u3 s2b c3 => wpAny_pure (wpAny_pure (wpAny_pure ?_)))
  change wpAny _ _ (newTuple [f k1, g k2] >>= _) _ _ _
  refine wpAny_bind (wpAny_newTuple ?_)
  have sz : u3.objs.size = s.heap.objs.size := by rw [c3.1, c2.1, c1.1]
  have Hz3 : IsZipHeld u3 z TI TO T true := c3.extBut z _ D.i2z.symm (c2.extBut z _ D.i1z.symm Hz1)
  have kp : ∀ c o, c ≠ z → c ≠ i1 → c ≠ i2 → s.heap.get? c = some o → u3.get? c = some o := fun c o q1 q2 q3 e => c3.extBut c o q3 (c2.extBut c o q2 (c1.extBut c o q1 e))
  have s1c : S1 (k1 + 1) u3 := W1.ext s1b c3.extBut D.i12 D.l1i2
  refine wpAny_pure ⟨_, rfl, ?_⟩
  change Q (.ref u3.objs.size) _
  have T4 : IsPair (u3.push { cls := .type "tuple", data := .seq #[f k1, g k2] }) u3.objs.size (f k1) (g k2) := Heap.get?_push_size _ rfl
  have sz4 : (u3.push { cls := .type "tuple", data := .seq #[f k1, g k2] }).objs.size = u3.objs.size + 1 := Heap.size_push ..
  rw [sz] at T4 sz4 ⊢
  exact fin _ (Heap.get?_push_of_some _ Hz3) (W1.kp s1c (fun o => Heap.get?_push_of_some _) fun o => Heap.get?_push_of_some _) (W2.kp s2b (fun o => Heap.get?_push_of_some _) fun o => Heap.get?_push_of_some _) T4 sz4 fun c o q1 q2 q3 e => Heap.get?_push_of_some _ (kp c o q1 q2 q3 e)
theorem zh_end {k : Nat} {T : Addr} {fl : Bool} {oT : Obj} {Q : Fin → Shared → Prop} (hh : A.handled = none) (D : ZipApart z TI TO i1 i2 l1 l2) (W1 : Wlk P w i1 l1 n1 f S1) (W2 : Wlk P w i2 l2 n2 g S2) (Hz : IsZipHeld s.heap z TI TO T fl) (HT : s.heap.get? T = some oT) (HI : IsPair s.heap TI (.ref i1) (.ref i2))
    (s1 : S1 k s.heap) (s2 : S2 k s.heap) (en : k = n1 ∨ (k < n1 ∧ k = n2))
    (fin : ∀ h' e, (∀ c o, c ≠ z → c ≠ i1 → c ≠ i2 → s.heap.get? c = some o → h'.get? c = some o) → (∃ o, h'.get? e = some o ∧ o.cls = .type "StopIteration") → E (.ref e) { s with heap := h' }) :
    wpAny (model P w) A (Builtin.«zip.__next__» ⟨[.ref z], []⟩) Q E s := by
  change wpAny _ A (field (.ref z) 2 >>= _) _ E s
  refine wpAny_bind (wpAny_field Hz rfl (x := .bool false) rfl ?_)
  change wpAny _ A (field (.ref z) 3 >>= _) _ E s
  refine wpAny_bind (wpAny_field Hz rfl (x := .ref TI) rfl (wpAny_bind (wpAny_seqItems HI rfl ?_)))
  change wpAny _ A (Builtin.SmallTypes.ownedTupleIsFree (.ref z) >>= _) _ E s
  refine wpAny_bind (wpAny_tupleHeld_zip Hz HT fun u1 Hz1 c1 => ?_)
  simp only [if_false, Bool.false_eq_true]
  rw [← Array.forIn_toList]; simp only [List.forIn_nil, List.forIn_cons]
  refine wpAny_bind (wpAny_bind (wpAny_bind (wpAny_holding ?_)))
  change wpAny _ _ (Builtin.SmallTypes.nextOf (.ref i1) >>= _) _ _ _
  have s1a : S1 k u1 := W1.ext s1 c1.extBut D.i1z D.l1z
  rcases en with rfl | ⟨lt, rfl⟩
  · exact wpAny_bind (W1.no hh s1a fun u2 e c2 he => fin u2 e (fun c o q1 q2 _ x => c2 c o q2 (c1.extBut c o q1 x)) he)
  · refine wpAny_bind (W1.go s1a lt fun u2 s1b c2 => wpAny_pure (wpAny_pure (wpAny_bind (wpAny_bind (wpAny_holding ?_)))))
    change wpAny _ _ (Builtin.SmallTypes.nextOf (.ref i2) >>= _) _ _ _
    have s2a : S2 k u2 := W2.ext (W2.ext s2 c1.extBut D.i2z D.l2z) c2.extBut D.i12.symm D.l2i1
    exact wpAny_bind (W2.no hh s2a fun u3 e c3 he => fin u3 e (fun c o q1 q2 q3 x => c3 c o q3 (c2.extBut c o q2 (c1.extBut c o q1 x))) he)
/-- next as Python asks it -/
theorem nx_some {z : Addr} (Ht : s.TypeIs (.ref z) "zip") {Q : Option Value → Shared → Prop}
    (h : ∀ (B : Around) (F : Value → Shared → Prop), (A.handled = none → B.handled = none) → wpAny (model P w) B (Builtin.«zip.__next__» ⟨[.ref z], []⟩) (fun r s' => ∃ v, r = .done (.ret v) ∧ Q (some v) s') F s) :
    wpAny (model P w) A (pyNext (.ref z)) Q E s := by
  unfold pyNext
  refine wpAny_bind (wpAny_attempt (wpAny_callSpecial?_slot (name := Str.ofString "__next__") Ht F.slot_zip_next (wpAny_call_entry F.slot_zip_next Ht F.entry_zip_next ?_ (F.args_zip_next_1 _))))
  refine wpAny_mono (h _ _ fun q => q) (fun r s' ⟨v, e, q⟩ => ⟨v, e, wpAny_pure q⟩) fun e s' q => q
theorem nx_none {z : Addr} (Ht : s.TypeIs (.ref z) "zip") {Q : Option Value → Shared → Prop} {R : Heap → Prop} (hA : A.handled = none)
    (h : ∀ (B : Around) (F : Value → Shared → Prop) (q : Fin → Shared → Prop), B.handled = none → (∀ h' e, R h' → (∃ o, h'.get? e = some o ∧ o.cls = .type "StopIteration") → F (.ref e) { s with heap := h' }) → wpAny (model P w) B (Builtin.«zip.__next__» ⟨[.ref z], []⟩) q F s)
    (hQ : ∀ h', R h' → Q none { s with heap := h' }) : wpAny (model P w) A (pyNext (.ref z)) Q E s := by
  unfold pyNext
  refine wpAny_bind (wpAny_attempt (wpAny_callSpecial?_slot (name := Str.ofString "__next__") Ht F.slot_zip_next (wpAny_call_entry F.slot_zip_next Ht F.entry_zip_next (h _ _ _ hA fun h' e r he => ?_) (F.args_zip_next_1 _))))
  obtain ⟨o, h1, h2⟩ := he
  exact wpAny_bind (wpAny_isInstance (T := "StopIteration") (b := true) ⟨o, h1, h2⟩ isSubtype_stop (wpAny_pure (hQ _ r)))
end
end Wk
set_option Elab.async false
set_option maxRecDepth 100000
set_option maxHeartbeats 4000000
set_option linter.all false
/-! W19: zip objects made of a list and a tuple; dict of such -/
namespace Wk
open PySem PySem.Spec
open PySem.Sem (wp)
def SqIs (b : Bool) (h : Heap) (l : Addr) (xs : Array Value) : Prop := match b with | true => h.IsTuple l xs | false => h.IsList l xs
def ItIs (b : Bool) (h : Heap) (i l : Addr) (k : Nat) : Prop := match b with | true => h.IsTupleIter i l k | false => h.IsListIter i l k
def itn (b : Bool) : String := match b with | true => "tuple_iterator" | false => "list_iterator"
theorem wlkG {P : Program} {w : World} {i l : Addr} {items : Array Value} (ne : l ≠ i) : ∀ b : Bool, Wlk P w i l items.size (fun k => items.getD k .none) (fun k h => ItIs b h i l k ∧ SqIs b h l items)
  | true => wlkT ne
  | false => wlkL ne
theorem SqIs.lt {b : Bool} {h : Heap} {l : Addr} {xs : Array Value} (x : SqIs b h l xs) : l < h.objs.size := by
  cases b <;> (obtain ⟨o, e, _⟩ := x; exact Heap.lt_size e)
theorem SqIs.at {b : Bool} {h h' : Heap} {l : Addr} {xs : Array Value} (x : SqIs b h l xs) (e : ∀ o, h.get? l = some o → h'.get? l = some o) : SqIs b h' l xs := by
  cases b
  · exact Heap.IsList.at x e
  · exact Heap.IsTuple.at x e
abbrev zq1 (b : Bool) (h : Heap) (l : Addr) : Heap := h.push { cls := .type (itn b), data := .fields #[.ref l, .int 0 0] }
abbrev zq2 (b c : Bool) (h : Heap) (l m : Addr) : Heap := (zq1 b h l).push { cls := .type (itn c), data := .fields #[.ref m, .int 0 0] }
abbrev zq3 (b c : Bool) (h : Heap) (l m : Addr) : Heap := (zq2 b c h l m).push { cls := .type "tuple", data := .seq #[.ref h.objs.size, .ref (zq1 b h l).objs.size] }
abbrev zq4 (b c : Bool) (h : Heap) (l m : Addr) : Heap := (zq3 b c h l m).push { cls := .type "tuple", data := .seq #[.none, .none] }
abbrev zq5 (b c : Bool) (h : Heap) (l m : Addr) : Heap := (zq4 b c h l m).push { cls := .type "zip", data := .fields #[.none, .bool false, .bool false, .ref (zq2 b c h l m).objs.size, .ref (zq3 b c h l m).objs.size] }
theorem zip_newLT (l1 l2 : Addr) (xs ys : Array Value) :
    Meets (Builtin.«zip.__new__» ⟨[.type "zip", .ref l1, .ref l2], []⟩) (fun _ R s => s.heap.IsList l1 xs ∧ s.heap.IsTuple l2 ys ∧ R (.ok (.ret (.ref (zq4 false true s.heap l1 l2).objs.size))) { s with heap := zq5 false true s.heap l1 l2 }) :=
  .of_wp fun prog w A R s h => by
    obtain ⟨hp, g, d, tk, os⟩ := s; obtain ⟨a1, a2, h⟩ := h
    have hsub := sub_zip
    have L1 : Heap.IsList (Shared.heap ⟨hp, g, d, tk, os⟩) l1 xs := a1
    have L2 : Heap.IsTuple (Shared.heap ⟨hp.push { cls := .type "list_iterator", data := .fields #[.ref l1, .int 0 0] }, g, d, tk, os⟩) l2 ys := Heap.IsTuple.push a2 _
    wp_walk using wpAny_pyIter_list L1, wpAny_pyIter_tuple L2
    exact ⟨_, rfl, h⟩
theorem zip_newTL (l1 l2 : Addr) (xs ys : Array Value) :
    Meets (Builtin.«zip.__new__» ⟨[.type "zip", .ref l1, .ref l2], []⟩) (fun _ R s => s.heap.IsTuple l1 xs ∧ s.heap.IsList l2 ys ∧ R (.ok (.ret (.ref (zq4 true false s.heap l1 l2).objs.size))) { s with heap := zq5 true false s.heap l1 l2 }) :=
  .of_wp fun prog w A R s h => by
    obtain ⟨hp, g, d, tk, os⟩ := s; obtain ⟨a1, a2, h⟩ := h
    have hsub := sub_zip
    have L1 : Heap.IsTuple (Shared.heap ⟨hp, g, d, tk, os⟩) l1 xs := a1
    have L2 : Heap.IsList (Shared.heap ⟨hp.push { cls := .type "tuple_iterator", data := .fields #[.ref l1, .int 0 0] }, g, d, tk, os⟩) l2 ys := Heap.IsList.push a2 _
    wp_walk using wpAny_pyIter_tuple L1, wpAny_pyIter_list L2
    exact ⟨_, rfl, h⟩
section
variable {P : Program} {w : World} {A : Around} {E : Value → Shared → Prop} {s : Shared}
/-- what a zip just made looks like -/
structure ZNew (b c : Bool) (s : Shared) (l1 l2 : Addr) (h' : Heap) : Prop where
  z : IsZip h' (s.heap.objs.size + 4) (s.heap.objs.size + 2) (s.heap.objs.size + 3) .none
  i : IsPair h' (s.heap.objs.size + 2) (.ref s.heap.objs.size) (.ref (s.heap.objs.size + 1))
  o : IsPair h' (s.heap.objs.size + 3) .none .none
  p : ItIs b h' s.heap.objs.size l1 0
  q : ItIs c h' (s.heap.objs.size + 1) l2 0
  n : h'.objs.size = s.heap.objs.size + 5
  k : ∀ a u, s.heap.get? a = some u → h'.get? a = some u
theorem zq5_new (b c : Bool) (l1 l2 : Addr) : ZNew b c s l1 l2 (zq5 b c s.heap l1 l2) ∧ (zq4 b c s.heap l1 l2).objs.size = s.heap.objs.size + 4 := by
  have y1 : (zq1 b s.heap l1).objs.size = s.heap.objs.size + 1 := Heap.size_push ..
  have y2 : (zq2 b c s.heap l1 l2).objs.size = s.heap.objs.size + 2 := by rw [Heap.size_push, y1]
  have y3 : (zq3 b c s.heap l1 l2).objs.size = s.heap.objs.size + 3 := by rw [Heap.size_push, y2]
  have y4 : (zq4 b c s.heap l1 l2).objs.size = s.heap.objs.size + 4 := by rw [Heap.size_push, y3]
  have y5 : (zq5 b c s.heap l1 l2).objs.size = s.heap.objs.size + 5 := by rw [Heap.size_push, y4]
  have x5 : (zq5 b c s.heap l1 l2).get? (zq4 b c s.heap l1 l2).objs.size = some _ := Heap.get?_push_size _ rfl
  have x4 : (zq5 b c s.heap l1 l2).get? (zq3 b c s.heap l1 l2).objs.size = some _ := Heap.get?_push_of_some _ (Heap.get?_push_size _ rfl)
  have x3 : (zq5 b c s.heap l1 l2).get? (zq2 b c s.heap l1 l2).objs.size = some _ := Heap.get?_push_of_some _ (Heap.get?_push_of_some _ (Heap.get?_push_size _ rfl))
  have x2 : (zq5 b c s.heap l1 l2).get? (zq1 b s.heap l1).objs.size = some _ := Heap.get?_push_of_some _ (Heap.get?_push_of_some _ (Heap.get?_push_of_some _ (Heap.get?_push_size _ rfl)))
  have x1 : (zq5 b c s.heap l1 l2).get? s.heap.objs.size = some _ := Heap.get?_push_of_some _ (Heap.get?_push_of_some _ (Heap.get?_push_of_some _ (Heap.get?_push_of_some _ (Heap.get?_push_size _ rfl))))
  rw [y2, y3, y4] at x5
  rw [y1, y2] at x3
  rw [y3] at x4
  rw [y1] at x2
  refine ⟨⟨x5, x3, x4, ?_, ?_, y5, fun a u e => Heap.get?_push_of_some _ (Heap.get?_push_of_some _ (Heap.get?_push_of_some _ (Heap.get?_push_of_some _ (Heap.get?_push_of_some _ e))))⟩, y4⟩
  · cases b <;> exact ⟨_, x1, rfl, rfl⟩
  · cases c <;> exact ⟨_, x2, rfl, rfl⟩
theorem call_zipG {xs ys : Array Value} {l1 l2 : Addr} {Q : Value → Shared → Prop} : ∀ (b c : Bool), SqIs b s.heap l1 xs → SqIs c s.heap l2 ys → (∀ h', ZNew b c s l1 l2 h' → Q (.ref (s.heap.objs.size + 4)) { s with heap := h' }) →
    wpAny (model P w) A (call (.type "zip") [.ref l1, .ref l2]) Q E s
  | false, false, h1, h2, h => call_zip_2 h1 h2 fun h' a1 a2 a3 a4 a5 a6 a7 => h h' ⟨a1, a2, a3, a4, a5, a6, a7⟩
  | true, true, h1, h2, h => RZ.call_zipT h1 h2 fun h' a1 a2 a3 a4 a5 a6 a7 => h h' ⟨a1, a2, a3, a4, a5, a6, a7⟩
  | false, true, h1, h2, h => by
    obtain ⟨zn, e⟩ := zq5_new (s := s) false true l1 l2
    exact callType_new F.called_zip (by decide) (F.typeCall_zip_2 _ _) (F.newCall_zip_2 _ _) (fun obj => F.args_object_init_3 obj _ _) F.entry_zip_new (zip_newLT l1 l2 xs ys) ⟨h1, h2, ⟨_, by rw [e]; exact zn.z, rfl⟩, by rw [e]; exact h _ zn⟩
  | true, false, h1, h2, h => by
    obtain ⟨zn, e⟩ := zq5_new (s := s) true false l1 l2
    exact callType_new F.called_zip (by decide) (F.typeCall_zip_2 _ _) (F.newCall_zip_2 _ _) (fun obj => F.args_object_init_3 obj _ _) F.entry_zip_new (zip_newTL l1 l2 xs ys) ⟨h1, h2, ⟨_, by rw [e]; exact zn.z, rfl⟩, by rw [e]; exact h _ zn⟩
theorem zap {I l1 l2 : Nat} (h1 : l1 < I) (h2 : l2 < I) : ZipApart (I + 4) (I + 2) (I + 3) I (I + 1) l1 l2 := PySem.W.ktu_apart I l1 l2 h1 h2
/-- a zip as what a dict is made of -/
theorem pairsOf (b c : Bool) (z TI TO i1 i2 l1 l2 : Addr) (D : ZipApart z TI TO i1 i2 l1 l2) (xs ys : Array Value) :
    PairArg P w "zip" z [z, TI, TO, i1, i2, l1, l2] [z, TO, i1, i2] (min xs.size ys.size) (fun i k v => xs[i]? = some k ∧ ys[i]? = some v)
      (fun h => IsZip h z TI TO .none ∧ IsPair h TI (.ref i1) (.ref i2) ∧ (∃ a b, IsPair h TO a b) ∧ (ItIs b h i1 l1 0 ∧ SqIs b h l1 xs) ∧ (ItIs c h i2 l2 0 ∧ SqIs c h l2 ys)) := by
  have W1 : Wlk P w i1 l1 xs.size (fun k => xs.getD k .none) (fun k h => ItIs b h i1 l1 k ∧ SqIs b h l1 xs) := wlkG D.l1i1 b
  have W2 : Wlk P w i2 l2 ys.size (fun k => ys.getD k .none) (fun k h => ItIs c h i2 l2 k ∧ SqIs c h l2 ys) := wlkG D.l2i2 c
  have gx : ∀ {us : Array Value} {k : Nat}, k < us.size → us[k]? = some (us.getD k .none) := fun {us k} hk => by
    rw [Array.getD_eq_getD_getElem?, Array.getElem?_eq_getElem hk]; rfl
  refine { type := fun s ok => ⟨_, ok.1, rfl⟩, notDict := by decide, keep := ?_, there := ?_, sub := ?_, noKeys := fun A s Q E hA ok h => getAttrOr_miss_zip ok.1 rfl rfl rfl zip_no_keys (by decide +kernel) hA h, iter := ?_ }
  · rintro h h' ⟨Hz, HI, ⟨a, e, HO⟩, q1, q2⟩ up
    exact ⟨up _ _ Hz, up _ _ HI, ⟨a, e, up _ _ HO⟩, W1.kp (k := 0) q1 (fun o => up i1 o) fun o => up l1 o, W2.kp (k := 0) q2 (fun o => up i2 o) fun o => up l2 o⟩
  · rintro h ⟨Hz, HI, ⟨a, e, HO⟩, q1, q2⟩ u hu
    obtain ⟨o1, _, y1, _⟩ := W1.i0 (k := 0) q1
    obtain ⟨o2, _, y2, _⟩ := W2.i0 (k := 0) q2
    have y3 := W1.l0 (k := 0) q1
    have y4 := W2.l0 (k := 0) q2
    simp only [List.mem_cons, List.not_mem_nil, or_false] at hu
    rcases hu with rfl | rfl | rfl | rfl | rfl | rfl | rfl
    · exact ⟨_, Hz⟩
    · exact ⟨_, HI⟩
    · exact ⟨_, HO⟩
    · exact ⟨_, y1⟩
    · exact ⟨_, y2⟩
    · exact y3
    · exact y4
  · intro u hu
    simp only [List.mem_cons, List.not_mem_nil, or_false] at hu ⊢
    rcases hu with rfl | rfl | rfl | rfl <;> simp
  · intro A s d Q E hA ok hd hdf h
    obtain ⟨Hz, HI, ⟨a0, e0, HO⟩, q1, q2⟩ := ok
    simp only [List.mem_cons, List.not_mem_nil, or_false, not_or] at hdf
    obtain ⟨dz, dI, dO, d1, d2, d3, d4⟩ := hdf
    refine wpAny_pyIter_zip Hz (h z [z, TO, i1, i2] (fun k h => IsPair h TI (.ref i1) (.ref i2) ∧ (ItIs b h i1 l1 k ∧ SqIs b h l1 xs) ∧ (ItIs c h i2 l2 k ∧ SqIs c h l2 ys) ∧
      ((IsZip h z TI TO .none ∧ ∃ x y, IsPair h TO x y) ∨ ∃ T f oT, IsZipHeld h z TI TO T f ∧ h.get? T = some oT ∧ T ≠ z ∧ T ≠ i1 ∧ T ≠ i2 ∧ T ≠ d)) s.heap s.toks ?_ ⟨HI, q1, q2, .inl ⟨Hz, a0, e0, HO⟩⟩ (fun _ _ e => e) fun u hu => .inl hu)
    refine { off := ?_, frame := ?_, item := ?_, done := ?_ }
    · simp only [List.mem_cons, List.not_mem_nil, or_false, not_or]
      exact ⟨dz, dO, d1, d2⟩
    · rintro k h h' ⟨HI, q1, q2, hz⟩ up
      refine ⟨up _ _ (Ne.symm dI) HI, W1.kp q1 (fun o => up i1 o (Ne.symm d1)) (fun o => up l1 o (Ne.symm d3)), W2.kp q2 (fun o => up i2 o (Ne.symm d2)) (fun o => up l2 o (Ne.symm d4)), ?_⟩
      rcases hz with ⟨Hz, x, y, HO⟩ | ⟨T, f, oT, Hz, HT, r1, r2, r3, r4⟩
      · exact .inl ⟨up _ _ (Ne.symm dz) Hz, x, y, up _ _ (Ne.symm dO) HO⟩
      · exact .inr ⟨T, f, oT, up _ _ (Ne.symm dz) Hz, up _ _ r4 HT, r1, r2, r3, r4⟩
    · rintro k s1 Q1 E1 hk ⟨HI, q1, q2, hz⟩ hd1 hQ
      have kx : k < xs.size := Nat.lt_of_lt_of_le hk (Nat.min_le_left ..)
      have ky : k < ys.size := Nat.lt_of_lt_of_le hk (Nat.min_le_right ..)
      have far : ∀ {u o}, s1.heap.get? u = some o → s1.heap.objs.size ≠ u := fun e => Nat.ne_of_gt (Heap.lt_size e)
      obtain ⟨_, _, y1, _⟩ := W1.i0 q1
      obtain ⟨_, _, y2, _⟩ := W2.i0 q2
      rcases hz with ⟨Hz, x, y, HO⟩ | ⟨T, f, oT, Hz, HT, r1, r2, r3, r4⟩
      · refine nx_some ⟨_, Hz, rfl⟩ fun B F _ => zx_item D W1 W2 Hz HI HO q1 q2 kx ky fun h' a1 a2 a3 a4 a5 a6 up => ?_
        refine hQ s1.heap.objs.size _ _ h' s1.toks ⟨gx kx, gx ky⟩ (.inl ⟨_, a5, rfl, _, rfl⟩) ⟨up _ _ D.TIz D.TITO D.TIi1 D.TIi2 HI, a3, a4, .inr ⟨s1.heap.objs.size, false, _, a1, a5, far Hz, far y1, far y2, Nat.ne_of_gt hd1⟩⟩ fun u o hu e => ?_
        simp only [List.mem_cons, List.not_mem_nil, or_false, not_or] at hu
        exact up u o hu.1 hu.2.1 hu.2.2.1 hu.2.2.2 e
      · refine nx_some ⟨_, Hz, rfl⟩ fun B F _ => zh_item D W1 W2 Hz HT HI q1 q2 kx ky fun h' a1 a3 a4 a5 a6 up => ?_
        refine hQ s1.heap.objs.size _ _ h' s1.toks ⟨gx kx, gx ky⟩ (.inl ⟨_, a5, rfl, _, rfl⟩) ⟨up _ _ D.TIz D.TIi1 D.TIi2 HI, a3, a4, .inr ⟨T, true, oT, a1, up _ _ r1 r2 r3 HT, r1, r2, r3, r4⟩⟩ fun u o hu e => ?_
        simp only [List.mem_cons, List.not_mem_nil, or_false, not_or] at hu
        exact up u o hu.1 hu.2.2.1 hu.2.2.2 e
    · rintro s1 Q1 E1 ⟨HI, q1, q2, hz⟩ hQ
      have en : min xs.size ys.size = xs.size ∨ (min xs.size ys.size < xs.size ∧ min xs.size ys.size = ys.size) := by omega
      rcases hz with ⟨Hz, x, y, HO⟩ | ⟨T, f, oT, Hz, HT, r1, r2, r3, r4⟩
      · refine nx_none (R := fun h' => ∀ c o, c ≠ z → c ≠ TO → c ≠ i1 → c ≠ i2 → s1.heap.get? c = some o → h'.get? c = some o) ⟨_, Hz, rfl⟩ hA (fun B F q hB hF => zx_end hB D W1 W2 Hz HI HO q1 q2 en fun h' e up he => hF h' e up he) fun h' up => hQ h' s1.toks fun u o hu e => ?_
        simp only [List.mem_cons, List.not_mem_nil, or_false, not_or] at hu
        exact up u o hu.1 hu.2.1 hu.2.2.1 hu.2.2.2 e
      · refine nx_none (R := fun h' => ∀ c o, c ≠ z → c ≠ i1 → c ≠ i2 → s1.heap.get? c = some o → h'.get? c = some o) ⟨_, Hz, rfl⟩ hA (fun B F q hB hF => zh_end hB D W1 W2 Hz HT HI q1 q2 en fun h' e up he => hF h' e up he) fun h' up => hQ h' s1.toks fun u o hu e => ?_
        simp only [List.mem_cons, List.not_mem_nil, or_false, not_or] at hu
        exact up u o hu.1 hu.2.2.1 hu.2.2.2 e
end
end Wk
set_option Elab.async false
set_option maxRecDepth 100000
set_option maxHeartbeats 4000000
set_option linter.all false
/-! W20: rules for zip of any two, for dict(zip(..)), for a dict that an expression makes -/
namespace Wk
open PySem PySem.Spec L2
open PyProof.Rows hiding St
def SqB (K : PySem.W.Frag) (b : Bool) (H : Hp) (a : Addr) (xs : List V) : Prop := match b with | true => SqT K H a xs | false => SqL K H a xs
theorem SqB.get {X : Cx} {pins : List (Addr × Obj)} {σ : L2.St} {H : Hp} {s : Shared} {b : Bool} {a : Addr} {xs : List V} (I : Inv X pins σ H s) (h : SqB X.K b H a xs) : ∃ its : List Value, Vals xs its ∧ SqIs b s.heap a its.toArray ∧ xs.length ≤ sizeLine := by
  cases b with
  | true =>
    obtain ⟨its, rv, p, z⟩ := I.tuple h
    exact ⟨its, rv, p, z⟩
  | false =>
    obtain ⟨its, rv, p, z⟩ := I.list h
    exact ⟨its, rv, p.isList, z⟩
theorem SqB.inj {X : Cx} {pins : List (Addr × Obj)} {σ : L2.St} {H : Hp} {s : Shared} {b : Bool} {a : Addr} {xs ys : List V} (I : Inv X pins σ H s) (h : SqB X.K b H a xs) (g : SqB X.K b H a ys) : xs = ys := by
  cases b with
  | true => exact I.tuple_inj h g
  | false => exact I.list_inj h g
theorem vals_back {xs : List V} {us : List Value} {i : Nat} {u : Value} (r : Vals xs us) (e : us[i]? = some u) : ∃ x, xs[i]? = some x ∧ RelV x u := by
  have hl := r.length
  obtain ⟨h1, _⟩ := List.getElem?_eq_some_iff.mp e
  have hx : xs[i]? = some (xs[i]'(by omega)) := List.getElem?_eq_getElem _
  obtain ⟨u', e', r'⟩ := r.get hx
  rw [e] at e'
  cases e'
  exact ⟨_, hx, r'⟩
theorem kv_zip : ∀ (ks : List Key) {ys : List V} {us : List Value}, Vals ys us → KV (ks.zip ys) (ks.zip us)
  | [], _, _, _ => .nil
  | _ :: _, _, _, .nil => .nil
  | k :: ks, _, _, .cons r t => .cons ⟨rfl, r⟩ (kv_zip ks t)
/-- dict(zip(a, b)) -/
def tDZip (K : PySem.W.Frag) (ta : TA) : TE := fun σ H Q => ta σ H fun vs H1 => ∃ (b c : Bool) (x y : Addr) (ks : List Key) (ys : List V), vs = [.ref x, .ref y] ∧ SqB K b H1 x (ks.map kV) ∧ SqB K c H1 y ys ∧
  ∀ p, H1 p = none → Q (.ref p) (upd H1 p (.dK (mergeK [] (ks.zip ys))))
theorem pe_dzip {X : Cx} {e e2 : Expr} {ta : TA} {p p2 q pos : Pos} (hc : X.calm = true) (hg : Gl X "dict") (hm : X.mg "dict" = none) (hg2 : Gl X "zip") (hm2 : X.mg "zip" = none) (ha : PA X [e, e2] ta)
    (hs : starEach [e, e2] X.env = (false, eval e X.env) :: starEach [e2] X.env := by rfl) (hpl : (backTo q (starEach [e2] X.env)).any (·.1) = false := by rfl) :
    PE X (.Call (.Name "dict" p) [.Call (.Name "zip" p2) [e, e2] [] q] [] pos) (tDZip X.K ta) := by
  refine ⟨fun pins s σ H Q I h => ?_⟩
  refine Call_ (ld_blt I hg hm (PyProof.Rows.boot_dict) (PyProof.Rows.callWith_type1 (PyProof.Rows.args_cons ?_ rfl) rfl rfl))
  refine Call_ (ld_blt I hg2 hm2 PyProof.Rows.boot_zip (PyProof.Rows.callWith_type1 (thn (ha.run q pins s σ H _ I h) fun us s1 ⟨vs, H1, I1, r1, q1⟩ => ?_) hs hpl))
  obtain ⟨b, c, x, y, ks, ys, ex, hx, hy, q1⟩ := q1
  subst ex
  obtain ⟨its, rv, p1, z1⟩ := hx.get I1
  obtain ⟨its2, rv2, p2, z2⟩ := hy.get I1
  obtain ⟨u1, u2, rfl, ru1, ru2⟩ := vals2 r1
  cases ru1
  cases ru2
  refine call_zipG b c p1 p2 fun h' zn => PyProof.Rows.args_nil ?_
  have hi1 : SqIs b h' x its.toArray := p1.at fun o => zn.k x o
  have hi2 : SqIs c h' y its2.toArray := p2.at fun o => zn.k y o
  have l1 := rv.length
  have l2 := rv2.length
  rw [List.length_map] at l1 z1
  have hmin : min its.toArray.size its2.toArray.size = (ks.zip its2).length := by rw [List.length_zip, l1]; simp
  refine PySem.call_dict_pairs (s := { s1 with heap := h' }) (knd := mixKind X.prog X.w) (kvs := ks.zip its2) (pairsOf b c _ _ _ _ _ x y (zap p1.lt p2.lt) its.toArray its2.toArray) (I1.ok.hd hc) ⟨zn.z, zn.i, ⟨_, _, zn.o⟩, ⟨zn.p, hi1⟩, ⟨zn.q, hi2⟩⟩ ⟨hmin.symm, ?_⟩ ?_ fun h2 tk hd hk => ?_
  · rintro i key v ⟨a1, a2⟩
    have a1 : its[i]? = some key := by simpa using a1
    have a2 : its2[i]? = some v := by simpa using a2
    obtain ⟨k', e1, rk⟩ := vals_back rv a1
    rw [List.getElem?_map] at e1
    obtain ⟨k, e3, rfl⟩ := Option.map_eq_some_iff.mp e1
    exact ⟨k, List.getElem?_zip_eq_some.mpr ⟨e3, a2⟩, kV_is rk⟩
  · rw [hmin, List.length_zip]
    exact Nat.le_trans (Nat.min_le_left ..) z1
  · have rel := kv_zip ks rv2
    have e5 : h'.objs.size = s1.heap.objs.size + 5 := zn.n
    have big := I1.big
    have hle5 : s1.heap.objs.size ≤ h'.objs.size := by rw [e5]; exact Nat.le_add_right _ _
    have hlen : (mergeK [] (ks.zip ys)).length ≤ sizeLine := by
      refine Nat.le_trans (length_mergeK (ks.zip ys) []) ?_
      rw [List.length_nil, Nat.zero_add, List.length_zip]
      exact Nat.le_trans (Nat.min_le_left ..) z1
    refine ⟨.ref h'.objs.size, upd H1 h'.objs.size (.dK (mergeK [] (ks.zip ys))), I1.laid (t' := tk) (fun a u e => hk a u (fun hm => ?_) (zn.k a u e)) hle5 (show ObjOk X.prog X.w _ _ _ (.dK (mergeK [] (ks.zip ys))) from ⟨hlen, beq_eq_false_iff_ne.mpr (Nat.ne_of_gt (Nat.lt_of_lt_of_le big hle5)), merged [] (ks.zip its2), KV.merge rel .nil, hd⟩), rfl, q1 _ (I1.hok.fresh hle5)⟩
    have lt := Heap.lt_size e
    simp only [List.mem_cons, List.not_mem_nil, or_false] at hm
    rcases hm with rfl | rfl | rfl | rfl
    · exact absurd lt (Nat.not_lt.mpr (Nat.le_add_right _ _))
    · exact absurd lt (Nat.not_lt.mpr (Nat.le_add_right _ _))
    · exact absurd lt (Nat.lt_irrefl _)
    · exact absurd lt (Nat.not_lt.mpr (Nat.le_add_right _ _))
/-- a walk over two in step -/
def ItzG (K : PySem.W.Frag) (b c : Bool) (x y : Addr) : It :=
  ⟨fun i H => ∃ (xs ys : List V) (u v : V), SqB K b H x xs ∧ SqB K c H y ys ∧ xs[i]? = some u ∧ ys[i]? = some v,
    fun i H v H' => ∃ T u1 u2, v = .ref T ∧ H T = none ∧ H' = upd H T (.tup [u1, u2]) ∧ (∀ xs, SqB K b H x xs → xs[i]? = some u1) ∧ ∀ ys, SqB K c H y ys → ys[i]? = some u2,
    fun i H => ∃ xs ys : List V, SqB K b H x xs ∧ SqB K c H y ys ∧ (i = xs.length ∨ (i < xs.length ∧ i = ys.length))⟩
theorem turnG {P : Program} {w : World} {K : PySem.W.Frag} {elts : List Expr} {kk : Nat} {tpos : Pos} {b c : Bool} {x y z TI TO i1 i2 : Addr} (D : ZipApart z TI TO i1 i2 x y) :
    Turn P w K (.Tuple elts kk tpos) (ItzG K b c x y) [z, TI, TO, i1, i2] z (fun i h => IsZip h z TI TO .none ∧ IsPair h TI (.ref i1) (.ref i2) ∧ (∃ a e, IsPair h TO a e) ∧ ItIs b h i1 x i ∧ ItIs c h i2 y i) where
  mem := by simp
  obj := by
    rintro i h ⟨Hz, HI, ⟨a, e, HO⟩, q1, q2⟩ u hu
    have g1 : ∃ o fs, h.get? i1 = some o ∧ o.data = .fields fs := by cases b <;> (obtain ⟨o, y1, _, y2⟩ := q1; exact ⟨o, _, y1, y2⟩)
    have g2 : ∃ o fs, h.get? i2 = some o ∧ o.data = .fields fs := by cases c <;> (obtain ⟨o, y1, _, y2⟩ := q2; exact ⟨o, _, y1, y2⟩)
    obtain ⟨o1, _, y1, y2⟩ := g1
    obtain ⟨o2, _, y3, y4⟩ := g2
    simp only [List.mem_cons, List.not_mem_nil, or_false] at hu
    rcases hu with rfl | rfl | rfl | rfl | rfl
    · exact ⟨_, Hz, fun v q => nomatch q⟩
    · exact ⟨_, HI, fun v q => nomatch q⟩
    · exact ⟨_, HO, fun v q => nomatch q⟩
    · exact ⟨_, y1, fun v q => by rw [y2] at q; cases q⟩
    · exact ⟨_, y3, fun v q => by rw [y4] at q; cases q⟩
  keep := by
    rintro i h h' ⟨Hz, HI, ⟨a, e, HO⟩, q1, q2⟩ up
    refine ⟨up z (by simp) _ Hz, up TI (by simp) _ HI, ⟨a, e, up TO (by simp) _ HO⟩, ?_, ?_⟩
    · cases b
      · exact Heap.IsListIter.at q1 fun o => up i1 (by simp) o
      · exact Heap.IsTupleIter.at q1 fun o => up i1 (by simp) o
    · cases c
      · exact Heap.IsListIter.at q2 fun o => up i2 (by simp) o
      · exact Heap.IsTupleIter.at q2 fun o => up i2 (by simp) o
  item := by
    intro X hP hw hK hc i pins s σ H E I hf st hg
    subst hP hw hK
    obtain ⟨Hz, HI, ⟨a0, e0, HO⟩, q1, q2⟩ := st
    obtain ⟨xs, ys, u, v, hx, hy, ex, ey⟩ := hg
    obtain ⟨its, rv, p1, _⟩ := hx.get I
    obtain ⟨its2, rv2, p2, _⟩ := hy.get I
    obtain ⟨u1, e1, ru⟩ := rv.get ex
    obtain ⟨u2, e2, ru2⟩ := rv2.get ey
    have W1 : Wlk X.prog X.w i1 x its.toArray.size (fun k => its.toArray.getD k .none) (fun k h => ItIs b h i1 x k ∧ SqIs b h x its.toArray) := wlkG D.l1i1 b
    have W2 : Wlk X.prog X.w i2 y its2.toArray.size (fun k => its2.toArray.getD k .none) (fun k h => ItIs c h i2 y k ∧ SqIs c h y its2.toArray) := wlkG D.l2i2 c
    have zl : z < s.heap.objs.size := Heap.lt_size Hz
    have k1 : i < its.toArray.size := by simpa using (List.getElem?_eq_some_iff.mp e1).1
    have k2 : i < its2.toArray.size := by simpa using (List.getElem?_eq_some_iff.mp e2).1
    have f1 : its.toArray.getD i .none = u1 := by rw [Array.getD_eq_getD_getElem?, show its.toArray[i]? = some u1 by simpa using e1]; rfl
    have f2 : its2.toArray.getD i .none = u2 := by rw [Array.getD_eq_getD_getElem?, show its2.toArray[i]? = some u2 by simpa using e2]; rfl
    refine nx_some ⟨_, Hz, rfl⟩ fun B F _ => zx_item D W1 W2 Hz HI HO ⟨q1, p1⟩ ⟨q2, p2⟩ k1 k2 fun h' Hz' HO' q1' q2' HT sz up => ?_
    rw [f1, f2] at HO' HT
    refine ⟨_, rfl, wpAny_letOwnedTupleGo_zip (s := { s with heap := h' }) Hz' fun h2 Hz2 sb => ?_⟩
    have HT2 : h2.get? s.heap.objs.size = some { cls := .type "tuple", data := .seq #[u1, u2] } := (sb.2 _ (Nat.ne_of_gt zl)).trans HT
    have nw : ObjOk X.prog X.w (upd H s.heap.objs.size (.tup [u, v])) h2 s.heap.objs.size (.tup [u, v]) := ⟨by show 2 ≤ sizeLine; decide, [u1, u2], .cons ru (.cons ru2 .nil), ⟨_, HT2, rfl, _, rfl⟩⟩
    have I1 : Inv X pins σ (upd H s.heap.objs.size (.tup [u, v])) { s with heap := h2 } :=
      I.turnedNew (t' := s.toks) (ch := [z, TI, TO, i1, i2]) (fun d o hb q => (sb.2 d (fun q' => hb (by simp [q']))).trans (up d o (fun q' => hb (by simp [q'])) (fun q' => hb (by simp [q'])) (fun q' => hb (by simp [q'])) (fun q' => hb (by simp [q'])) q)) hf (Nat.le_refl _) nw
    refine ⟨.ref s.heap.objs.size, _, I1, rfl, ⟨_, u, v, rfl, I.hok.fresh (Nat.le_refl _), rfl, fun l hl => by rw [hl.inj I hx]; exact ex, fun l hl => by rw [hl.inj I hy]; exact ey⟩, ⟨Hz2, ?_, ⟨u1, u2, ?_⟩, ?_, ?_⟩, fun d hd => ?_⟩
    · exact (sb.2 _ D.TIz).trans (up _ _ D.TIz D.TITO D.TIi1 D.TIi2 HI)
    · exact (sb.2 _ D.TOz).trans HO'
    · exact (W1.kp q1' (fun o q => (sb.2 _ D.i1z).trans q) fun o q => (sb.2 _ D.l1z).trans q).1
    · exact (W2.kp q2' (fun o q => (sb.2 _ D.i2z).trans q) fun o q => (sb.2 _ D.l2z).trans q).1
    · have g1 : i1 < s.heap.objs.size := by obtain ⟨_, _, y1, _⟩ := W1.i0 ⟨q1, p1⟩; exact Heap.lt_size y1
      have g2 : i2 < s.heap.objs.size := by obtain ⟨_, _, y1, _⟩ := W2.i0 ⟨q2, p2⟩; exact Heap.lt_size y1
      have g3 := Heap.lt_size HI
      have g4 := Heap.lt_size HO
      have hlt : d < s.heap.objs.size := by
        simp only [List.mem_cons, List.not_mem_nil, or_false] at hd
        rcases hd with rfl | rfl | rfl | rfl | rfl <;> assumption
      rw [upd_ne (Nat.ne_of_lt hlt)]
      exact (hf d hd).1
  done := by
    intro X hP hw hK hc i pins s σ H E I hf st hg
    subst hP hw hK
    obtain ⟨Hz, HI, ⟨a0, e0, HO⟩, q1, q2⟩ := st
    obtain ⟨xs, ys, hx, hy, en⟩ := hg
    obtain ⟨its, rv, p1, _⟩ := hx.get I
    obtain ⟨its2, rv2, p2, _⟩ := hy.get I
    have l1 := rv.length
    have l2 := rv2.length
    have W1 : Wlk X.prog X.w i1 x its.toArray.size (fun k => its.toArray.getD k .none) (fun k h => ItIs b h i1 x k ∧ SqIs b h x its.toArray) := wlkG D.l1i1 b
    have W2 : Wlk X.prog X.w i2 y its2.toArray.size (fun k => its2.toArray.getD k .none) (fun k h => ItIs c h i2 y k ∧ SqIs c h y its2.toArray) := wlkG D.l2i2 c
    refine nx_none (R := fun h' => ∀ d o, d ≠ z → d ≠ TO → d ≠ i1 → d ≠ i2 → s.heap.get? d = some o → h'.get? d = some o) ⟨_, Hz, rfl⟩ (I.ok.hd hc) (fun B F q hB hF => zx_end hB D W1 W2 Hz HI HO ⟨q1, p1⟩ ⟨q2, p2⟩ (by simp; omega) fun h' e up he => hF h' e up he) fun h' up => ⟨rfl, ?_⟩
    exact I.turnedL (t' := s.toks) (ch := [z, TI, TO, i1, i2]) (fun d o hb q => up d o (fun q' => hb (by simp [q'])) (fun q' => hb (by simp [q'])) (fun q' => hb (by simp [q'])) (fun q' => hb (by simp [q'])) q) hf
  self := fun A i s Q E st h => wpAny_pyIter_zip st.1 h
def iZipG (K : PySem.W.Frag) (ta : TA) : TI := fun σ H R => ta σ H fun vs H1 => ∃ b c x y xs ys, vs = [.ref x, .ref y] ∧ SqB K b H1 x xs ∧ SqB K c H1 y ys ∧ R (ItzG K b c x y) H1
theorem pi_zipG {X : Cx} {e e2 : Expr} {ta : TA} {p pos tpos : Pos} {elts : List Expr} {kk : Nat} (hg : Gl X "zip") (hm : X.mg "zip" = none) (ha : PA X [e, e2] ta)
    (hs : starEach [e, e2] X.env = (false, eval e X.env) :: starEach [e2] X.env := by rfl) (hpl : (backTo pos (starEach [e2] X.env)).any (·.1) = false := by rfl) :
    PI X (.Tuple elts kk tpos) (.Call (.Name "zip" p) [e, e2] [] pos) (iZipG X.K ta) := by
  constructor
  intro pins s σ H R I h
  refine Call_ (ld_blt I hg hm PyProof.Rows.boot_zip (PyProof.Rows.callWith_type1 (thn (ha.run pos pins s σ H _ I h) fun us s1 ⟨vs, H1, I1, r1, q1⟩ => ?_) hs hpl))
  obtain ⟨b, c, x, y, xs, ys, ex, hx, hy, q⟩ := q1
  subst ex
  obtain ⟨u1, u2, rfl, ru1, ru2⟩ := vals2 r1
  cases ru1
  cases ru2
  obtain ⟨its, rv, p1, _⟩ := hx.get I1
  obtain ⟨its2, rv2, p2, _⟩ := hy.get I1
  refine call_zipG b c p1 p2 fun h' zn => wpAny_pyIter_zip zn.z ?_
  refine ⟨s1.heap.objs.size + 4, [s1.heap.objs.size + 4, s1.heap.objs.size + 2, s1.heap.objs.size + 3, s1.heap.objs.size, s1.heap.objs.size + 1], _, _, H1, rfl, I1.kept (t' := s1.toks) zn.k, turnG (zap p1.lt p2.lt), ⟨zn.z, zn.i, ⟨_, _, zn.o⟩, zn.p, zn.q⟩, fun d hd => ?_, q⟩
  have hle : s1.heap.objs.size ≤ d := by
    simp only [List.mem_cons, List.not_mem_nil, or_false] at hd
    rcases hd with rfl | rfl | rfl | rfl | rfl
    · exact Nat.le_add_right _ _
    · exact Nat.le_add_right _ _
    · exact Nat.le_add_right _ _
    · exact Nat.le_refl _
    · exact Nat.le_add_right _ _
  exact I1.fpOk hle (I1.hok.fresh hle)
theorem k_dzip {X : Cx} {e e2 : Expr} {ta : TA} {p p2 q pos : Pos} (K : PySem.W.Frag) (hc : X.calm = true) (hg : Gl X "dict") (hm : X.mg "dict" = none) (hg2 : Gl X "zip") (hm2 : X.mg "zip" = none) (ha : PA X [e, e2] ta) (h : X.K = K := by rfl)
    (hs : starEach [e, e2] X.env = (false, eval e X.env) :: starEach [e2] X.env := by rfl) (hpl : (backTo q (starEach [e2] X.env)).any (·.1) = false := by rfl) :
    PE X (.Call (.Name "dict" p) [.Call (.Name "zip" p2) [e, e2] [] q] [] pos) (tDZip K ta) := h ▸ pe_dzip hc hg hm hg2 hm2 ha hs hpl
theorem k_pizG {X : Cx} {e e2 : Expr} {ta : TA} {p pos tpos : Pos} {elts : List Expr} {kk : Nat} (K : PySem.W.Frag) (hg : Gl X "zip") (hm : X.mg "zip" = none) (ha : PA X [e, e2] ta) (h : X.K = K := by rfl)
    (hs : starEach [e, e2] X.env = (false, eval e X.env) :: starEach [e2] X.env := by rfl) (hpl : (backTo pos (starEach [e2] X.env)).any (·.1) = false := by rfl) :
    PI X (.Tuple elts kk tpos) (.Call (.Name "zip" p) [e, e2] [] pos) (iZipG K ta) := h ▸ pi_zipG hg hm ha hs hpl
/-! values that are lists or tuples -/
def rSq {α : Type} (K : PySem.W.Frag) (A : Rq α) : Rp α := fun a v S => ∃ (b : Bool) (p : Addr) (vs : List V), v = .ref p ∧ (match b with | true => SqT K S p vs | false => S p = some (.lst vs)) ∧ A a vs S
theorem sqB_of {K : PySem.W.Frag} {b : Bool} {S S' : Hp} {p : Addr} {vs : List V} (h : match b with | true => SqT K S p vs | false => S p = some (.lst vs)) (e : Ex S S') : SqB K b S' p vs := by
  cases b with
  | true => exact sqT_ex e h
  | false => exact .of (e _ _ h)
section
variable {μ : Type → Type} {τ : Type} [Mir μ τ] {κ α β γ : Type} [DecidableEq κ] {p : Pt τ} {σ : L2.St} {S H S0 H0 : Hp} {te ta tb : TE} {K : PySem.W.Frag} {L : List (Addr × HO)} {D : Ends} {tz : TS} {s : τ} {z : β × τ} {e : κ → Key}
theorem Ev.sqT {m : (α → μ β) → μ β} {A : Rq α} (h : Ev p te σ S H m (rT K A)) : Ev p te σ S H m (rSq K A) := fun S1 H1 s g ps k z hm Q q =>
  h S1 H1 s g ps k z hm Q fun a v S2 H2 s2 g2 p2 ⟨x, vs, e, h1, h2⟩ hm2 => q a v S2 H2 s2 g2 p2 ⟨true, x, vs, e, h1, h2⟩ hm2
theorem Ev.sqL {m : (α → μ β) → μ β} {A : Rq α} (h : Ev p te σ S H m (rL A)) : Ev p te σ S H m (rSq K A) := fun S1 H1 s g ps k z hm Q q =>
  h S1 H1 s g ps k z hm Q fun a v S2 H2 s2 g2 p2 ⟨x, vs, e, h1, h2⟩ hm2 => q a v S2 H2 s2 g2 p2 ⟨false, x, vs, e, h1, h2⟩ hm2
theorem i_zipG {m : (List α → μ β) → μ β} {m' : (List γ → μ β) → μ β} {R : Rp α} {R' : Rp γ} [Mo R] [Mo R'] (h : Ev p ta σ S H m (rSq K (aAll R))) (h' : Ev p tb σ S H m' (rSq K (aAll R'))) :
    EvI p (iZipG K (tCons ta (tCons tb tNil))) σ S H (fun k => m fun xs => m' fun ys => k (xs.zip ys)) (rT K (aCons R (aOne R'))) [] := fun S1 H1 s g ps k z hm Q q =>
  h S1 H1 s g ps _ z hm _ fun xs v S2 H2 s2 g2 p2 ⟨b, x, vs, e, h1, h2⟩ hm2 => h' S2 H2 s2 (g.tr g2) p2 _ z hm2 _ fun ys w S3 H3 s3 g3 p3 ⟨c, y, ws, e', h1', h2'⟩ hm3 => by
    subst e e'
    refine ⟨b, c, x, y, vs, ws, rfl, sqB_of h1 (g3.s.tr g3.i), sqB_of h1' g3.i, q _ _ S3 H3 s3 (g2.tr g3) p3 (fun S4 H4 e1 e2 _ => ?_) hm3⟩
    have a1 : All R S2 xs vs := h2
    have a2 : All R' S3 ys ws := h2'
    have q1 : SqB K b H4 x vs := sqB_of h1 ((g3.s.tr e1).tr e2)
    have q2 : SqB K c H4 y ws := sqB_of h1' (e1.tr e2)
    have ln : (xs.zip ys).length = min vs.length ws.length := by rw [List.length_zip, a1.len, a2.len]
    refine ⟨fun i hi => ⟨vs, ws, vs[i]'(by omega), ws[i]'(by omega), q1, q2, List.getElem?_eq_getElem _, List.getElem?_eq_getElem _⟩, ⟨vs, ws, q1, q2, by rw [ln]; omega⟩, fun i u v H5 hx yl => ?_⟩
    obtain ⟨tp, b1, b2, e3, n, e4, y1, y2⟩ := yl
    subst e3 e4
    obtain ⟨c1, c2⟩ := zip_get hx
    obtain ⟨d1, hd1, rd1⟩ := a1.get c1
    obtain ⟨d2, hd2, rd2⟩ := a2.get c2
    rw [y1 vs q1] at hd1
    rw [y2 ws q2] at hd2
    cases hd1
    cases hd2
    have gn := Gm.new (M := []) (o := .tup [b1, b2]) e2 n
    exact ⟨upd S4 tp (.tup [b1, b2]), gn, tp, _, rfl, .of upd_same, _, _, rfl, Mo.mo ((g3.s.tr e1).tr gn.s) rd1, _, rfl, Mo.mo (e1.tr gn.s) rd2⟩
/-! a dict that an expression makes -/
def EvDi (p : Pt τ) (te : TE) (σ : L2.St) (S H : Hp) (m : (List (κ × α) → μ β) → μ β) (e : κ → Key) (R : Rp α) : Prop :=
  ∀ S1 H1 s, Gm p.M S H S1 H1 → PotAt p s S1 H1 → ∀ (k : List (κ × α) → μ β) z, Mir.run (m k) s = some z → ∀ Q : VK,
    (∀ d q kvs S2 H2 s2, Gm p.M S1 H1 S2 H2 → PotAt p s2 S2 H2 → H1 q = none → H2 q = some (.dK kvs) → S2 q = none → q ∉ p.M → AllD e R S2 d kvs → Mir.run (k d) s2 = some z → Q (.ref q) H2) → te σ H1 Q
theorem q_setD {i : Nat} {m : (List (κ × α) → μ β) → μ β} {R : Rp α} {k : List (κ × α) → μ β} (σ' : V → L2.St) (hσ : ∀ v, σ.set i (some v) = σ' v) (w : Wd p S0 H0 S H L) (ps : PotAt p s S H) (h : EvDi p te σ S H m e R) (hm : Mir.run (m fun a => bnd a k) s = some z)
    (nx : ∀ d q kvs S1 H1 s1, Wd p S0 H0 S1 H1 ((q, .dK kvs) :: L) → PotAt p s1 S1 H1 → Gm p.M S H S1 H1 → AllD e R S1 d kvs → Mir.run (k d) s1 = some z → tz D (σ' (.ref q)) H1) : tSeq (tAsg te (gName i)) tz D σ H :=
  h S H s (Gm.rf w.i) ps _ z hm _ fun d q kvs S1 H1 s1 g p1 n e sn m r hm1 => by
    have q := nx d q kvs S1 H1 s1 (w.add g n e sn m) p1 g r hm1
    rw [← hσ] at q
    exact q
def dzip (xs : List κ) (ys : List α) : List (κ × α) := (xs.zip ys).foldl (fun d y => dput d y.1 y.2) []
theorem AllD.zip {R : Rp α} (inj : ∀ a b, e a = e b → a = b) : ∀ {xs : List κ} {ys : List α} {vs : List V} {d : List (κ × α)} {kvs : List (Key × V)}, All R S ys vs → AllD e R S d kvs →
    AllD e R S ((xs.zip ys).foldl (fun d y => dput d y.1 y.2) d) (((xs.map e).zip vs).foldl (fun acc kv => putK acc kv.1 kv.2) kvs)
  | [], _, _, _, _, _, h => h
  | _ :: _, _, _, _, _, .nil, h => h
  | x :: xs, _, _, d, kvs, .cons r t, h => AllD.zip inj (xs := xs) t (h.put inj r)
theorem kr_map {RK : Rp κ} (kr : KRp RK e) : ∀ {xs : List κ} {vs : List V}, All RK S xs vs → vs = (xs.map e).map kV
  | _, _, .nil => rfl
  | _, _, .cons r t => by rw [kr_map kr t, kr _ _ _ r]; rfl
theorem d_zip {m : (List κ → μ β) → μ β} {m' : (List α → μ β) → μ β} {RK : Rp κ} {R : Rp α} [Mo RK] [Mo R] (inj : ∀ a b, e a = e b → a = b) (kr : KRp RK e) (h : Ev p ta σ S H m (rSq K (aAll RK))) (h' : Ev p tb σ S H m' (rSq K (aAll R))) :
    EvDi p (tDZip K (tCons ta (tCons tb tNil))) σ S H (fun k => m fun xs => m' fun ys => k (dzip xs ys)) e R := fun S1 H1 s g ps k z hm Q q =>
  h S1 H1 s g ps _ z hm _ fun xs v S2 H2 s2 g2 p2 ⟨b, x, vs, e1, h1, h2⟩ hm2 => h' S2 H2 s2 (g.tr g2) p2 _ z hm2 _ fun ys w S3 H3 s3 g3 p3 ⟨c, y, ws, e1', h1', h2'⟩ hm3 => by
    subst e1 e1'
    have a1 : All RK S2 xs vs := h2
    have a2 : All R S3 ys ws := h2'
    have ek := kr_map kr a1
    subst ek
    refine ⟨b, c, x, y, xs.map e, ws, rfl, sqB_of h1 (g3.s.tr g3.i), sqB_of h1' g3.i, fun r hr => ?_⟩
    have n1 : H1 r = none := by
      cases e5 : H1 r with
      | none => rfl
      | some u => obtain ⟨u', e'⟩ := (g2.tr g3).t r u e5; rw [hr] at e'; cases e'
    have go : Gm p.M S3 H3 S3 (upd H3 r (.dK (mergeK [] ((xs.map e).zip ws)))) := Gm.own g3.i hr
    exact q (dzip xs ys) r _ S3 _ s3 ((g2.tr g3).tr go) (p3.go (Gm.own g3.i hr)) n1 upd_same (g3.i.no hr) (new_nM p3 hr) (AllD.zip inj a2 .nil) hm3
end
end Wk
set_option Elab.async false
set_option maxRecDepth 100000
set_option maxHeartbeats 4000000
set_option linter.all false
/-! W21: a tuple times an int from 1 on -/
namespace Wk
open PySem PySem.Spec L2
open PyProof.Rows hiding St
theorem tuple_mul1 (l : Addr) (items : Array Value) (n : Nat) (dd : Option Addr) (sl : Array (Option Value)) (u : Tok) :
    Meets (Builtin.«tuple.__mul__» ⟨[.ref l, .int 1 u], []⟩) (fun _ R s => s.heap.get? l = some { cls := .type "tuple", dict := dd, data := .seq items n, slots := sl } ∧ R (.ok (.ret (Value.ref l))) s) :=
  .of_wp fun prog w A R s h => by
    obtain ⟨hp, g, d, tk, os⟩ := s
    obtain ⟨hl, h⟩ := h
    have f1 := AutoSeq1.idx_int
    have c1 : (items.isEmpty || (1 : Int) == 1) = true := by cases items.isEmpty <;> rfl
    wp_walk using wpAny_loadPart' hl
    exact ⟨_, rfl, h⟩
def rRepG (K : PySem.W.Frag) : R2 := fun x y H Q => ∃ l k xs, x = .ref l ∧ y = .int k ∧ SqT K H l xs ∧ xs ≠ [] ∧ xs.length ≤ 1000 ∧ 1 ≤ k ∧ k ≤ 1000 ∧ (k = 1 → Q (.ref l) H) ∧
  (2 ≤ k → ∀ p, H p = none → Q (.ref p) (upd H p (.tup (List.replicate k.toNat xs).flatten)))
theorem op_repG {X : Cx} : OpR X (binaryOp .Mult) (rRepG X.K) := by
  intro pins s σ H x y v u Q I rx ry h
  obtain ⟨l, k, xs, rfl, rfl, hT, hne, hl, h1, h2, q1, q2⟩ := h
  by_cases z : k = 1
  · subst z
    cases rx
    obtain ⟨t, rfl⟩ := ry
    obtain ⟨its, r, ⟨⟨cls, dd, data, sl⟩, ho, hc, n, hd⟩, hs⟩ := I.tuple hT
    simp only at hc hd
    subst hc hd
    exact wpAny_binaryOp_repeat_ref (T := "tuple") (U := "int") (by decide) ⟨_, ho, rfl⟩ (fun s' => typeIs_int s' 1 t) noFill_tuple_mul PySem.F.fills_int_mul PySem.F.slot_int_rmul repeat_tuple PySem.F.slot_int_index.lookup
      (call_meets PySem.F.slot_int_rmul (typeIs_int s 1 t) PySem.F.entry_int_rmul (PySem.F.args_int_rmul_2 _ _) (int_rmul_tuple 1 t l its.toArray n dd sl)
        ⟨ho, rfl, ⟨_, ho, rfl⟩, call_meets PySem.F.slot_tuple_mul ⟨_, ho, rfl⟩ PySem.F.entry_tuple_mul (PySem.F.args_tuple_mul_2 _ _) (tuple_mul1 l its.toArray n dd sl t) ⟨ho, ⟨.ref l, H, I, rfl, q1 rfl⟩⟩⟩)
  · exact op_repT pins s σ H _ _ v u Q I rx ry ⟨l, k, xs, rfl, rfl, hT, hne, by omega, h2, hl, q2 (by omega)⟩
theorem k_repG {X : Cx} (K : PySem.W.Frag) (h : X.K = K := by rfl) : OpR X (binaryOp .Mult) (rRepG K) := h ▸ op_repG
def RtB (n : Nat) (k : Int) : Prop := 0 < n ∧ n ≤ 1000 ∧ 1 ≤ k ∧ k ≤ 1000
instance (n : Nat) (k : Int) : Decidable (RtB n k) := inferInstanceAs (Decidable (_ ∧ _))
section
variable {μ : Type → Type} {τ : Type} [Mir μ τ] {α β : Type} {p : Pt τ} {σ : L2.St} {S H : Hp} {ta tb : TE} {K : PySem.W.Frag}
theorem e_repT {R : Rp α} [Mo R] {mA : (List α → μ β) → μ β} {mB : (Int → μ β) → μ β} (ha : Ev p ta σ S H mA (rT K (aAll R))) (hb : Ev p tb σ S H mB rI) :
    Ev p (tOp (rRepG K) ta tb) σ S H (fun k => mA fun xs => mB fun n => Mir.lft (grd (RtB xs.length n)) >>= fun _ => k (List.replicate n.toNat xs).flatten) (rT K (aAll R)) := fun S1 H1 s g ps k z hm Q q =>
  ha S1 H1 s g ps _ z hm _ fun a v S2 H2 s2 g2 p2 ⟨x, vs, e, h1, h2⟩ hm2 => hb S2 H2 s2 (g.tr g2) p2 _ z hm2 _ fun b w S3 H3 s3 g3 p3 r3 hm3 => by
    subst e
    cases (show w = .int b from r3)
    obtain ⟨_, eg, hm4⟩ := run_of_lft hm3
    obtain ⟨c1, c2, c3, c4⟩ := grd_of eg
    have a1 : All R S2 a vs := h2
    have ln := a1.len
    refine ⟨x, b, vs, rfl, rfl, sqT_ex (g3.s.tr g3.i) h1, fun q => by rw [q, List.length_nil] at ln; omega, by omega, c3, c4, fun e => ?_, fun _ r hr => ?_⟩
    · subst e
      have e1 : (List.replicate (Int.toNat 1) a).flatten = a := by show (List.replicate 1 a).flatten = a; simp
      rw [e1] at hm4
      exact q a _ S3 H3 s3 (g2.tr g3) p3 ⟨x, vs, rfl, sqT_ex g3.s h1, a1.mo g3.s⟩ hm4
    · have g4 : Gm p.M S3 H3 (upd S3 r (.tup (List.replicate b.toNat vs).flatten)) (upd H3 r (.tup (List.replicate b.toNat vs).flatten)) := Gm.new g3.i hr
      exact q _ _ _ _ s3 ((g2.tr g3).tr g4) (p3.go (Gm.new g3.i hr)) ⟨r, _, rfl, .of upd_same, (a1.mo (g3.s.tr g4.s)).reps _⟩ hm4
end
end Wk
set_option Elab.async false
set_option maxRecDepth 100000
set_option maxHeartbeats 4000000
set_option linter.all false
/-! W22: slots forgotten, set between -/
namespace Wk
open PySem L2
open PyProof.Rows hiding St
theorem wipe_get {σ : L2.St} {j : Nat} : ∀ vs : List Nat, (wipe σ vs)[j]? = if j ∈ vs then (σ[j]?).map (fun _ => none) else σ[j]?
  | [] => by simp [wipe]
  | v :: vs => by
    unfold wipe
    rw [List.getElem?_set, wipe_length, wipe_get vs]
    by_cases e : v = j
    · subst e
      rw [if_pos rfl, if_pos (List.mem_cons_self ..)]
      by_cases h : v < σ.length
      · rw [if_pos h, List.getElem?_eq_getElem h]; rfl
      · rw [if_neg h, List.getElem?_eq_none (by omega)]; rfl
    · rw [if_neg e]
      by_cases h : j ∈ vs
      · rw [if_pos h, if_pos (List.mem_cons_of_mem _ h)]
      · rw [if_neg h, if_neg (fun q => by rcases List.mem_cons.mp q with z | z; exact e z.symm; exact h z)]
theorem wipe_set {σ : L2.St} {i : Nat} {x : Option V} {vs : List Nat} (h : i ∈ vs) : wipe (σ.set i x) vs = wipe σ vs := by
  apply List.ext_getElem?
  intro j
  rw [wipe_get, wipe_get]
  by_cases e : j ∈ vs
  · rw [if_pos e, if_pos e, List.getElem?_set]
    by_cases q : i = j
    · subst q
      rw [if_pos rfl]
      by_cases z : i < σ.length
      · rw [if_pos z, List.getElem?_eq_getElem z]; rfl
      · rw [if_neg z, List.getElem?_eq_none (by omega)]
    · rw [if_neg q]
  · rw [if_neg e, if_neg e, List.getElem?_set, if_neg (by rintro rfl; exact e h)]
theorem wipe_wipe {σ : L2.St} {vs : List Nat} : wipe (wipe σ vs) vs = wipe σ vs := by
  apply List.ext_getElem?
  intro j
  rw [wipe_get, wipe_get]
  by_cases e : j ∈ vs
  · simp only [if_pos e]
    cases σ[j]? <;> rfl
  · rw [if_neg e]
end Wk
set_option Elab.async false
set_option maxRecDepth 100000
set_option maxHeartbeats 4000000
set_option linter.all false
/-! W23: defs that give a dict back, a place of such a dict, [::-1], a list of ones own that stays from here on -/
namespace Wk
open PySem PySem.Spec L2
open PyProof.Rows hiding St
section
variable {μ : Type → Type} {τ ι : Type} [Mir μ τ] {κ α β γ ρ : Type} [DecidableEq κ] {p : Pt τ} {σ : L2.St} {S H S0 H0 : Hp} {te ta tb tk : TE} {K : PySem.W.Frag} {L : List (Addr × HO)} {D : Ends} {tz : TS} {s : τ} {z : β × τ} {e : κ → Key}
/-- a new dict comes back -/
def spDi (F : ι → Pt τ) (fm : α → μ (List (κ × ρ))) (A : ι → Rq α) (e : κ → Key) (R : Rp ρ) : Sp := fun vs H Q _ => ∃ i a S s r s', Ex S H ∧ PotAt (F i) s S H ∧ A i a vs S ∧ Mir.run (fm a) s = some (r, s') ∧
  ∀ q kvs S' H', Gm (F i).M S H S' H' → PotAt (F i) s' S' H' → H q = none → H' q = some (.dK kvs) → S' q = none → AllD e R S' r kvs → Q (.ref q) H'
theorem EvDi.eta {m : (List (κ × α) → μ β) → μ β} {R : Rp α} (h : EvDi p te σ S H (fun k => m k) e R) : EvDi p te σ S H m e R := h
theorem back_none2 {M : List Addr} {S1 H1 S2 H2 : Hp} {x : Addr} (g2 : Gm M S1 H1 S2 H2) (n : H2 x = none) : H1 x = none := by
  cases e : H1 x with
  | none => rfl
  | some u => obtain ⟨u', e'⟩ := g2.t x u e; rw [n] at e'; cases e'
theorem d_call {fm : α → Option (List (κ × ρ))} {A : Rq α} {R : Rp ρ} {t : TA} {E : XK} {m : (α → μ β) → μ β} (h : EvA p t σ S H m A) : EvDi p (tCall (spDi F0 fm (fun _ => A) e R) [] E t) σ S H (fun k => m fun a => Mir.lft (fm a) >>= k) e R := fun S1 H1 s g ps k z hm Q q =>
  h S1 H1 s g ps _ z hm _ fun a vs S2 H2 s2 g2 p2 r hm2 => by
    obtain ⟨b, e1, hm3⟩ := run_of_lft hm2
    refine ⟨(), a, S2, (), b, (), g2.i, pot0', by rw [List.append_nil]; exact r, by show (fm a).map _ = _; rw [e1]; rfl, fun x us S' H' g3 _ n e3 n3 r3 => ?_⟩
    exact q b x us S' H' s2 (g2.tr (Gm.up g3)) (p2.go g3) (back_none2 g2 n) e3 n3 (new_nM p2 n) r3 hm3
/-- a place of a dict that an expression makes -/
theorem e_diGet {m : (List (κ × α) → μ β) → μ β} {mk : (κ → μ β) → μ β} {R : Rp α} {RK : Rp κ} [Mo R] (inj : ∀ a b, e a = e b → a = b) (kr : KRp RK e) (hd : EvDi p te σ S H m e R) (h : Ev p tk σ S H mk RK) :
    Ev p (tDGet te tk) σ S H (fun k => m fun d => mk fun x => Mir.lft (dget d x) >>= k) R := fun S1 H1 s1 g ps k z hm Q qq =>
  hd S1 H1 s1 g ps _ z hm _ fun d q kvs S2 H2 s2 g2 p2 n2 e2 sn2 m2 r2 hm2 => h S2 H2 s2 (g.tr g2) p2 _ z hm2 _ fun x v S3 H3 s3 g3 p3 r hm3 => by
    obtain ⟨y, e1, hm4⟩ := run_of_lft hm3
    have a2 := r2.mo g3.s
    obtain ⟨u, e4, r4⟩ := (a2.get inj (k := x)).1 y e1
    rw [kr x v S3 r]
    have hq := g3.h _ _ m2 e2
    exact ⟨q, u, rfl, by rw [← e4]; exact DGet.k hq, qq y u S3 H3 s3 (g2.tr g3) p3 r4 hm4⟩
/-- a dict of ones own is handed back -/
theorem q_retD {m : (List (κ × α) → μ β) → μ β} {R : Rp α} {k : List (κ × α) → μ β} (w : Wd p S0 H0 S H L) (ps : PotAt p s S H) (h : EvDi p te σ S H m e R) (hm : Mir.run (m fun a => bnd a k) s = some z)
    (nx : ∀ a q kvs S1 H1 s1, Wd p S0 H0 S1 H1 ((q, .dK kvs) :: L) → PotAt p s1 S1 H1 → Gm p.M S H S1 H1 → AllD e R S1 a kvs → Mir.run (k a) s1 = some z → D.rt (.ref q) H1) : tSeq (tRet te) tz D σ H :=
  h S H s (Gm.rf w.i) ps _ z hm _ fun a q kvs S1 H1 s1 g p1 n e sn m r hm1 => nx a q kvs S1 H1 s1 (w.add g n e sn m) p1 g r hm1
/-- a list of ones own stays as it is from here on -/
theorem w_frz {j : Nat} {q : Addr} {vs : List V} {xs : List α} {R : Rp α} [Mo R] (w : Wd p S0 H0 S H L) (ps : PotAt p s S H) (hj : L[j]? = some (q, .lst vs)) (ha : All R S xs vs) :
    ∃ S1, Wd p S0 H0 S1 H (L.eraseIdx j) ∧ PotAt p s S1 H ∧ Ex S S1 ∧ rL (aAll R) xs (.ref q) S1 :=
  ⟨upd S q (.lst vs), w.frz hj, ps.frz (w.nmAt hj), ex_frz (w.at hj).2.1, q, vs, rfl, upd_same, ha.mo (ex_frz (w.at hj).2.1)⟩
/-! [::-1] -/
def tRev (K : PySem.W.Frag) (te tk : TE) : TE := fun σ H Q => te σ H fun x H1 => tk σ H1 fun y H2 => y = .int (-1) ∧ ∃ a xs, x = .ref a ∧ SqL K H2 a xs ∧ ∀ p, H2 p = none → Q (.ref p) (upd H2 p (.lst xs.reverse))
theorem All.rev {R : Rp α} {S : Hp} {xs : List α} {vs : List V} (h : All R S xs vs) : All R S xs.reverse vs.reverse := by
  induction h with
  | nil => exact .nil
  | cons r t ih =>
    rw [List.reverse_cons, List.reverse_cons]
    exact ih.app (.cons r .nil)
theorem l_rev {R : Rp α} {m : (List α → μ β) → μ β} {mk : (Int → μ β) → μ β} [Mo R] (h : EvR p te σ S H m (aAll R)) (hk : Ev p tk σ S H mk rI) :
    EvL p (tRev K te tk) σ S H (fun k => m fun xs => mk fun y => Mir.lft (grd (y = -1)) >>= fun _ => k xs.reverse) (aAll R) := fun S1 H1 s g ps k z hm Q q =>
  h S1 H1 s g ps _ z hm _ fun xs x vs S2 H2 s2 g2 p2 e2 m2 r2 hm2 => hk S2 H2 s2 (g.tr g2) p2 _ z hm2 _ fun y v S4 H4 s4 g4 p4 r4 hm4 => by
    obtain ⟨_, e1, hm5⟩ := run_of_lft hm4
    have hl := grd_of e1
    subst hl
    refine ⟨r4, x, vs, rfl, .of (g4.h _ _ m2 e2), fun y hy => ?_⟩
    have g5 := g2.tr g4
    have a2 : All R S2 xs vs := r2
    exact q xs.reverse y vs.reverse S4 _ s4 (g5.tr (Gm.own g4.i hy)) (p4.go (Gm.own g4.i hy)) (back_none2 g5 hy) upd_same (g4.i.no hy) (new_nM p4 hy) (a2.mo g4.s).rev hm5
end
section
variable {X : Cx}
theorem pe_rev {e1 es : Expr} {te tk : TE} {pos p2 : Pos} (he : PE X e1 te) (hk : PE X es tk) : PE X (.Subscript e1 (.Slice none none (some es) p2) pos) (tRev X.K te tk) := by
  refine ⟨fun pins s σ H Q I h => ?_⟩
  refine Subscript_ (thn (he.run pins s σ H _ I h) fun v s1 ⟨x, H1, I1, r1, q1⟩ => ?_)
  refine wpAny_Slice ?_
  rw [evalPart_none]
  refine wpAny_pure ?_
  refine wpAny_pure ?_
  rw [evalPart_some]
  refine thn (hk.run pins s1 σ H1 _ I1 q1) fun vk s3 ⟨y, H3, I3, r3, q3⟩ => ?_
  obtain ⟨ey, a, xs, ex, hx, q⟩ := q3
  subst ey ex
  obtain ⟨t, rfl⟩ := r3
  cases r1
  obtain ⟨its, r, ht, hz⟩ := I3.list hx
  have hlen := r.length
  have I4 : Inv X pins σ H3 { s3 with heap := s3.heap.push { cls := .type "slice", data := .fields #[.none, .none, .int (-1) t] } } := I3.kept (t' := s3.toks) fun b ob q => Heap.get?_push_of_some _ q
  have ht4 : Heap.IsList (s3.heap.push { cls := .type "slice", data := .fields #[.none, .none, .int (-1) t] }) a its.toArray := ht.isList.at fun o q => Heap.get?_push_of_some _ q
  show wpAny (model X.prog X.w) X.A (subscriptTail e1 (.Slice none none (some es) p2) (.ref a) (.ref s3.heap.objs.size)) (EP X pins σ Q) X.xe { s3 with heap := s3.heap.push { cls := .type "slice", data := .fields #[.none, .none, .int (-1) t] } }
  refine tail_any (ops := [.ref a, .ref s3.heap.objs.size]) (Heap.IsList.typeIs (s := { s3 with heap := s3.heap.push { cls := .type "slice", data := .fields #[.none, .none, .int (-1) t] } }) ht4) slot_list_getitem.lookup ?_ (by with_unfolding_all rfl)
  refine wpAny_getItem_list_slice (s := { s3 with heap := s3.heap.push { cls := .type "slice", data := .fields #[.none, .none, .int (-1) t] } }) ht4 (Heap.IsSliceOf.new ..) .none .none (.int _ t) (by decide) ?_ (by rw [List.size_toArray] <;> omega)
  rw [PySem.W.krv_pick]
  refine ⟨.ref (s3.heap.push { cls := .type "slice", data := .fields #[.none, .none, .int (-1) t] }).objs.size, _, I4.laid (t' := s3.toks) (o := .lst xs.reverse) (fun b ob q => Heap.get?_push_of_some _ q) (Nat.le_refl _) ?_, rfl, q _ (I4.hok.fresh (Nat.le_refl _))⟩
  refine ⟨by rw [List.length_reverse]; omega, _, 0, r.reverse, Heap.get?_push_size _ rfl⟩
theorem k_rev {e1 es : Expr} {te tk : TE} {pos p2 : Pos} (K : PySem.W.Frag) (he : PE X e1 te) (hk : PE X es tk) (h : X.K = K := by rfl) : PE X (.Subscript e1 (.Slice none none (some es) p2) pos) (tRev K te tk) := h ▸ pe_rev he hk
end
end Wk
set_option Elab.async false
set_option maxRecDepth 100000
set_option maxHeartbeats 4000000
set_option linter.all false
namespace Wk
open PySem L2
open PyProof.Rows hiding St
def top (i : Nat) : Stmt := PySem.Challenge.pw_divisorways_k86_whole_primes_counted_two.main.body.getD i (.Pass ⟨0, 0, 0, 0⟩)
abbrev potHd : Addr → Int → Int → HO := hdL
abbrev potPt (i : PotI) : Pt PotT := potOf potHd i
structure Tx (mg : Str → Option Value) (base : Heap) : Prop where
  nd : base.NoDigits
  n_abs : mg "abs" = none
  n_all : mg "all" = none
  n_bool : mg "bool" = none
  n_dict : mg "dict" = none
  n_enumerate : mg "enumerate" = none
  n_int : mg "int" = none
  n_isinstance : mg "isinstance" = none
  n_len : mg "len" = none
  n_max : mg "max" = none
  n_range : mg "range" = none
  n_repr : mg "repr" = none
  n_set : mg "set" = none
  n_sorted : mg "sorted" = none
  n_sum : mg "sum" = none
  n_tuple : mg "tuple" = none
  n_zip : mg "zip" = none
  c_MAX_LISTED : ∃ t, mg "MAX_LISTED" = some (.int 500 t)
  c_MAX_SPAN : ∃ t, mg "MAX_SPAN" = some (.int 10000 t)
  c_MAX_SPANNED : ∃ t, mg "MAX_SPANNED" = some (.int 100000000 t)
abbrev t_first_primes : Stmt := top 1
theorem sc_first_primes : FnScope ["k", "found", "number", "p"] ["k"] (defScope t_first_primes) := ⟨rfl, rfl, rfl, by decide +kernel, rfl, by decide +kernel, by decide +kernel⟩
@[irreducible] noncomputable def m_first_primes (p_k : Int) : Option (List Int) :=
Mir.lft (grd (List.length ([] : List Int) ≤ 16000000)) >>= fun _ => bnd ([] : List Int) fun found1 =>
bnd (2 : Int) fun number12 =>
(whS many (fun (st27 : (List Int) × Int) k => k (decide ((List.length st27.1 : Int) < p_k))) (fun (st27 : (List Int) × Int) =>
Mir.lft (grd (List.length st27.1 ≤ 16000000)) >>= fun _ => cmp st27.1 (fun x67 => Mir.lft (grd (0 < x67)) >>= fun _ => pure (some (!decide ((st27.2 % x67) = (0 : Int))))) >>= fun l119 => ((if (List.all l119 id) = true then
(Mir.lft (grd (List.length st27.1 < 16000000)) >>= fun _ => bnd (st27.1 ++ [st27.2]) fun found80 =>
pure found80)
else
(pure st27.1)) >>= fun (st70 : (List Int)) =>
bnd (st27.2 + (1 : Int)) fun number109 =>
pure (st70, number109))) (found1, number12)) >>= fun (st27 : (List Int) × Int) =>
bnd st27.1 fun r137 => pure r137
noncomputable abbrev fm_first_primes : (Int) → Option (List Int) := fun a => m_first_primes a
abbrev sp_first_primes (K : PySem.W.Frag) : Sp := spV F0 fm_first_primes (fun _ => (aOne rI)) (rT K (aAll rI))
section
variable {P : Program} {w : World} {K : PySem.W.Frag} {mg : Str → Option Value} {base : Heap}
theorem g_first_primes (T : Tx mg base)  {f : Addr} {fd : FuncData} (F : Fun K "first_primes" "first_primes" t_first_primes f fd) : FnG P w K mg base CX0 1 f fd ["k"] (sp_first_primes K) := by
  refine okG0 F sc_first_primes (fun vs H Q E h => ?_) (fun cdv A outer s0_ H0 vs Q E hr gd h => ?_)
  · obtain ⟨_, _, _, _, _, _, _, _, ⟨_, rfl, _⟩, _⟩ := h
    rfl
  · obtain ⟨_, p_k, S0, s0, r, s', e0, p0, ⟨_, rfl, rfl⟩, hm0, fin0⟩ := h
    have fin : ∀ v {H' : Hp}, (∃ S', Gm (pt0).M S0 H0 S' H' ∧ PotAt pt0 s' S' H' ∧ (rT K (aAll rI)) r v S') → Q v H' := fun v {H'} ⟨S', h1, h2, h3⟩ => fin0 v S' H' h1 h2 h3
    have w0 : Wd pt0 S0 H0 S0 H0 [] := Wd.start e0
    have hm0 : Mir.run (m_first_primes p_k) s0 = some (r, s') := hm0
    unfold m_first_primes at hm0
    have sc := sc_first_primes
    refine ⟨_, pss_cons (ps_asg (pe_tup (pa_cons (pe_lst (pa_nil)) (pa_cons (pe_int) (pa_nil)))) (k_gt K (pgs_cons (pg_name (i := 1) sc.nd rfl (by first | exact Or.inl rfl | exact Or.inr rfl)) (pgs_cons (pg_name (i := 2) sc.nd rfl (by first | exact Or.inl rfl | exact Or.inr rfl)) (pgs_nil))))) (pss_cons (ps_while PassesOwn.never (pt_cmpR op_lt (pe_callB (k_len K) (by rfl) T.n_len (by decide +kernel) (pa_cons (pv 1) pa_nil)) (pv 0) (nomark _)) (pss_cons (ps_if (pt_val (pe_callB (k_all K) (by rfl) T.n_all (by decide +kernel) (pa_cons (pe_lc (own := [("p", 3)]) (g := (gName 3)) (tt := tYes) rfl sc.nd (k_pil K (pv 1)) (blkOk_by (N := ["k", "found", "number", "p"]) (sc := defScope t_first_primes) (by decide +kernel)) (fun _ _ _ _ _ => pg_name (i := 3) sc.nd rfl (by first | exact Or.inl rfl | exact Or.inr rfl)) (fun _ _ _ _ _ => pts_nil) (fun _ _ _ _ _ => pe_cmpR op_ne (pe_op op_mod (pv 2) (pv 3)) (pe_int) (nomark _))) pa_nil))) (pss_cons (ps_expr (pe_bm PySem.F.plainAttrs_list PySem.F.slot_list_append PySem.F.type_list_append mt_append (pv 1) (pa_cons (pv 2) pa_nil))) (pss_nil)) (pss_nil)) (pss_cons (ps_set (i := 2) sc.nd rfl (by first | exact Or.inl rfl | exact Or.inr rfl) (pe_op op_add (pv 2) (pe_int))) (pss_nil)))) (pss_cons (ps_ret (pe_callTy (k_tupOf K) (by rfl) T.n_tuple (by decide +kernel) (pa_cons (pv 1) pa_nil))) (pss_nil))), ?_⟩
    refine tup2_go ?_
    refine x_evL w0 p0 (l_lstL (a_nilL (R := rI))) hm0 ?_
    intro found1 q9 vs10 S2 H3 s4 w5 p6 g8 rfound11 hm7
    have rfound11 : All rI _ _ _ := rfound11
    refine x_ev w5 p6 e_cI hm7 ?_
    intro number12 vnumber20 S13 H14 s15 w16 p17 g19 rnumber21 hm18
    cases (show vnumber20 = .int number12 from rnumber21)
    have rfound11 := All.mo g19.s rfound11
    refine tup_end (is := [1, 2]) [some (.int p_k), some (.ref q9), some (.int number12), none] w16 p17 rfl (by simp) rfl ?_
    intro S22 H23 w24 p25 g26
    have rfound11 := All.mo g26.s rfound11
    refine q_wh (p := pt0) (fun st27 σ S' H' s' => ∃ (qfound_ : Addr) (usfound_ : List V), σ = [some (.int p_k), some (.ref qfound_), some (.int st27.2), none] ∧ Wd pt0 S0 H0 S' H' [(qfound_, .lst usfound_)] ∧ PotAt pt0 s' S' H' ∧ Ex S22 S' ∧ All rI S' st27.1 usfound_) ⟨_, _, rfl, w24, p25, Ex.rf, rfound11⟩ hm18 ?_ ?_ ?_ ?_
    · rintro st27 _ S36 H37 s38 ⟨qfound30, usfound31, rfl, w33, p34, eb35, rfound32⟩
      exact ⟨p34, w33.i, (t_Test (e_lt (c_lenL (w_own (A := (aAll rI)) (j := 0) w33 rfl rfl rfound32)) (e_var (R := rI) rfl rfl)))⟩
    · rintro st27 _ S45 H46 s47 S48 H49 s50 ⟨qfound39, usfound40, rfl, w42, p43, eb44, rfound41⟩ g51 p52
      exact ⟨_, _, rfl, w42.go g51, p52, eb44.tr g51.s, All.mo g51.s rfound41⟩
    · rintro st27 _ S59 H60 s61 st27_ s2_ D_ ⟨qfound53, usfound54, rfl, w56, p57, eb58, rfound55⟩ hm62 nx63
      refine q_ifj (p := pt0) (fun st70 σ S' H' s' => ∃ (qfound_ : Addr) (usfound_ : List V), σ = [some (.int p_k), some (.ref qfound_), some (.int st27.2), none] ∧ Wd pt0 S0 H0 S' H' [(qfound_, .lst usfound_)] ∧ PotAt pt0 s' S' H' ∧ Ex S59 S' ∧ All rI S' st70 usfound_) w56 p57 (t_B (c_all (EvL.rd (l_lc1 (R := rI) (g := (gName 3)) (γ := Bool) (vs := [3]) (me := fun x67 k => Mir.lft (grd (0 < x67)) >>= fun _ => k (!decide ((st27.2 % x67) = (0 : Int)))) (R' := rB) (i_own (K := K) rfl (w56.at (i := 0) rfl).1 (w56.nmAt (i := 0) rfl) rfound55) (ownOk1 (w56.at (i := 0) rfl).1 (w56.nmAt (i := 0) rfl)) (g_nm (R := rI)) (fun x σ' S hp => by obtain ⟨_, rfl, _⟩ := hp; first | rfl | exact ((wipe_set (by decide)).trans wipe_wipe)) (fun x67 σ' S1 H1 g68 hp => by have w69 := w56.go g68; obtain ⟨_, rfl, rfl⟩ := hp; have rfound55 := All.mo g68.s rfound55; exact (e_ne (e_mod (e_var (R := rI) rfl rfl) (e_var (R := rI) rfl rfl)) e_cI)) pm_nm)))) hm62 ?_ ?_ ?_
      · intro S71 H72 s73 st70_ s2_ D_ w74 p75 g76 hm77 nx78
        have rfound55 := All.mo g76.s rfound55
        have eb58 := eb58.tr g76.s
        have eb79 := g76.s
        refine q_app (j := 0) w74 p75 rfl rfl rfound55 (e_var (R := rI) rfl rfl) hm77 ?_
        intro found80 vs81 S83 H84 s85 w86 p87 e89 rfound82 hm88
        have eb58 := eb58.tr e89
        have eb79 := eb79.tr e89
        cases run_of_pure hm88
        exact nx78 _ _ _ ⟨_, _, rfl, w86, p87, eb79, rfound82⟩
      · intro S90 H91 s92 st70_ s2_ D_ w93 p94 g95 hm96 nx97
        have rfound55 := All.mo g95.s rfound55
        have eb58 := eb58.tr g95.s
        have eb98 := g95.s
        cases run_of_pure hm96
        exact nx97 _ _ _ ⟨_, _, rfl, w93, p94, eb98, rfound55⟩
      · rintro st70 _ S105 H106 s107 ⟨qfound99, usfound100, rfl, w102, p103, eb104, rfound101⟩ hm108
        have eb58 := eb58.tr eb104
        refine q_set (fun v => [some (.int p_k), some (.ref qfound99), some v, none]) (fun _ => rfl) w102 p103 (e_add (e_var (R := rI) rfl rfl) e_cI) hm108 ?_
        intro number109 vnumber117 S110 H111 s112 w113 p114 g116 rnumber118 hm115
        cases (show vnumber117 = .int number109 from rnumber118)
        have rfound101 := All.mo g116.s rfound101
        have eb58 := eb58.tr g116.s
        cases run_of_pure hm115
        exact (nx63 _ _ _ ⟨_, _, rfl, w113, p114, eb58, rfound101⟩).1
    · rintro st27 _ S126 H127 s128 ⟨qfound120, usfound121, rfl, w123, p124, eb125, rfound122⟩ hm129
      refine q_ret w123 p124 (c_tup (K := K) (w_own (A := (aAll rI)) (j := 0) w123 rfl rfl rfound122)) hm129 ?_
      intro r137 v138 S130 H131 s132 w133 p134 g136 rr139 hm135
      cases run_of_pure hm135
      exact fin _ ⟨S130, w133.g, p134, rr139⟩
end
abbrev t_struck_signs : Stmt := top 2
theorem sc_struck_signs : FnScope ["k", "found", "p", "d", "sign"] ["k"] (defScope t_struck_signs) := ⟨rfl, rfl, rfl, by decide +kernel, rfl, by decide +kernel, by decide +kernel⟩
@[irreducible] noncomputable def m_struck_signs (p_k : Int) : Option (List (Int × Int)) :=
Mir.lft (grd (List.length ([((1 : Int), (1 : Int))] : List (Int × Int)) ≤ 16000000)) >>= fun _ => bnd ([((1 : Int), (1 : Int))] : List (Int × Int)) fun found1 =>
Mir.lft (m_first_primes p_k) >>= fun r95 => (lpS r95 (fun (x13 : Int) (st11 : (List (Int × Int))) =>
Mir.lft (grd (List.length st11 ≤ 16000000)) >>= fun _ => cmp st11 (fun x61 => Mir.lft (grd (Sm x61.1 ∧ Sm x13)) >>= fun _ => pure (some ((x61.1 * x13), (-x61.2)))) >>= fun l74 => Mir.lft (grd (List.length st11 + List.length l74 ≤ 16000000)) >>= fun _ => bnd (st11 ++ l74) fun found64 =>
pure found64) found1) >>= fun (st11 : (List (Int × Int))) =>
bnd (srt2 st11) fun r92 => pure r92
noncomputable abbrev fm_struck_signs : (Int) → Option (List (Int × Int)) := fun a => m_struck_signs a
abbrev sp_struck_signs (K : PySem.W.Frag) : Sp := spV F0 fm_struck_signs (fun _ => (aOne rI)) (rT K (aAll (rT K (aCons rI (aOne rI)))))
section
variable {P : Program} {w : World} {K : PySem.W.Frag} {mg : Str → Option Value} {base : Heap}
theorem g_struck_signs (T : Tx mg base) (D0 : Dk P w K mg base "first_primes" "first_primes" t_first_primes 1 ["k"] (sp_first_primes K)) {f : Addr} {fd : FuncData} (F : Fun K "struck_signs" "struck_signs" t_struck_signs f fd) : FnG P w K mg base CX0 2 f fd ["k"] (sp_struck_signs K) := by
  obtain ⟨f0, fd0, F0, m0, G0, b0⟩ := D0
  refine okG0 F sc_struck_signs (fun vs H Q E h => ?_) (fun cdv A outer s0_ H0 vs Q E hr gd h => ?_)
  · obtain ⟨_, _, _, _, _, _, _, _, ⟨_, rfl, _⟩, _⟩ := h
    rfl
  · obtain ⟨_, p_k, S0, s0, r, s', e0, p0, ⟨_, rfl, rfl⟩, hm0, fin0⟩ := h
    have fin : ∀ v {H' : Hp}, (∃ S', Gm (pt0).M S0 H0 S' H' ∧ PotAt pt0 s' S' H' ∧ (rT K (aAll (rT K (aCons rI (aOne rI))))) r v S') → Q v H' := fun v {H'} ⟨S', h1, h2, h3⟩ => fin0 v S' H' h1 h2 h3
    have w0 : Wd pt0 S0 H0 S0 H0 [] := Wd.start e0
    have hm0 : Mir.run (m_struck_signs p_k) s0 = some (r, s') := hm0
    unfold m_struck_signs at hm0
    have sc := sc_struck_signs
    refine ⟨_, pss_cons (ps_set (i := 1) sc.nd rfl (by first | exact Or.inl rfl | exact Or.inr rfl) (pe_lst (pa_cons (pe_tup (pa_cons (pe_int) (pa_cons (pe_int) (pa_nil)))) (pa_nil)))) (pss_cons (ps_for PassesOwn.never rfl (k_pit K (pe_cG G0 (hr.mono (by decide)) gd rfl m0 F0.kp b0 pass0 (pa_cons (pv 0) (pa_nil)))) (pg_name (i := 2) sc.nd rfl (by first | exact Or.inl rfl | exact Or.inr rfl)) (pss_cons (ps_set (i := 1) sc.nd rfl (by first | exact Or.inl rfl | exact Or.inr rfl) (pe_op op_cat (pv 1) (pe_lc (own := [("d", 3), ("sign", 4)]) (g := (gTup K 2 (gCons (gName 3) (gCons (gName 4) gNil)))) (tt := tYes) rfl sc.nd (k_pil K (pv 1)) (blkOk_by (N := ["k", "found", "p", "d", "sign"]) (sc := defScope t_struck_signs) (by decide +kernel)) (fun _ _ _ _ _ => k_gt K (pgs_cons (pg_name (i := 3) sc.nd rfl (by first | exact Or.inl rfl | exact Or.inr rfl)) (pgs_cons (pg_name (i := 4) sc.nd rfl (by first | exact Or.inl rfl | exact Or.inr rfl)) (pgs_nil)))) (fun _ _ _ _ _ => pts_nil) (fun _ _ _ _ _ => pe_tup (pa_cons (pe_op op_mulX (pv 3) (pv 2)) (pa_cons (pe_un un_neg (pv 4)) (pa_nil))))))) (pss_nil))) (pss_cons (ps_ret (pe_callTy (k_tupOf K) (by rfl) T.n_tuple (by decide +kernel) (pa_cons (pe_callB (k_srtP K) (by rfl) T.n_sorted (by decide +kernel) (pa_cons (pv 1) pa_nil)) pa_nil))) (pss_nil))), ?_⟩
    refine q_set (fun v => [some (.int p_k), some v, none, none, none]) (fun _ => rfl) w0 p0 (EvL.frz (l_lstL (a_consL (e_tupP (a_cons e_cI (a_one e_cI)) (arN_cons arN_one) (by decide)) (a_nilL (R := (rPT (aCons rI (aOne rI)))))))) hm0 ?_
    intro found1 vfound9 S2 H3 s4 w5 p6 g8 rfound10 hm7
    refine q_for (p := pt0) w5 p6 (i_T (Ev.eta (e_call (E := E0) (fm := fm_first_primes) (R := (rT K (aAll rI))) (a_one (e_var (R := rI) rfl rfl))))) (g_nm (R := rI)) hm7 (fun Sb12 st11 σ S' H' s' => Ex Sb12 S' ∧ (∃ (vfound_ : V) (xp_ : Option V), σ = [some (.int p_k), some vfound_, xp_, none, none] ∧ Wd pt0 S0 H0 S' H' [] ∧ PotAt pt0 s' S' H' ∧ Ex S2 S' ∧ (rL (aAll (rPT (aCons rI (aOne rI))))) st11 vfound_ S')) ?_ ?_ ?_ ?_ ?_
    · intro S14 H15 s16 w17 p18 g19
      have rfound10 := Mo.mo g19.s rfound10
      exact ⟨Ex.rf, ⟨_, _, rfl, w17, p18, g19.s, rfound10⟩⟩
    · rintro Sb12 st11 _ S26 H27 s28 ⟨ex29, ⟨vfound20, xp21, rfl, w23, p24, eb25, rfound22⟩⟩
      exact ⟨ex29, w23.i, p24, ownOk0⟩
    · rintro Sb12 st11 _ S36 H37 s38 S39 H40 ⟨ex42, ⟨vfound30, xp31, rfl, w33, p34, eb35, rfound32⟩⟩ g41
      exact ⟨ex42.tr g41.s, _, _, rfl, w33.go (Gm.up g41), PotAt.go p34 g41, eb35.tr g41.s, Mo.mo g41.s rfound32⟩
    · rintro Sb12 x13 st11 _ σ57 S49 H50 s51 st11_ s2_ D_ ⟨ex56, ⟨vfound43, xp44, rfl, w46, p47, eb48, rfound45⟩⟩ hp hm52 nx53
      obtain ⟨_, rfl, rfl⟩ := hp
      refine q_set (fun v => [some (.int p_k), some v, some (.int x13), none, none]) (fun _ => rfl) w46 p47 (EvL.frz (l_cat (Ev.rd (e_var rfl rfound45)) (EvL.rd (l_lc1 (R := (rPT (aCons rI (aOne rI)))) (g := (gTup K 2 (gCons (gName 3) (gCons (gName 4) gNil)))) (γ := (Int × Int)) (vs := [3, 4]) (me := fun x61 k => Mir.lft (grd (Sm x61.1 ∧ Sm x13)) >>= fun _ => k ((x61.1 * x13), (-x61.2))) (R' := (rPT (aCons rI (aOne rI)))) (i_L (K := K) (e_var rfl rfound45)) ownOk0 (g_pt (g_tp (gq_cons (g_nm (R := rI)) (gq_one (g_nm (R := rI)))))) (fun x σ' S hp => by obtain ⟨_, ⟨_, rfl, _⟩, ⟨_, rfl, _⟩⟩ := hp; first | rfl | exact ((wipe_set (by decide)).trans ((wipe_set (by decide)).trans wipe_wipe))) (fun x61 σ' S1 H1 g62 hp => by have w63 := w46.go g62; obtain ⟨_, ⟨_, rfl, rfl⟩, ⟨_, rfl, rfl⟩⟩ := hp; have rfound45 := Mo.mo g62.s rfound45; exact (e_tupP (a_cons (e_mul (e_var (R := rI) rfl rfl) (e_var (R := rI) rfl rfl)) (a_one (e_neg (e_var (R := rI) rfl rfl)))) (arN_cons arN_one) (by decide))) (pm_cons pm_nm pm_nm))))) hm52 ?_
      intro found64 vfound72 S65 H66 s67 w68 p69 g71 rfound73 hm70
      have eb48 := eb48.tr g71.s
      have ex56 := ex56.tr g71.s
      cases run_of_pure hm70
      exact (nx53 _ _ _ ⟨ex56, ⟨_, _, rfl, w68, p69, eb48, rfound73⟩⟩).1
    · rintro Sb12 st11 _ S81 H82 s83 ⟨_, ⟨vfound75, xp76, rfl, w78, p79, eb80, rfound77⟩⟩ hm84
      refine q_ret w78 p79 (c_tup (K := K) (EvL.rd (l_srtP (K := K) (Ev.rd (e_var rfl rfound77))))) hm84 ?_
      intro r92 v93 S85 H86 s87 w88 p89 g91 rr94 hm90
      cases run_of_pure hm90
      exact fin _ ⟨S85, w88.g, p89, rr94⟩
end
abbrev t_left_number : Stmt := top 3
theorem sc_left_number : FnScope ["x", "k", "d", "sign"] ["x", "k"] (defScope t_left_number) := ⟨rfl, rfl, rfl, by decide +kernel, rfl, by decide +kernel, by decide +kernel⟩
@[irreducible] noncomputable def m_left_number (p_x : Int) (p_k : Int) : Option Int :=
Mir.lft (m_struck_signs p_k) >>= fun r15 => Mir.lft (grd (List.length r15 ≤ 16000000)) >>= fun _ => cmp r15 (fun x1 => Mir.lft (grd (Dv x1.1)) >>= fun _ => Mir.lft (grd (Sm x1.2 ∧ Sm (p_x / x1.1))) >>= fun _ => pure (some (x1.2 * (p_x / x1.1)))) >>= fun l14 => bnd (List.sum l14) fun r11 => pure r11
noncomputable abbrev fm_left_number : (Int × Int) → Option Int := fun (a0, a1) => m_left_number a0 a1
abbrev sp_left_number (K : PySem.W.Frag) : Sp := spV F0 fm_left_number (fun _ => (aCons rI (aOne rI))) rI
section
variable {P : Program} {w : World} {K : PySem.W.Frag} {mg : Str → Option Value} {base : Heap}
theorem g_left_number (T : Tx mg base) (D0 : Dk P w K mg base "struck_signs" "struck_signs" t_struck_signs 2 ["k"] (sp_struck_signs K)) {f : Addr} {fd : FuncData} (F : Fun K "left_number" "left_number" t_left_number f fd) : FnG P w K mg base CX0 3 f fd ["x", "k"] (sp_left_number K) := by
  obtain ⟨f0, fd0, F0, m0, G0, b0⟩ := D0
  refine okG0 F sc_left_number (fun vs H Q E h => ?_) (fun cdv A outer s0_ H0 vs Q E hr gd h => ?_)
  · obtain ⟨_, _, _, _, _, _, _, _, ⟨_, _, rfl, _, ⟨_, rfl, _⟩⟩, _⟩ := h
    rfl
  · obtain ⟨_, a, S0, s0, r, s', e0, p0, ⟨_, _, rfl, rfl, ⟨_, rfl, rfl⟩⟩, hm0, fin0⟩ := h
    obtain ⟨p_x, p_k⟩ := a
    have fin : ∀ v {H' : Hp}, (∃ S', Gm (pt0).M S0 H0 S' H' ∧ PotAt pt0 s' S' H' ∧ rI r v S') → Q v H' := fun v {H'} ⟨S', h1, h2, h3⟩ => fin0 v S' H' h1 h2 h3
    have w0 : Wd pt0 S0 H0 S0 H0 [] := Wd.start e0
    have hm0 : Mir.run (m_left_number p_x p_k) s0 = some (r, s') := hm0
    unfold m_left_number at hm0
    have sc := sc_left_number
    refine ⟨_, pss_cons (ps_ret (pe_callB (k_sum K) (by rfl) T.n_sum (by decide +kernel) (pa_cons (pe_lc (own := [("d", 2), ("sign", 3)]) (g := (gTup K 2 (gCons (gName 2) (gCons (gName 3) gNil)))) (tt := tYes) rfl sc.nd (k_pit K (pe_cG G0 (hr.mono (by decide)) gd rfl m0 F0.kp b0 pass0 (pa_cons (pv 1) (pa_nil)))) (blkOk_by (N := ["x", "k", "d", "sign"]) (sc := defScope t_left_number) (by decide +kernel)) (fun _ _ _ _ _ => k_gt K (pgs_cons (pg_name (i := 2) sc.nd rfl (by first | exact Or.inl rfl | exact Or.inr rfl)) (pgs_cons (pg_name (i := 3) sc.nd rfl (by first | exact Or.inl rfl | exact Or.inr rfl)) (pgs_nil)))) (fun _ _ _ _ _ => pts_nil) (fun _ _ _ _ _ => pe_op op_mulX (pv 3) (pe_op op_fdivW (pv 0) (pv 2)))) pa_nil))) (pss_nil), ?_⟩
    refine q_ret w0 p0 (c_sum (EvL.rd (l_lc1 (R := (rT K (aCons rI (aOne rI)))) (g := (gTup K 2 (gCons (gName 2) (gCons (gName 3) gNil)))) (γ := Int) (vs := [2, 3]) (me := fun x1 k => Mir.lft (grd (Dv x1.1)) >>= fun _ => Mir.lft (grd (Sm x1.2 ∧ Sm (p_x / x1.1))) >>= fun _ => k (x1.2 * (p_x / x1.1))) (R' := rI) (i_T (Ev.eta (e_call (E := E0) (fm := fm_struck_signs) (R := (rT K (aAll (rT K (aCons rI (aOne rI)))))) (a_one (e_var (R := rI) rfl rfl))))) ownOk0 (g_tp (gq_cons (g_nm (R := rI)) (gq_one (g_nm (R := rI))))) (fun x σ' S hp => by obtain ⟨_, ⟨_, rfl, _⟩, ⟨_, rfl, _⟩⟩ := hp; first | rfl | exact ((wipe_set (by decide)).trans ((wipe_set (by decide)).trans wipe_wipe))) (fun x1 σ' S1 H1 g2 hp => by have w3 := w0.go g2; obtain ⟨_, ⟨_, rfl, rfl⟩, ⟨_, rfl, rfl⟩⟩ := hp; exact (e_mul (e_var (R := rI) rfl rfl) (e_fdiv (e_var (R := rI) rfl rfl) (e_var (R := rI) rfl rfl)))) (pm_cons pm_nm pm_nm)))) hm0 ?_
    intro r11 v12 S4 H5 s6 w7 p8 g10 rr13 hm9
    cases run_of_pure hm9
    exact fin _ ⟨S4, w7.g, p8, rr13⟩
end
abbrev t_left_in_round : Stmt := top 4
theorem sc_left_in_round : FnScope ["k", "found", "p"] ["k"] (defScope t_left_in_round) := ⟨rfl, rfl, rfl, by decide +kernel, rfl, by decide +kernel, by decide +kernel⟩
@[irreducible] noncomputable def m_left_in_round (p_k : Int) : Option Int :=
bnd (1 : Int) fun found1 =>
Mir.lft (m_first_primes p_k) >>= fun r80 => (lpS r80 (fun (x13 : Int) (st11 : Int) =>
Mir.lft (grd (Sm st11 ∧ Sm (x13 - (1 : Int)))) >>= fun _ => bnd (st11 * (x13 - (1 : Int))) fun found52 =>
pure found52) found1) >>= fun (st11 : Int) =>
bnd st11 fun r77 => pure r77
noncomputable abbrev fm_left_in_round : (Int) → Option Int := fun a => m_left_in_round a
abbrev sp_left_in_round (K : PySem.W.Frag) : Sp := spV F0 fm_left_in_round (fun _ => (aOne rI)) rI
section
variable {P : Program} {w : World} {K : PySem.W.Frag} {mg : Str → Option Value} {base : Heap}
theorem g_left_in_round (T : Tx mg base) (D0 : Dk P w K mg base "first_primes" "first_primes" t_first_primes 1 ["k"] (sp_first_primes K)) {f : Addr} {fd : FuncData} (F : Fun K "left_in_round" "left_in_round" t_left_in_round f fd) : FnG P w K mg base CX0 2 f fd ["k"] (sp_left_in_round K) := by
  obtain ⟨f0, fd0, F0, m0, G0, b0⟩ := D0
  refine okG0 F sc_left_in_round (fun vs H Q E h => ?_) (fun cdv A outer s0_ H0 vs Q E hr gd h => ?_)
  · obtain ⟨_, _, _, _, _, _, _, _, ⟨_, rfl, _⟩, _⟩ := h
    rfl
  · obtain ⟨_, p_k, S0, s0, r, s', e0, p0, ⟨_, rfl, rfl⟩, hm0, fin0⟩ := h
    have fin : ∀ v {H' : Hp}, (∃ S', Gm (pt0).M S0 H0 S' H' ∧ PotAt pt0 s' S' H' ∧ rI r v S') → Q v H' := fun v {H'} ⟨S', h1, h2, h3⟩ => fin0 v S' H' h1 h2 h3
    have w0 : Wd pt0 S0 H0 S0 H0 [] := Wd.start e0
    have hm0 : Mir.run (m_left_in_round p_k) s0 = some (r, s') := hm0
    unfold m_left_in_round at hm0
    have sc := sc_left_in_round
    refine ⟨_, pss_cons (ps_set (i := 1) sc.nd rfl (by first | exact Or.inl rfl | exact Or.inr rfl) (pe_int)) (pss_cons (ps_for PassesOwn.never rfl (k_pit K (pe_cG G0 (hr.mono (by decide)) gd rfl m0 F0.kp b0 pass0 (pa_cons (pv 0) (pa_nil)))) (pg_name (i := 2) sc.nd rfl (by first | exact Or.inl rfl | exact Or.inr rfl)) (pss_cons (ps_set (i := 1) sc.nd rfl (by first | exact Or.inl rfl | exact Or.inr rfl) (pe_op op_mulX (pv 1) (pe_op op_sub (pv 2) (pe_int)))) (pss_nil))) (pss_cons (ps_ret (pv 1)) (pss_nil))), ?_⟩
    refine q_set (fun v => [some (.int p_k), some v, none]) (fun _ => rfl) w0 p0 e_cI hm0 ?_
    intro found1 vfound9 S2 H3 s4 w5 p6 g8 rfound10 hm7
    cases (show vfound9 = .int found1 from rfound10)
    refine q_for (p := pt0) w5 p6 (i_T (Ev.eta (e_call (E := E0) (fm := fm_first_primes) (R := (rT K (aAll rI))) (a_one (e_var (R := rI) rfl rfl))))) (g_nm (R := rI)) hm7 (fun Sb12 st11 σ S' H' s' => Ex Sb12 S' ∧ (∃ (xp_ : Option V), σ = [some (.int p_k), some (.int st11), xp_] ∧ Wd pt0 S0 H0 S' H' [] ∧ PotAt pt0 s' S' H' ∧ Ex S2 S')) ?_ ?_ ?_ ?_ ?_
    · intro S14 H15 s16 w17 p18 g19
      exact ⟨Ex.rf, ⟨_, rfl, w17, p18, g19.s⟩⟩
    · rintro Sb12 st11 _ S24 H25 s26 ⟨ex27, ⟨xp20, rfl, w21, p22, eb23⟩⟩
      exact ⟨ex27, w21.i, p22, ownOk0⟩
    · rintro Sb12 st11 _ S32 H33 s34 S35 H36 ⟨ex38, ⟨xp28, rfl, w29, p30, eb31⟩⟩ g37
      exact ⟨ex38.tr g37.s, _, rfl, w29.go (Gm.up g37), PotAt.go p30 g37, eb31.tr g37.s⟩
    · rintro Sb12 x13 st11 _ σ51 S43 H44 s45 st11_ s2_ D_ ⟨ex50, ⟨xp39, rfl, w40, p41, eb42⟩⟩ hp hm46 nx47
      obtain ⟨_, rfl, rfl⟩ := hp
      refine q_set (fun v => [some (.int p_k), some v, some (.int x13)]) (fun _ => rfl) w40 p41 (e_mul (e_var (R := rI) rfl rfl) (e_sub (e_var (R := rI) rfl rfl) e_cI)) hm46 ?_
      intro found52 vfound60 S53 H54 s55 w56 p57 g59 rfound61 hm58
      cases (show vfound60 = .int found52 from rfound61)
      have eb42 := eb42.tr g59.s
      have ex50 := ex50.tr g59.s
      cases run_of_pure hm58
      exact (nx47 _ _ _ ⟨ex50, ⟨_, rfl, w56, p57, eb42⟩⟩).1
    · rintro Sb12 st11 _ S66 H67 s68 ⟨_, ⟨xp62, rfl, w63, p64, eb65⟩⟩ hm69
      refine q_ret w63 p64 (e_var (R := rI) rfl rfl) hm69 ?_
      intro r77 v78 S70 H71 s72 w73 p74 g76 rr79 hm75
      cases run_of_pure hm75
      exact fin _ ⟨S70, w73.g, p74, rr79⟩
end
abbrev t_taken_out : Stmt := top 9
theorem sc_taken_out : FnScope ["number", "p", "often"] ["number", "p"] (defScope t_taken_out) := ⟨rfl, rfl, rfl, by decide +kernel, rfl, by decide +kernel, by decide +kernel⟩
@[irreducible] noncomputable def m_taken_out (p_number : Int) (p_p : Int) : Option (Int × Int) :=
bnd (0 : Int) fun often1 =>
(whS many (fun (st11 : Int × Int) k => Mir.lft (grd (0 < p_p)) >>= fun _ => k (decide ((st11.1 % p_p) = (0 : Int)))) (fun (st11 : Int × Int) =>
bnd (st11.2 + (1 : Int)) fun often42 =>
Mir.lft (grd (Dv p_p)) >>= fun _ => bnd (st11.1 / p_p) fun number52 =>
pure (number52, often42)) (p_number, often1)) >>= fun (st11 : Int × Int) =>
bnd (st11.2, st11.1) fun r76 => pure r76
noncomputable abbrev fm_taken_out : (Int × Int) → Option (Int × Int) := fun (a0, a1) => m_taken_out a0 a1
abbrev sp_taken_out (K : PySem.W.Frag) : Sp := spV F0 fm_taken_out (fun _ => (aCons rI (aOne rI))) (rT K (aCons rI (aOne rI)))
section
variable {P : Program} {w : World} {K : PySem.W.Frag} {mg : Str → Option Value} {base : Heap}
theorem g_taken_out (T : Tx mg base)  {f : Addr} {fd : FuncData} (F : Fun K "taken_out" "taken_out" t_taken_out f fd) : FnG P w K mg base CX0 1 f fd ["number", "p"] (sp_taken_out K) := by
  refine okG0 F sc_taken_out (fun vs H Q E h => ?_) (fun cdv A outer s0_ H0 vs Q E hr gd h => ?_)
  · obtain ⟨_, _, _, _, _, _, _, _, ⟨_, _, rfl, _, ⟨_, rfl, _⟩⟩, _⟩ := h
    rfl
  · obtain ⟨_, a, S0, s0, r, s', e0, p0, ⟨_, _, rfl, rfl, ⟨_, rfl, rfl⟩⟩, hm0, fin0⟩ := h
    obtain ⟨p_number, p_p⟩ := a
    have fin : ∀ v {H' : Hp}, (∃ S', Gm (pt0).M S0 H0 S' H' ∧ PotAt pt0 s' S' H' ∧ (rT K (aCons rI (aOne rI))) r v S') → Q v H' := fun v {H'} ⟨S', h1, h2, h3⟩ => fin0 v S' H' h1 h2 h3
    have w0 : Wd pt0 S0 H0 S0 H0 [] := Wd.start e0
    have hm0 : Mir.run (m_taken_out p_number p_p) s0 = some (r, s') := hm0
    unfold m_taken_out at hm0
    have sc := sc_taken_out
    refine ⟨_, pss_cons (ps_set (i := 2) sc.nd rfl (by first | exact Or.inl rfl | exact Or.inr rfl) (pe_int)) (pss_cons (ps_while PassesOwn.never (pt_cmpR op_eq (pe_op op_mod (pv 0) (pv 1)) (pe_int) (nomark _)) (pss_cons (ps_par (i := 2) (j := 0) rfl sc.nd rfl rfl (by decide) rfl rfl (pa_cons (pe_op op_add (pv 2) (pe_int)) (pa_cons (pe_op op_fdivW (pv 0) (pv 1)) (pa_nil))) (by rfl)) (pss_nil))) (pss_cons (ps_ret (pe_tup (pa_cons (pv 2) (pa_cons (pv 0) (pa_nil))))) (pss_nil))), ?_⟩
    refine q_set (fun v => [some (.int p_number), some (.int p_p), some v]) (fun _ => rfl) w0 p0 e_cI hm0 ?_
    intro often1 voften9 S2 H3 s4 w5 p6 g8 roften10 hm7
    cases (show voften9 = .int often1 from roften10)
    refine q_wh (p := pt0) (fun st11 σ S' H' s' => σ = [some (.int st11.1), some (.int p_p), some (.int st11.2)] ∧ Wd pt0 S0 H0 S' H' [] ∧ PotAt pt0 s' S' H' ∧ Ex S2 S') ⟨rfl, w5, p6, Ex.rf⟩ hm7 ?_ ?_ ?_ ?_
    · rintro st11 _ S17 H18 s19 ⟨rfl, w14, p15, eb16⟩
      exact ⟨p15, w14.i, (t_Test (e_eq (e_mod (e_var (R := rI) rfl rfl) (e_var (R := rI) rfl rfl)) e_cI))⟩
    · rintro st11 _ S23 H24 s25 S26 H27 s28 ⟨rfl, w20, p21, eb22⟩ g29 p30
      exact ⟨rfl, w20.go g29, p30, eb22.tr g29.s⟩
    · rintro st11 _ S34 H35 s36 st11_ s2_ D_ ⟨rfl, w31, p32, eb33⟩ hm37 nx38
      refine par_go ?_
      refine x_ev w31 p32 (e_add (e_var (R := rI) rfl rfl) e_cI) hm37 ?_
      intro often42 voften50 S43 H44 s45 w46 p47 g49 roften51 hm48
      cases (show voften50 = .int often42 from roften51)
      have eb33 := eb33.tr g49.s
      refine x_ev w46 p47 (e_fdiv (e_var (R := rI) rfl rfl) (e_var (R := rI) rfl rfl)) hm48 ?_
      intro number52 vnumber60 S53 H54 s55 w56 p57 g59 rnumber61 hm58
      cases (show vnumber60 = .int number52 from rnumber61)
      have eb33 := eb33.tr g59.s
      refine par_end [some (.int number52), some (.int p_p), some (.int often42)] rfl ?_
      cases run_of_pure hm58
      exact (nx38 _ _ _ ⟨rfl, w56, p57, eb33⟩).1
    · rintro st11 _ S65 H66 s67 ⟨rfl, w62, p63, eb64⟩ hm68
      refine q_ret w62 p63 (e_tup (K := K) (a_cons (e_var (R := rI) rfl rfl) (a_one (e_var (R := rI) rfl rfl))) (arN_cons arN_one) (by decide)) hm68 ?_
      intro r76 v77 S69 H70 s71 w72 p73 g75 rr78 hm74
      cases run_of_pure hm74
      exact fin _ ⟨S69, w72.g, p73, rr78⟩
end
abbrev t_power_left : Stmt := top 11
theorem sc_power_left : FnScope ["base", "often", "number", "found"] ["base", "often", "number"] (defScope t_power_left) := ⟨rfl, rfl, rfl, by decide +kernel, rfl, by decide +kernel, by decide +kernel⟩
@[irreducible] noncomputable def m_power_left (p_base : Int) (p_often : Int) (p_number : Int) : Option Int :=
bnd (1 : Int) fun found1 =>
Mir.lft (grd (0 < p_number)) >>= fun _ => bnd (p_base % p_number) fun base11 =>
(whS many (fun (st21 : Int × Int × Int) k => k (decide ((0 : Int) < st21.2.1))) (fun (st21 : Int × Int × Int) =>
Mir.lft (grd (0 < (2 : Int))) >>= fun _ => ((if (decide ((st21.2.1 % (2 : Int)) = (1 : Int))) = true then
(Mir.lft (grd (Sm st21.2.2 ∧ Sm st21.1)) >>= fun _ => Mir.lft (grd (0 < p_number)) >>= fun _ => bnd ((st21.2.2 * st21.1) % p_number) fun found62 =>
pure found62)
else
(pure st21.2.2)) >>= fun (st52 : Int) =>
Mir.lft (grd (Sm st21.1 ∧ Sm st21.1)) >>= fun _ => Mir.lft (grd (0 < p_number)) >>= fun _ => bnd ((st21.1 * st21.1) % p_number) fun base88 =>
Mir.lft (grd (Dv (2 : Int))) >>= fun _ => bnd (st21.2.1 / (2 : Int)) fun often98 =>
pure (base88, often98, st52))) (base11, p_often, found1)) >>= fun (st21 : Int × Int × Int) =>
bnd st21.2.2 fun r122 => pure r122
noncomputable abbrev fm_power_left : (Int × Int × Int) → Option Int := fun (a0, a1, a2) => m_power_left a0 a1 a2
abbrev sp_power_left (K : PySem.W.Frag) : Sp := spV F0 fm_power_left (fun _ => (aCons rI (aCons rI (aOne rI)))) rI
section
variable {P : Program} {w : World} {K : PySem.W.Frag} {mg : Str → Option Value} {base : Heap}
theorem g_power_left (T : Tx mg base)  {f : Addr} {fd : FuncData} (F : Fun K "power_left" "power_left" t_power_left f fd) : FnG P w K mg base CX0 1 f fd ["base", "often", "number"] (sp_power_left K) := by
  refine okG0 F sc_power_left (fun vs H Q E h => ?_) (fun cdv A outer s0_ H0 vs Q E hr gd h => ?_)
  · obtain ⟨_, _, _, _, _, _, _, _, ⟨_, _, rfl, _, ⟨_, _, rfl, _, ⟨_, rfl, _⟩⟩⟩, _⟩ := h
    rfl
  · obtain ⟨_, a, S0, s0, r, s', e0, p0, ⟨_, _, rfl, rfl, ⟨_, _, rfl, rfl, ⟨_, rfl, rfl⟩⟩⟩, hm0, fin0⟩ := h
    obtain ⟨p_base, p_often, p_number⟩ := a
    have fin : ∀ v {H' : Hp}, (∃ S', Gm (pt0).M S0 H0 S' H' ∧ PotAt pt0 s' S' H' ∧ rI r v S') → Q v H' := fun v {H'} ⟨S', h1, h2, h3⟩ => fin0 v S' H' h1 h2 h3
    have w0 : Wd pt0 S0 H0 S0 H0 [] := Wd.start e0
    have hm0 : Mir.run (m_power_left p_base p_often p_number) s0 = some (r, s') := hm0
    unfold m_power_left at hm0
    have sc := sc_power_left
    refine ⟨_, pss_cons (ps_par (i := 3) (j := 0) rfl sc.nd rfl rfl (by decide) rfl rfl (pa_cons (pe_int) (pa_cons (pe_op op_mod (pv 0) (pv 2)) (pa_nil))) (by rfl)) (pss_cons (ps_while PassesOwn.never (pt_cmpR op_gt (pv 1) (pe_int) (nomark _)) (pss_cons (ps_if (pt_cmpR op_eq (pe_op op_mod (pv 1) (pe_int)) (pe_int) (nomark _)) (pss_cons (ps_set (i := 3) sc.nd rfl (by first | exact Or.inl rfl | exact Or.inr rfl) (pe_op op_mod (pe_op op_mulX (pv 3) (pv 0)) (pv 2))) (pss_nil)) (pss_nil)) (pss_cons (ps_par (i := 0) (j := 1) rfl sc.nd rfl rfl (by decide) rfl rfl (pa_cons (pe_op op_mod (pe_op op_mulX (pv 0) (pv 0)) (pv 2)) (pa_cons (pe_op op_fdivW (pv 1) (pe_int)) (pa_nil))) (by rfl)) (pss_nil)))) (pss_cons (ps_ret (pv 3)) (pss_nil))), ?_⟩
    refine par_go ?_
    refine x_ev w0 p0 e_cI hm0 ?_
    intro found1 vfound9 S2 H3 s4 w5 p6 g8 rfound10 hm7
    cases (show vfound9 = .int found1 from rfound10)
    refine x_ev w5 p6 (e_mod (e_var (R := rI) rfl rfl) (e_var (R := rI) rfl rfl)) hm7 ?_
    intro base11 vbase19 S12 H13 s14 w15 p16 g18 rbase20 hm17
    cases (show vbase19 = .int base11 from rbase20)
    refine par_end [some (.int base11), some (.int p_often), some (.int p_number), some (.int found1)] rfl ?_
    refine q_wh (p := pt0) (fun st21 σ S' H' s' => σ = [some (.int st21.1), some (.int st21.2.1), some (.int p_number), some (.int st21.2.2)] ∧ Wd pt0 S0 H0 S' H' [] ∧ PotAt pt0 s' S' H' ∧ Ex S12 S') ⟨rfl, w15, p16, Ex.rf⟩ hm17 ?_ ?_ ?_ ?_
    · rintro st21 _ S27 H28 s29 ⟨rfl, w24, p25, eb26⟩
      exact ⟨p25, w24.i, (t_Test (e_gt (e_var (R := rI) rfl rfl) e_cI))⟩
    · rintro st21 _ S33 H34 s35 S36 H37 s38 ⟨rfl, w30, p31, eb32⟩ g39 p40
      exact ⟨rfl, w30.go g39, p40, eb32.tr g39.s⟩
    · rintro st21 _ S44 H45 s46 st21_ s2_ D_ ⟨rfl, w41, p42, eb43⟩ hm47 nx48
      refine q_ifj (p := pt0) (fun st52 σ S' H' s' => σ = [some (.int st21.1), some (.int st21.2.1), some (.int p_number), some (.int st52)] ∧ Wd pt0 S0 H0 S' H' [] ∧ PotAt pt0 s' S' H' ∧ Ex S44 S') w41 p42 (t_Test (e_eq (e_mod (e_var (R := rI) rfl rfl) e_cI) e_cI)) hm47 ?_ ?_ ?_
      · intro S53 H54 s55 st52_ s2_ D_ w56 p57 g58 hm59 nx60
        have eb43 := eb43.tr g58.s
        have eb61 := g58.s
        refine q_set (fun v => [some (.int st21.1), some (.int st21.2.1), some (.int p_number), some v]) (fun _ => rfl) w56 p57 (e_mod (e_mul (e_var (R := rI) rfl rfl) (e_var (R := rI) rfl rfl)) (e_var (R := rI) rfl rfl)) hm59 ?_
        intro found62 vfound70 S63 H64 s65 w66 p67 g69 rfound71 hm68
        cases (show vfound70 = .int found62 from rfound71)
        have eb43 := eb43.tr g69.s
        have eb61 := eb61.tr g69.s
        cases run_of_pure hm68
        exact nx60 _ _ _ ⟨rfl, w66, p67, eb61⟩
      · intro S72 H73 s74 st52_ s2_ D_ w75 p76 g77 hm78 nx79
        have eb43 := eb43.tr g77.s
        have eb80 := g77.s
        cases run_of_pure hm78
        exact nx79 _ _ _ ⟨rfl, w75, p76, eb80⟩
      · rintro st52 _ S84 H85 s86 ⟨rfl, w81, p82, eb83⟩ hm87
        have eb43 := eb43.tr eb83
        refine par_go ?_
        refine x_ev w81 p82 (e_mod (e_mul (e_var (R := rI) rfl rfl) (e_var (R := rI) rfl rfl)) (e_var (R := rI) rfl rfl)) hm87 ?_
        intro base88 vbase96 S89 H90 s91 w92 p93 g95 rbase97 hm94
        cases (show vbase96 = .int base88 from rbase97)
        have eb43 := eb43.tr g95.s
        refine x_ev w92 p93 (e_fdiv (e_var (R := rI) rfl rfl) e_cI) hm94 ?_
        intro often98 voften106 S99 H100 s101 w102 p103 g105 roften107 hm104
        cases (show voften106 = .int often98 from roften107)
        have eb43 := eb43.tr g105.s
        refine par_end [some (.int base88), some (.int often98), some (.int p_number), some (.int st52)] rfl ?_
        cases run_of_pure hm104
        exact (nx48 _ _ _ ⟨rfl, w102, p103, eb43⟩).1
    · rintro st21 _ S111 H112 s113 ⟨rfl, w108, p109, eb110⟩ hm114
      refine q_ret w108 p109 (e_var (R := rI) rfl rfl) hm114 ?_
      intro r122 v123 S115 H116 s117 w118 p119 g121 rr124 hm120
      cases run_of_pure hm120
      exact fin _ ⟨S115, w118.g, p119, rr124⟩
end
abbrev t_does_pass : Stmt := top 12
theorem sc_does_pass : FnScope ["number", "base", "often", "odd", "here", "step"] ["number", "base", "often", "odd"] (defScope t_does_pass) := ⟨rfl, rfl, rfl, by decide +kernel, rfl, by decide +kernel, by decide +kernel⟩
@[irreducible] noncomputable def m_does_pass (p_number : Int) (p_base : Int) (p_often : Int) (p_odd : Int) : Option Bool :=
Mir.lft (m_power_left p_base p_odd p_number) >>= fun r130 => bnd r130 fun here1 =>
Mir.lft (grd (List.length ([(1 : Int), (p_number - (1 : Int))] : List Int) ≤ 16000000)) >>= fun _ => if (List.contains ([(1 : Int), (p_number - (1 : Int))] : List Int) here1) = true then
(bnd true fun r25 => pure r25)
else
(Mir.lft (grd (RgB (p_often - (1 : Int)))) >>= fun _ => (lpC (ρ := Bool) (rng 0 (p_often - (1 : Int))) (fun (x37 : Int) (st35 : Int) =>
Mir.lft (grd (Sm st35 ∧ Sm st35)) >>= fun _ => Mir.lft (grd (0 < p_number)) >>= fun _ => bnd ((st35 * st35) % p_number) fun here76 =>
if (decide (here76 = (p_number - (1 : Int)))) = true then
(bnd true fun r100 => pure (Ctl.ret r100))
else
(pure (Ctl.go here76))) here1) >>= fun o => aft o (fun (st35 : Int) =>
bnd false fun r125 => pure r125) (fun r128 => pure r128))
noncomputable abbrev fm_does_pass : (Int × Int × Int × Int) → Option Bool := fun (a0, a1, a2, a3) => m_does_pass a0 a1 a2 a3
abbrev sp_does_pass (K : PySem.W.Frag) : Sp := spV F0 fm_does_pass (fun _ => (aCons rI (aCons rI (aCons rI (aOne rI))))) rB
section
variable {P : Program} {w : World} {K : PySem.W.Frag} {mg : Str → Option Value} {base : Heap}
theorem g_does_pass (T : Tx mg base) (D0 : Dk P w K mg base "power_left" "power_left" t_power_left 1 ["base", "often", "number"] (sp_power_left K)) {f : Addr} {fd : FuncData} (F : Fun K "does_pass" "does_pass" t_does_pass f fd) : FnG P w K mg base CX0 2 f fd ["number", "base", "often", "odd"] (sp_does_pass K) := by
  obtain ⟨f0, fd0, F0, m0, G0, b0⟩ := D0
  refine okG0 F sc_does_pass (fun vs H Q E h => ?_) (fun cdv A outer s0_ H0 vs Q E hr gd h => ?_)
  · obtain ⟨_, _, _, _, _, _, _, _, ⟨_, _, rfl, _, ⟨_, _, rfl, _, ⟨_, _, rfl, _, ⟨_, rfl, _⟩⟩⟩⟩, _⟩ := h
    rfl
  · obtain ⟨_, a, S0, s0, r, s', e0, p0, ⟨_, _, rfl, rfl, ⟨_, _, rfl, rfl, ⟨_, _, rfl, rfl, ⟨_, rfl, rfl⟩⟩⟩⟩, hm0, fin0⟩ := h
    obtain ⟨p_number, p_base, p_often, p_odd⟩ := a
    have fin : ∀ v {H' : Hp}, (∃ S', Gm (pt0).M S0 H0 S' H' ∧ PotAt pt0 s' S' H' ∧ rB r v S') → Q v H' := fun v {H'} ⟨S', h1, h2, h3⟩ => fin0 v S' H' h1 h2 h3
    have w0 : Wd pt0 S0 H0 S0 H0 [] := Wd.start e0
    have hm0 : Mir.run (m_does_pass p_number p_base p_often p_odd) s0 = some (r, s') := hm0
    unfold m_does_pass at hm0
    have sc := sc_does_pass
    refine ⟨_, pss_cons (ps_set (i := 4) sc.nd rfl (by first | exact Or.inl rfl | exact Or.inr rfl) (pe_cG G0 (hr.mono (by decide)) gd rfl m0 F0.kp b0 pass0 (pa_cons (pv 1) (pa_cons (pv 3) (pa_cons (pv 0) (pa_nil)))))) (pss_cons (ps_if (pt_cmpR (k_in K) (pv 4) (pe_tup (pa_cons (pe_int) (pa_cons (pe_op op_sub (pv 0) (pe_int)) (pa_nil)))) (by rfl)) (pss_cons (ps_ret (pe_bl)) (pss_nil)) (pss_nil)) (pss_cons (ps_for PassesOwn.never rfl (pi_range1 rfl T.n_range (pa_cons (pe_op op_sub (pv 2) (pe_int)) pa_nil)) (pg_name (i := 5) sc.nd rfl (by first | exact Or.inl rfl | exact Or.inr rfl)) (pss_cons (ps_set (i := 4) sc.nd rfl (by first | exact Or.inl rfl | exact Or.inr rfl) (pe_op op_mod (pe_op op_mulX (pv 4) (pv 4)) (pv 0))) (pss_cons (ps_if (pt_cmpR op_eq (pv 4) (pe_op op_sub (pv 0) (pe_int)) (nomark _)) (pss_cons (ps_ret (pe_bl)) (pss_nil)) (pss_nil)) (pss_nil)))) (pss_cons (ps_ret (pe_bl)) (pss_nil)))), ?_⟩
    refine q_set (fun v => [some (.int p_number), some (.int p_base), some (.int p_often), some (.int p_odd), some v, none]) (fun _ => rfl) w0 p0 (Ev.eta (e_call (E := E0) (fm := fm_power_left) (R := rI) (a_cons (e_var (R := rI) rfl rfl) (a_cons (e_var (R := rI) rfl rfl) (a_one (e_var (R := rI) rfl rfl)))))) hm0 ?_
    intro here1 vhere9 S2 H3 s4 w5 p6 g8 rhere10 hm7
    cases (show vhere9 = .int here1 from rhere10)
    refine q_if w5 p6 (t_Test (e_inT (neg := false) (e_var (R := rI) rfl rfl) (e_tupL (K := K) (a_consL e_cI (a_consL (e_sub (e_var (R := rI) rfl rfl) e_cI) (a_nilL (R := rI))))))) hm7 ?_ ?_
    · intro S11 H12 s13 w14 p15 g16 hm17
      refine q_ret w14 p15 e_cB hm17 ?_
      intro r25 v26 S18 H19 s20 w21 p22 g24 rr27 hm23
      cases run_of_pure hm23
      exact fin _ ⟨S18, w21.g, p22, rr27⟩
    · intro S28 H29 s30 w31 p32 g33 hm34
      refine nx_done ?_
      refine q_forC (p := pt0) (ρ := Bool) w31 p32 (i_R1 (e_sub (e_var (R := rI) rfl rfl) e_cI)) (g_nm (R := rI)) hm34 (fun Sb36 st35 σ S' H' s' => Ex Sb36 S' ∧ (∃ (xstep_ : Option V), σ = [some (.int p_number), some (.int p_base), some (.int p_often), some (.int p_odd), some (.int st35), xstep_] ∧ Wd pt0 S0 H0 S' H' [] ∧ PotAt pt0 s' S' H' ∧ Ex S28 S')) (fun r v H' s' => ∃ S', Gm (pt0).M S0 H0 S' H' ∧ PotAt pt0 s' S' H' ∧ rB r v S') ?_ ?_ ?_ ?_ ?_ ?_
      · intro S38 H39 s40 w41 p42 g43
        exact ⟨Ex.rf, ⟨_, rfl, w41, p42, g43.s⟩⟩
      · rintro Sb36 st35 _ S48 H49 s50 ⟨ex51, ⟨xstep44, rfl, w45, p46, eb47⟩⟩
        exact ⟨ex51, w45.i, p46, ownOk0⟩
      · rintro Sb36 st35 _ S56 H57 s58 S59 H60 ⟨ex62, ⟨xstep52, rfl, w53, p54, eb55⟩⟩ g61
        exact ⟨ex62.tr g61.s, _, rfl, w53.go (Gm.up g61), PotAt.go p54 g61, eb55.tr g61.s⟩
      · rintro Sb36 x37 st35 _ σ75 S67 H68 s69 st35_ s2_ D_ ⟨ex74, ⟨xstep63, rfl, w64, p65, eb66⟩⟩ hp hm70 nx71 bk72 rt73
        obtain ⟨_, rfl, rfl⟩ := hp
        refine q_set (fun v => [some (.int p_number), some (.int p_base), some (.int p_often), some (.int p_odd), some v, some (.int x37)]) (fun _ => rfl) w64 p65 (e_mod (e_mul (e_var (R := rI) rfl rfl) (e_var (R := rI) rfl rfl)) (e_var (R := rI) rfl rfl)) hm70 ?_
        intro here76 vhere84 S77 H78 s79 w80 p81 g83 rhere85 hm82
        cases (show vhere84 = .int here76 from rhere85)
        have eb66 := eb66.tr g83.s
        have ex74 := ex74.tr g83.s
        refine q_if w80 p81 (t_Test (e_eq (e_var (R := rI) rfl rfl) (e_sub (e_var (R := rI) rfl rfl) e_cI))) hm82 ?_ ?_
        · intro S86 H87 s88 w89 p90 g91 hm92
          have eb66 := eb66.tr g91.s
          have ex74 := ex74.tr g91.s
          refine q_ret w89 p90 e_cB hm92 ?_
          intro r100 v101 S93 H94 s95 w96 p97 g99 rr102 hm98
          cases run_of_pure hm98
          exact rt73 _ _ _ rfl ⟨S93, w96.g, p97, rr102⟩
        · intro S103 H104 s105 w106 p107 g108 hm109
          have eb66 := eb66.tr g108.s
          have ex74 := ex74.tr g108.s
          refine nx_done ?_
          cases run_of_pure hm109
          exact (nx71 _ _ _ _ rfl ⟨ex74, ⟨_, rfl, w106, p107, eb66⟩⟩).1
      · rintro Sb36 st35 _ S114 H115 s116 ⟨_, ⟨xstep110, rfl, w111, p112, eb113⟩⟩ hm117
        have hm117 := hm117.elim id id
        refine q_ret w111 p112 e_cB hm117 ?_
        intro r125 v126 S118 H119 s120 w121 p122 g124 rr127 hm123
        cases run_of_pure hm123
        exact fin _ ⟨S118, w121.g, p122, rr127⟩
      · intro r128 v129 H' s' hr1 hm1
        cases run_of_pure hm1
        exact fin _ hr1
end
abbrev t_is_prime_number : Stmt := top 10
theorem sc_is_prime_number : FnScope ["number", "small", "p", "often", "odd"] ["number"] (defScope t_is_prime_number) := ⟨rfl, rfl, rfl, by decide +kernel, rfl, by decide +kernel, by decide +kernel⟩
@[irreducible] noncomputable def m_is_prime_number (p_number : Int) : Option Bool :=
if (decide (p_number < (2 : Int))) = true then
(bnd false fun r15 => pure r15)
else
(Mir.lft (grd (List.length ([(2 : Int), (3 : Int), (5 : Int), (7 : Int), (11 : Int), (13 : Int), (17 : Int), (19 : Int), (23 : Int), (29 : Int), (31 : Int), (37 : Int)] : List Int) ≤ 16000000)) >>= fun _ => bnd ([(2 : Int), (3 : Int), (5 : Int), (7 : Int), (11 : Int), (13 : Int), (17 : Int), (19 : Int), (23 : Int), (29 : Int), (31 : Int), (37 : Int)] : List Int) fun small25 =>
(lpC (ρ := Bool) small25 (fun (x37 : Int) (st35 : Unit) =>
Mir.lft (grd (0 < x37)) >>= fun _ => if (decide ((p_number % x37) = (0 : Int))) = true then
(bnd (decide (p_number = x37)) fun r90 => pure (Ctl.ret r90))
else
(pure (Ctl.go ()))) ()) >>= fun o => aft o (fun (st35 : Unit) =>
Mir.lft (m_taken_out (p_number - (1 : Int)) (2 : Int)) >>= fun r133 => bnd r133 fun t108 =>
Mir.lft (grd (List.length small25 ≤ 16000000)) >>= fun _ => cmp small25 (fun x117 => Mir.lft (m_does_pass p_number x117 t108.1 t108.2) >>= fun r121 => pure (some r121)) >>= fun l132 => bnd (List.all l132 id) fun r129 => pure r129) (fun r134 => pure r134))
noncomputable abbrev fm_is_prime_number : (Int) → Option Bool := fun a => m_is_prime_number a
abbrev sp_is_prime_number (K : PySem.W.Frag) : Sp := spV F0 fm_is_prime_number (fun _ => (aOne rI)) rB
section
variable {P : Program} {w : World} {K : PySem.W.Frag} {mg : Str → Option Value} {base : Heap}
theorem g_is_prime_number (T : Tx mg base) (D0 : Dk P w K mg base "taken_out" "taken_out" t_taken_out 1 ["number", "p"] (sp_taken_out K)) (D1 : Dk P w K mg base "does_pass" "does_pass" t_does_pass 2 ["number", "base", "often", "odd"] (sp_does_pass K)) {f : Addr} {fd : FuncData} (F : Fun K "is_prime_number" "is_prime_number" t_is_prime_number f fd) : FnG P w K mg base CX0 3 f fd ["number"] (sp_is_prime_number K) := by
  obtain ⟨f0, fd0, F0, m0, G0, b0⟩ := D0
  obtain ⟨f1, fd1, F1, m1, G1, b1⟩ := D1
  refine okG0 F sc_is_prime_number (fun vs H Q E h => ?_) (fun cdv A outer s0_ H0 vs Q E hr gd h => ?_)
  · obtain ⟨_, _, _, _, _, _, _, _, ⟨_, rfl, _⟩, _⟩ := h
    rfl
  · obtain ⟨_, p_number, S0, s0, r, s', e0, p0, ⟨_, rfl, rfl⟩, hm0, fin0⟩ := h
    have fin : ∀ v {H' : Hp}, (∃ S', Gm (pt0).M S0 H0 S' H' ∧ PotAt pt0 s' S' H' ∧ rB r v S') → Q v H' := fun v {H'} ⟨S', h1, h2, h3⟩ => fin0 v S' H' h1 h2 h3
    have w0 : Wd pt0 S0 H0 S0 H0 [] := Wd.start e0
    have hm0 : Mir.run (m_is_prime_number p_number) s0 = some (r, s') := hm0
    unfold m_is_prime_number at hm0
    have sc := sc_is_prime_number
    refine ⟨_, pss_cons (ps_if (pt_cmpR op_lt (pv 0) (pe_int) (nomark _)) (pss_cons (ps_ret (pe_bl)) (pss_nil)) (pss_nil)) (pss_cons (ps_set (i := 1) sc.nd rfl (by first | exact Or.inl rfl | exact Or.inr rfl) (pe_tup (pa_cons (pe_int) (pa_cons (pe_int) (pa_cons (pe_int) (pa_cons (pe_int) (pa_cons (pe_int) (pa_cons (pe_int) (pa_cons (pe_int) (pa_cons (pe_int) (pa_cons (pe_int) (pa_cons (pe_int) (pa_cons (pe_int) (pa_cons (pe_int) (pa_nil))))))))))))))) (pss_cons (ps_for PassesOwn.never rfl (k_pit K (pv 1)) (pg_name (i := 2) sc.nd rfl (by first | exact Or.inl rfl | exact Or.inr rfl)) (pss_cons (ps_if (pt_cmpR op_eq (pe_op op_mod (pv 0) (pv 2)) (pe_int) (nomark _)) (pss_cons (ps_ret (pe_cmpR op_eq (pv 0) (pv 2) (nomark _))) (pss_nil)) (pss_nil)) (pss_nil))) (pss_cons (ps_asg (pe_cG G0 (hr.mono (by decide)) gd rfl m0 F0.kp b0 pass0 (pa_cons (pe_op op_sub (pv 0) (pe_int)) (pa_cons (pe_int) (pa_nil)))) (k_gt K (pgs_cons (pg_name (i := 3) sc.nd rfl (by first | exact Or.inl rfl | exact Or.inr rfl)) (pgs_cons (pg_name (i := 4) sc.nd rfl (by first | exact Or.inl rfl | exact Or.inr rfl)) (pgs_nil))))) (pss_cons (ps_ret (pe_callB (k_all K) (by rfl) T.n_all (by decide +kernel) (pa_cons (pe_lc (own := [("p", 2)]) (g := (gName 2)) (tt := tYes) rfl sc.nd (k_pit K (pv 1)) (blkOk_by (N := ["number", "small", "p", "often", "odd"]) (sc := defScope t_is_prime_number) (by decide +kernel)) (fun _ _ _ _ _ => pg_name (i := 2) sc.nd rfl (by first | exact Or.inl rfl | exact Or.inr rfl)) (fun _ _ _ _ _ => pts_nil) (fun _ _ _ _ _ => pe_cG G1 (hr.mono (by decide)) gd rfl m1 F1.kp b1 pass0 (pa_cons (pv 0) (pa_cons (pv 2) (pa_cons (pv 3) (pa_cons (pv 4) (pa_nil))))))) pa_nil))) (pss_nil))))), ?_⟩
    refine q_if w0 p0 (t_Test (e_lt (e_var (R := rI) rfl rfl) e_cI)) hm0 ?_ ?_
    · intro S1 H2 s3 w4 p5 g6 hm7
      refine q_ret w4 p5 e_cB hm7 ?_
      intro r15 v16 S8 H9 s10 w11 p12 g14 rr17 hm13
      cases run_of_pure hm13
      exact fin _ ⟨S8, w11.g, p12, rr17⟩
    · intro S18 H19 s20 w21 p22 g23 hm24
      refine nx_done ?_
      refine q_set (fun v => [some (.int p_number), some v, none, none, none]) (fun _ => rfl) w21 p22 (e_tupL (K := K) (a_consL e_cI (a_consL e_cI (a_consL e_cI (a_consL e_cI (a_consL e_cI (a_consL e_cI (a_consL e_cI (a_consL e_cI (a_consL e_cI (a_consL e_cI (a_consL e_cI (a_consL e_cI (a_nilL (R := rI))))))))))))))) hm24 ?_
      intro small25 vsmall33 S26 H27 s28 w29 p30 g32 rsmall34 hm31
      refine q_forC (p := pt0) (ρ := Bool) w29 p30 (i_T (e_var rfl rsmall34)) (g_nm (R := rI)) hm31 (fun Sb36 st35 σ S' H' s' => Ex Sb36 S' ∧ (∃ (xp_ : Option V), σ = [some (.int p_number), some vsmall33, xp_, none, none] ∧ Wd pt0 S0 H0 S' H' [] ∧ PotAt pt0 s' S' H' ∧ Ex S26 S')) (fun r v H' s' => ∃ S', Gm (pt0).M S0 H0 S' H' ∧ PotAt pt0 s' S' H' ∧ rB r v S') ?_ ?_ ?_ ?_ ?_ ?_
      · intro S38 H39 s40 w41 p42 g43
        have rsmall34 := Mo.mo g43.s rsmall34
        exact ⟨Ex.rf, ⟨_, rfl, w41, p42, g43.s⟩⟩
      · rintro Sb36 st35 _ S48 H49 s50 ⟨ex51, ⟨xp44, rfl, w45, p46, eb47⟩⟩
        exact ⟨ex51, w45.i, p46, ownOk0⟩
      · rintro Sb36 st35 _ S56 H57 s58 S59 H60 ⟨ex62, ⟨xp52, rfl, w53, p54, eb55⟩⟩ g61
        exact ⟨ex62.tr g61.s, _, rfl, w53.go (Gm.up g61), PotAt.go p54 g61, eb55.tr g61.s⟩
      · rintro Sb36 x37 st35 _ σ75 S67 H68 s69 st35_ s2_ D_ ⟨ex74, ⟨xp63, rfl, w64, p65, eb66⟩⟩ hp hm70 nx71 bk72 rt73
        obtain ⟨_, rfl, rfl⟩ := hp
        have rsmall34 := Mo.mo eb66 rsmall34
        refine q_if w64 p65 (t_Test (e_eq (e_mod (e_var (R := rI) rfl rfl) (e_var (R := rI) rfl rfl)) e_cI)) hm70 ?_ ?_
        · intro S76 H77 s78 w79 p80 g81 hm82
          have rsmall34 := Mo.mo g81.s rsmall34
          have eb66 := eb66.tr g81.s
          have ex74 := ex74.tr g81.s
          refine q_ret w79 p80 (e_eq (e_var (R := rI) rfl rfl) (e_var (R := rI) rfl rfl)) hm82 ?_
          intro r90 v91 S83 H84 s85 w86 p87 g89 rr92 hm88
          cases run_of_pure hm88
          exact rt73 _ _ _ rfl ⟨S83, w86.g, p87, rr92⟩
        · intro S93 H94 s95 w96 p97 g98 hm99
          have rsmall34 := Mo.mo g98.s rsmall34
          have eb66 := eb66.tr g98.s
          have ex74 := ex74.tr g98.s
          refine nx_done ?_
          cases run_of_pure hm99
          exact (nx71 _ _ _ _ rfl ⟨ex74, ⟨_, rfl, w96, p97, eb66⟩⟩).1
      · rintro Sb36 st35 _ S104 H105 s106 ⟨_, ⟨xp100, rfl, w101, p102, eb103⟩⟩ hm107
        have hm107 := hm107.elim id id
        have rsmall34 := Mo.mo eb103 rsmall34
        refine q_unp w101 p102 (Ev.eta (e_call (E := E0) (fm := fm_taken_out) (R := (rT K (aCons rI (aOne rI)))) (a_cons (e_sub (e_var (R := rI) rfl rfl) e_cI) (a_one e_cI)))) (g_tp (gq_cons (g_nm (R := rI)) (gq_one (g_nm (R := rI))))) hm107 ?_
        intro t108 σ116 S109 H110 s111 w112 p113 g115 hp hm114
        have rsmall34 := Mo.mo g115.s rsmall34
        obtain ⟨_, ⟨_, rfl, rfl⟩, ⟨_, rfl, rfl⟩⟩ := hp
        refine q_ret w112 p113 (c_all (EvL.rd (l_lc1 (R := rI) (g := (gName 2)) (γ := Bool) (vs := [2]) (me := fun x117 k => Mir.lft (m_does_pass p_number x117 t108.1 t108.2) >>= fun r120 => k r120) (R' := rB) (i_T (e_var rfl rsmall34)) ownOk0 (g_nm (R := rI)) (fun x σ' S hp => by obtain ⟨_, rfl, _⟩ := hp; first | rfl | exact ((wipe_set (by decide)).trans wipe_wipe)) (fun x117 σ' S1 H1 g118 hp => by have w119 := w112.go g118; obtain ⟨_, rfl, rfl⟩ := hp; have rsmall34 := Mo.mo g118.s rsmall34; exact (Ev.eta (e_call (E := E0) (fm := fm_does_pass) (R := rB) (a_cons (e_var (R := rI) rfl rfl) (a_cons (e_var (R := rI) rfl rfl) (a_cons (e_var (R := rI) rfl rfl) (a_one (e_var (R := rI) rfl rfl)))))))) pm_nm))) hm114 ?_
        intro r129 v130 S122 H123 s124 w125 p126 g128 rr131 hm127
        cases run_of_pure hm127
        exact fin _ ⟨S122, w125.g, p126, rr131⟩
      · intro r134 v135 H' s' hr1 hm1
        cases run_of_pure hm1
        exact fin _ hr1
end
abbrev t_primes_of : Stmt := top 13
theorem sc_primes_of : FnScope ["number", "found", "p", "often"] ["number"] (defScope t_primes_of) := ⟨rfl, rfl, rfl, by decide +kernel, rfl, by decide +kernel, by decide +kernel⟩
@[irreducible] noncomputable def m_primes_of (p_number : Int) : Option (List (Int × Int)) :=
Mir.lft (grd (List.length ([] : List (Int × Int)) ≤ 16000000)) >>= fun _ => bnd ([] : List (Int × Int)) fun found1 =>
bnd (2 : Int) fun p12 =>
(whC many (fun (st22 : Int × (List (Int × Int)) × Int) k => Mir.lft (grd (Sm st22.2.2 ∧ Sm st22.2.2)) >>= fun _ => k (decide ((st22.2.2 * st22.2.2) ≤ st22.1))) (fun (st22 : Int × (List (Int × Int)) × Int) =>
Mir.lft (grd (0 < st22.2.2)) >>= fun _ => if (decide ((st22.1 % st22.2.2) = (0 : Int))) = true then
(Mir.lft (m_taken_out st22.1 st22.2.2) >>= fun r134 => bnd r134 fun t72 =>
Mir.lft (grd (List.length st22.2.1 < 16000000)) >>= fun _ => bnd (st22.2.1 ++ [(st22.2.2, t72.1)]) fun found81 =>
Mir.lft (m_is_prime_number t72.2) >>= fun r133 => if r133 = true then
(pure (Ctl.brk (t72.2, found81, st22.2.2)))
else
((if (decide (st22.2.2 = (1009 : Int))) = true then Mir.lft (m_is_prime_number t72.2) >>= fun r132 => pure r132 else pure false) >>= fun b131 => if b131 = true then
(pure (Ctl.brk (t72.2, found81, st22.2.2)))
else
((if (decide (st22.2.2 = (2 : Int))) = true then pure (1 : Int) else (if (decide (st22.2.2 = (3 : Int))) = true then pure true else Mir.lft (grd (0 < (6 : Int))) >>= fun _ => pure (decide ((st22.2.2 % (6 : Int)) = (5 : Int)))) >>= fun b130 => pure (if b130 = true then (2 : Int) else (4 : Int))) >>= fun c129 => bnd (st22.2.2 + c129) fun p119 =>
pure (Ctl.go (t72.2, found81, p119)))))
else
((if (decide (st22.2.2 = (1009 : Int))) = true then Mir.lft (m_is_prime_number st22.1) >>= fun r169 => pure r169 else pure false) >>= fun b168 => if b168 = true then
(pure (Ctl.brk (st22.1, st22.2.1, st22.2.2)))
else
((if (decide (st22.2.2 = (2 : Int))) = true then pure (1 : Int) else (if (decide (st22.2.2 = (3 : Int))) = true then pure true else Mir.lft (grd (0 < (6 : Int))) >>= fun _ => pure (decide ((st22.2.2 % (6 : Int)) = (5 : Int)))) >>= fun b167 => pure (if b167 = true then (2 : Int) else (4 : Int))) >>= fun c166 => bnd (st22.2.2 + c166) fun p156 =>
pure (Ctl.go (st22.1, st22.2.1, p156))))) (p_number, found1, p12)) >>= fun o => aft o (fun (st22 : Int × (List (Int × Int)) × Int) =>
(if (decide ((1 : Int) < st22.1)) = true then Mir.lft (grd (List.length ([(st22.1, (1 : Int))] : List (Int × Int)) ≤ 16000000)) >>= fun _ => pure ([(st22.1, (1 : Int))] : List (Int × Int)) else Mir.lft (grd (List.length ([] : List (Int × Int)) ≤ 16000000)) >>= fun _ => pure ([] : List (Int × Int))) >>= fun c191 => Mir.lft (grd (List.length st22.2.1 + List.length c191 ≤ 16000000)) >>= fun _ => bnd (st22.2.1 ++ c191) fun r188 => pure r188) (fun r192 => Empty.elim r192)
noncomputable abbrev fm_primes_of : (Int) → Option (List (Int × Int)) := fun a => m_primes_of a
abbrev sp_primes_of (K : PySem.W.Frag) : Sp := spV F0 fm_primes_of (fun _ => (aOne rI)) (rT K (aAll (rT K (aCons rI (aOne rI)))))
section
variable {P : Program} {w : World} {K : PySem.W.Frag} {mg : Str → Option Value} {base : Heap}
theorem g_primes_of (T : Tx mg base) (D0 : Dk P w K mg base "taken_out" "taken_out" t_taken_out 1 ["number", "p"] (sp_taken_out K)) (D1 : Dk P w K mg base "is_prime_number" "is_prime_number" t_is_prime_number 3 ["number"] (sp_is_prime_number K)) {f : Addr} {fd : FuncData} (F : Fun K "primes_of" "primes_of" t_primes_of f fd) : FnG P w K mg base CX0 4 f fd ["number"] (sp_primes_of K) := by
  obtain ⟨f0, fd0, F0, m0, G0, b0⟩ := D0
  obtain ⟨f1, fd1, F1, m1, G1, b1⟩ := D1
  refine okG0 F sc_primes_of (fun vs H Q E h => ?_) (fun cdv A outer s0_ H0 vs Q E hr gd h => ?_)
  · obtain ⟨_, _, _, _, _, _, _, _, ⟨_, rfl, _⟩, _⟩ := h
    rfl
  · obtain ⟨_, p_number, S0, s0, r, s', e0, p0, ⟨_, rfl, rfl⟩, hm0, fin0⟩ := h
    have fin : ∀ v {H' : Hp}, (∃ S', Gm (pt0).M S0 H0 S' H' ∧ PotAt pt0 s' S' H' ∧ (rT K (aAll (rT K (aCons rI (aOne rI))))) r v S') → Q v H' := fun v {H'} ⟨S', h1, h2, h3⟩ => fin0 v S' H' h1 h2 h3
    have w0 : Wd pt0 S0 H0 S0 H0 [] := Wd.start e0
    have hm0 : Mir.run (m_primes_of p_number) s0 = some (r, s') := hm0
    unfold m_primes_of at hm0
    have sc := sc_primes_of
    refine ⟨_, pss_cons (ps_par (i := 1) (j := 2) rfl sc.nd rfl rfl (by decide) rfl rfl (pa_cons (pe_lst (pa_nil)) (pa_cons (pe_int) (pa_nil))) (by rfl)) (pss_cons (ps_while PassesOwn.never (pt_cmpR op_le (pe_op op_mulX (pv 2) (pv 2)) (pv 0) (nomark _)) (pss_cons (ps_if (pt_cmpR op_eq (pe_op op_mod (pv 0) (pv 2)) (pe_int) (nomark _)) (pss_cons (ps_asg (pe_cG G0 (hr.mono (by decide)) gd rfl m0 F0.kp b0 pass0 (pa_cons (pv 0) (pa_cons (pv 2) (pa_nil)))) (k_gt K (pgs_cons (pg_name (i := 3) sc.nd rfl (by first | exact Or.inl rfl | exact Or.inr rfl)) (pgs_cons (pg_name (i := 0) sc.nd rfl (by first | exact Or.inl rfl | exact Or.inr rfl)) (pgs_nil))))) (pss_cons (ps_expr (pe_bm PySem.F.plainAttrs_list PySem.F.slot_list_append PySem.F.type_list_append mt_append (pv 1) (pa_cons (pe_tup (pa_cons (pv 2) (pa_cons (pv 3) (pa_nil)))) pa_nil))) (pss_cons (ps_if (pt_val (pe_cG G1 (hr.mono (by decide)) gd rfl m1 F1.kp b1 pass0 (pa_cons (pv 0) (pa_nil)))) (pss_cons (ps_break) (pss_nil)) (pss_nil)) (pss_nil)))) (pss_nil)) (pss_cons (ps_if (PW.pt (pw_and (pt_cmpR op_eq (pv 2) (pe_int) (nomark _)) (pw_and1 (pt_val (pe_cG G1 (hr.mono (by decide)) gd rfl m1 F1.kp b1 pass0 (pa_cons (pv 0) (pa_nil))))))) (pss_cons (ps_break) (pss_nil)) (pss_nil)) (pss_cons (ps_set (i := 2) sc.nd rfl (by first | exact Or.inl rfl | exact Or.inr rfl) (pe_op op_add (pv 2) (pe_ifExp (pt_cmpR op_eq (pv 2) (pe_int) (nomark _)) (pe_int) (pe_ifExp (PW.pt (pw_or (pt_cmpR op_eq (pv 2) (pe_int) (nomark _)) (pw_or1 (pt_cmpR op_eq (pe_op op_mod (pv 2) (pe_int)) (pe_int) (nomark _))))) (pe_int) (pe_int))))) (pss_nil))))) (pss_cons (ps_ret (pe_callTy (k_tupOf K) (by rfl) T.n_tuple (by decide +kernel) (pa_cons (pe_op op_cat (pv 1) (pe_ifExp (pt_cmpR op_gt (pv 0) (pe_int) (nomark _)) (pe_lst (pa_cons (pe_tup (pa_cons (pv 0) (pa_cons (pe_int) (pa_nil)))) (pa_nil))) (pe_lst (pa_nil)))) pa_nil))) (pss_nil))), ?_⟩
    refine par_go ?_
    refine x_evL w0 p0 (l_lstL (a_nilL (R := (rT K (aCons rI (aOne rI)))))) hm0 ?_
    intro found1 q9 vs10 S2 H3 s4 w5 p6 g8 rfound11 hm7
    have rfound11 : All (rT K (aCons rI (aOne rI))) _ _ _ := rfound11
    refine x_ev w5 p6 e_cI hm7 ?_
    intro p12 vp20 S13 H14 s15 w16 p17 g19 rp21 hm18
    cases (show vp20 = .int p12 from rp21)
    have rfound11 := All.mo g19.s rfound11
    refine par_end [some (.int p_number), some (.ref q9), some (.int p12), none] rfl ?_
    refine q_whC (p := pt0) (ρ := Empty) (fun st22 σ S' H' s' => ∃ (qfound_ : Addr) (usfound_ : List V) (xoften_ : Option V), σ = [some (.int st22.1), some (.ref qfound_), some (.int st22.2.2), xoften_] ∧ Wd pt0 S0 H0 S' H' [(qfound_, .lst usfound_)] ∧ PotAt pt0 s' S' H' ∧ Ex S13 S' ∧ All (rT K (aCons rI (aOne rI))) S' st22.2.1 usfound_) (fun _ _ _ _ => False) ⟨_, _, _, rfl, w16, p17, Ex.rf, rfound11⟩ hm18 ?_ ?_ ?_ ?_ ?_
    · rintro st22 _ S32 H33 s34 ⟨qfound25, usfound26, xoften27, rfl, w29, p30, eb31, rfound28⟩
      exact ⟨p30, w29.i, (t_Test (e_le (e_mul (e_var (R := rI) rfl rfl) (e_var (R := rI) rfl rfl)) (e_var (R := rI) rfl rfl)))⟩
    · rintro st22 _ S42 H43 s44 S45 H46 s47 ⟨qfound35, usfound36, xoften37, rfl, w39, p40, eb41, rfound38⟩ g48 p49
      exact ⟨_, _, _, rfl, w39.go g48, p49, eb41.tr g48.s, All.mo g48.s rfound38⟩
    · rintro st22 _ S57 H58 s59 st22_ s2_ D_ ⟨qfound50, usfound51, xoften52, rfl, w54, p55, eb56, rfound53⟩ hm60 nx61 bk62 rt63
      refine q_if w54 p55 (t_Test (e_eq (e_mod (e_var (R := rI) rfl rfl) (e_var (R := rI) rfl rfl)) e_cI)) hm60 ?_ ?_
      · intro S65 H66 s67 w68 p69 g70 hm71
        have rfound53 := All.mo g70.s rfound53
        have eb56 := eb56.tr g70.s
        refine q_unp w68 p69 (Ev.eta (e_call (E := E0) (fm := fm_taken_out) (R := (rT K (aCons rI (aOne rI)))) (a_cons (e_var (R := rI) rfl rfl) (a_one (e_var (R := rI) rfl rfl))))) (g_tp (gq_cons (g_nm (R := rI)) (gq_one (g_nm (R := rI))))) hm71 ?_
        intro t72 σ80 S73 H74 s75 w76 p77 g79 hp hm78
        have rfound53 := All.mo g79.s rfound53
        have eb56 := eb56.tr g79.s
        obtain ⟨_, ⟨_, rfl, rfl⟩, ⟨_, rfl, rfl⟩⟩ := hp
        refine q_app (j := 0) w76 p77 rfl rfl rfound53 (e_tup (K := K) (a_cons (e_var (R := rI) rfl rfl) (a_one (e_var (R := rI) rfl rfl))) (arN_cons arN_one) (by decide)) hm78 ?_
        intro found81 vs82 S84 H85 s86 w87 p88 e90 rfound83 hm89
        have eb56 := eb56.tr e90
        refine q_if w87 p88 (t_B (Ev.eta (e_call (E := E0) (fm := fm_is_prime_number) (R := rB) (a_one (e_var (R := rI) rfl rfl))))) hm89 ?_ ?_
        · intro S91 H92 s93 w94 p95 g96 hm97
          have rfound83 := All.mo g96.s rfound83
          have eb56 := eb56.tr g96.s
          cases run_of_pure hm97
          exact bk62 _ _ _ _ rfl ⟨_, _, _, rfl, w94, p95, eb56, rfound83⟩
        · intro S98 H99 s100 w101 p102 g103 hm104
          have rfound83 := All.mo g103.s rfound83
          have eb56 := eb56.tr g103.s
          refine nx_done ?_
          refine nx_done ?_
          refine q_if w101 p102 (t_and (t_Test (e_eq (e_var (R := rI) rfl rfl) e_cI)) (t_B (Ev.eta (e_call (E := E0) (fm := fm_is_prime_number) (R := rB) (a_one (e_var (R := rI) rfl rfl)))))) hm104 ?_ ?_
          · intro S105 H106 s107 w108 p109 g110 hm111
            have rfound83 := All.mo g110.s rfound83
            have eb56 := eb56.tr g110.s
            cases run_of_pure hm111
            exact bk62 _ _ _ _ rfl ⟨_, _, _, rfl, w108, p109, eb56, rfound83⟩
          · intro S112 H113 s114 w115 p116 g117 hm118
            have rfound83 := All.mo g117.s rfound83
            have eb56 := eb56.tr g117.s
            refine nx_done ?_
            refine q_set (fun v => [some (.int t72.2), some (.ref qfound50), some v, some (.int t72.1)]) (fun _ => rfl) w115 p116 (e_add (e_var (R := rI) rfl rfl) (e_if (R := rI) (t_Test (e_eq (e_var (R := rI) rfl rfl) e_cI)) e_cI (e_ifT (R := rI) (t_or (t_Test (e_eq (e_var (R := rI) rfl rfl) e_cI)) (t_Test (e_eq (e_mod (e_var (R := rI) rfl rfl) e_cI) e_cI))) e_cI e_cI))) hm118 ?_
            intro p119 vp127 S120 H121 s122 w123 p124 g126 rp128 hm125
            cases (show vp127 = .int p119 from rp128)
            have rfound83 := All.mo g126.s rfound83
            have eb56 := eb56.tr g126.s
            cases run_of_pure hm125
            exact (nx61 _ _ _ _ rfl ⟨_, _, _, rfl, w123, p124, eb56, rfound83⟩).1
      · intro S135 H136 s137 w138 p139 g140 hm141
        have rfound53 := All.mo g140.s rfound53
        have eb56 := eb56.tr g140.s
        refine nx_done ?_
        refine q_if w138 p139 (t_and (t_Test (e_eq (e_var (R := rI) rfl rfl) e_cI)) (t_B (Ev.eta (e_call (E := E0) (fm := fm_is_prime_number) (R := rB) (a_one (e_var (R := rI) rfl rfl)))))) hm141 ?_ ?_
        · intro S142 H143 s144 w145 p146 g147 hm148
          have rfound53 := All.mo g147.s rfound53
          have eb56 := eb56.tr g147.s
          cases run_of_pure hm148
          exact bk62 _ _ _ _ rfl ⟨_, _, _, rfl, w145, p146, eb56, rfound53⟩
        · intro S149 H150 s151 w152 p153 g154 hm155
          have rfound53 := All.mo g154.s rfound53
          have eb56 := eb56.tr g154.s
          refine nx_done ?_
          refine q_set (fun v => [some (.int st22.1), some (.ref qfound50), some v, xoften52]) (fun _ => rfl) w152 p153 (e_add (e_var (R := rI) rfl rfl) (e_if (R := rI) (t_Test (e_eq (e_var (R := rI) rfl rfl) e_cI)) e_cI (e_ifT (R := rI) (t_or (t_Test (e_eq (e_var (R := rI) rfl rfl) e_cI)) (t_Test (e_eq (e_mod (e_var (R := rI) rfl rfl) e_cI) e_cI))) e_cI e_cI))) hm155 ?_
          intro p156 vp164 S157 H158 s159 w160 p161 g163 rp165 hm162
          cases (show vp164 = .int p156 from rp165)
          have rfound53 := All.mo g163.s rfound53
          have eb56 := eb56.tr g163.s
          cases run_of_pure hm162
          exact (nx61 _ _ _ _ rfl ⟨_, _, _, rfl, w160, p161, eb56, rfound53⟩).1
    · rintro st22 _ S177 H178 s179 ⟨qfound170, usfound171, xoften172, rfl, w174, p175, eb176, rfound173⟩ hm180
      have hm180 := hm180.elim id id
      refine q_ret w174 p175 (c_tup (K := K) (EvL.rd (l_cat (w_own (A := (aAll (rT K (aCons rI (aOne rI))))) (j := 0) w174 rfl rfl rfound173) (EvL.rd (l_if (α := (List (Int × Int))) (t_Test (e_gt (e_var (R := rI) rfl rfl) e_cI)) (l_lstL (a_consL (e_tup (K := K) (a_cons (e_var (R := rI) rfl rfl) (a_one e_cI)) (arN_cons arN_one) (by decide)) (a_nilL (R := (rT K (aCons rI (aOne rI))))))) (l_lstL (a_nilL (R := (rT K (aCons rI (aOne rI))))))))))) hm180 ?_
      intro r188 v189 S181 H182 s183 w184 p185 g187 rr190 hm186
      cases run_of_pure hm186
      exact fin _ ⟨S181, w184.g, p185, rr190⟩
    · intro r192 v193 H' s' hr1
      exact hr1.elim
end
abbrev t_parts_of : Stmt := top 18
theorem sc_parts_of : FnScope ["x", "found", "i", "part"] ["x"] (defScope t_parts_of) := ⟨rfl, rfl, rfl, by decide +kernel, rfl, by decide +kernel, by decide +kernel⟩
@[irreducible] noncomputable def m_parts_of (p_x : Int) : Option (List Int) :=
Mir.lft (grd (List.length ([] : List Int) ≤ 16000000)) >>= fun _ => bnd ([] : List Int) fun found1 =>
bnd (1 : Int) fun i12 =>
(whS many (fun (st22 : (List Int) × Int) k => k (decide (st22.2 ≤ p_x))) (fun (st22 : (List Int) × Int) =>
Mir.lft (grd (Dv st22.2)) >>= fun _ => bnd (p_x / st22.2) fun part65 =>
Mir.lft (grd (List.length st22.1 < 16000000)) >>= fun _ => bnd (st22.1 ++ [part65]) fun found75 =>
Mir.lft (grd (Dv part65)) >>= fun _ => bnd ((p_x / part65) + (1 : Int)) fun i85 =>
pure (found75, i85)) (found1, i12)) >>= fun (st22 : (List Int) × Int) =>
bnd st22.1 fun r113 => pure r113
noncomputable abbrev fm_parts_of : (Int) → Option (List Int) := fun a => m_parts_of a
abbrev sp_parts_of (K : PySem.W.Frag) : Sp := spV F0 fm_parts_of (fun _ => (aOne rI)) (rT K (aAll rI))
section
variable {P : Program} {w : World} {K : PySem.W.Frag} {mg : Str → Option Value} {base : Heap}
theorem g_parts_of (T : Tx mg base)  {f : Addr} {fd : FuncData} (F : Fun K "parts_of" "parts_of" t_parts_of f fd) : FnG P w K mg base CX0 1 f fd ["x"] (sp_parts_of K) := by
  refine okG0 F sc_parts_of (fun vs H Q E h => ?_) (fun cdv A outer s0_ H0 vs Q E hr gd h => ?_)
  · obtain ⟨_, _, _, _, _, _, _, _, ⟨_, rfl, _⟩, _⟩ := h
    rfl
  · obtain ⟨_, p_x, S0, s0, r, s', e0, p0, ⟨_, rfl, rfl⟩, hm0, fin0⟩ := h
    have fin : ∀ v {H' : Hp}, (∃ S', Gm (pt0).M S0 H0 S' H' ∧ PotAt pt0 s' S' H' ∧ (rT K (aAll rI)) r v S') → Q v H' := fun v {H'} ⟨S', h1, h2, h3⟩ => fin0 v S' H' h1 h2 h3
    have w0 : Wd pt0 S0 H0 S0 H0 [] := Wd.start e0
    have hm0 : Mir.run (m_parts_of p_x) s0 = some (r, s') := hm0
    unfold m_parts_of at hm0
    have sc := sc_parts_of
    refine ⟨_, pss_cons (ps_par (i := 1) (j := 2) rfl sc.nd rfl rfl (by decide) rfl rfl (pa_cons (pe_lst (pa_nil)) (pa_cons (pe_int) (pa_nil))) (by rfl)) (pss_cons (ps_while PassesOwn.never (pt_cmpR op_le (pv 2) (pv 0) (nomark _)) (pss_cons (ps_set (i := 3) sc.nd rfl (by first | exact Or.inl rfl | exact Or.inr rfl) (pe_op op_fdivW (pv 0) (pv 2))) (pss_cons (ps_expr (pe_bm PySem.F.plainAttrs_list PySem.F.slot_list_append PySem.F.type_list_append mt_append (pv 1) (pa_cons (pv 3) pa_nil))) (pss_cons (ps_set (i := 2) sc.nd rfl (by first | exact Or.inl rfl | exact Or.inr rfl) (pe_op op_add (pe_op op_fdivW (pv 0) (pv 3)) (pe_int))) (pss_nil))))) (pss_cons (ps_ret (pe_callTy (k_tupOf K) (by rfl) T.n_tuple (by decide +kernel) (pa_cons (pv 1) pa_nil))) (pss_nil))), ?_⟩
    refine par_go ?_
    refine x_evL w0 p0 (l_lstL (a_nilL (R := rI))) hm0 ?_
    intro found1 q9 vs10 S2 H3 s4 w5 p6 g8 rfound11 hm7
    have rfound11 : All rI _ _ _ := rfound11
    refine x_ev w5 p6 e_cI hm7 ?_
    intro i12 vi20 S13 H14 s15 w16 p17 g19 ri21 hm18
    cases (show vi20 = .int i12 from ri21)
    have rfound11 := All.mo g19.s rfound11
    refine par_end [some (.int p_x), some (.ref q9), some (.int i12), none] rfl ?_
    refine q_wh (p := pt0) (fun st22 σ S' H' s' => ∃ (qfound_ : Addr) (usfound_ : List V) (xpart_ : Option V), σ = [some (.int p_x), some (.ref qfound_), some (.int st22.2), xpart_] ∧ Wd pt0 S0 H0 S' H' [(qfound_, .lst usfound_)] ∧ PotAt pt0 s' S' H' ∧ Ex S13 S' ∧ All rI S' st22.1 usfound_) ⟨_, _, _, rfl, w16, p17, Ex.rf, rfound11⟩ hm18 ?_ ?_ ?_ ?_
    · rintro st22 _ S32 H33 s34 ⟨qfound25, usfound26, xpart27, rfl, w29, p30, eb31, rfound28⟩
      exact ⟨p30, w29.i, (t_Test (e_le (e_var (R := rI) rfl rfl) (e_var (R := rI) rfl rfl)))⟩
    · rintro st22 _ S42 H43 s44 S45 H46 s47 ⟨qfound35, usfound36, xpart37, rfl, w39, p40, eb41, rfound38⟩ g48 p49
      exact ⟨_, _, _, rfl, w39.go g48, p49, eb41.tr g48.s, All.mo g48.s rfound38⟩
    · rintro st22 _ S57 H58 s59 st22_ s2_ D_ ⟨qfound50, usfound51, xpart52, rfl, w54, p55, eb56, rfound53⟩ hm60 nx61
      refine q_set (fun v => [some (.int p_x), some (.ref qfound50), some (.int st22.2), some v]) (fun _ => rfl) w54 p55 (e_fdiv (e_var (R := rI) rfl rfl) (e_var (R := rI) rfl rfl)) hm60 ?_
      intro part65 vpart73 S66 H67 s68 w69 p70 g72 rpart74 hm71
      cases (show vpart73 = .int part65 from rpart74)
      have rfound53 := All.mo g72.s rfound53
      have eb56 := eb56.tr g72.s
      refine q_app (j := 0) w69 p70 rfl rfl rfound53 (e_var (R := rI) rfl rfl) hm71 ?_
      intro found75 vs76 S78 H79 s80 w81 p82 e84 rfound77 hm83
      have eb56 := eb56.tr e84
      refine q_set (fun v => [some (.int p_x), some (.ref qfound50), some v, some (.int part65)]) (fun _ => rfl) w81 p82 (e_add (e_fdiv (e_var (R := rI) rfl rfl) (e_var (R := rI) rfl rfl)) e_cI) hm83 ?_
      intro i85 vi93 S86 H87 s88 w89 p90 g92 ri94 hm91
      cases (show vi93 = .int i85 from ri94)
      have rfound77 := All.mo g92.s rfound77
      have eb56 := eb56.tr g92.s
      cases run_of_pure hm91
      exact (nx61 _ _ _ ⟨_, _, _, rfl, w89, p90, eb56, rfound77⟩).1
    · rintro st22 _ S102 H103 s104 ⟨qfound95, usfound96, xpart97, rfl, w99, p100, eb101, rfound98⟩ hm105
      refine q_ret w99 p100 (c_tup (K := K) (w_own (A := (aAll rI)) (j := 0) w99 rfl rfl rfound98)) hm105 ?_
      intro r113 v114 S106 H107 s108 w109 p110 g112 rr115 hm111
      cases run_of_pure hm111
      exact fin _ ⟨S106, w109.g, p110, rr115⟩
end
abbrev t_small_primes : Stmt := top 19
theorem sc_small_primes : FnScope ["most", "found", "number", "p"] ["most"] (defScope t_small_primes) := ⟨rfl, rfl, rfl, by decide +kernel, rfl, by decide +kernel, by decide +kernel⟩
@[irreducible] noncomputable def m_small_primes (p_most : Int) : Option (List Int) :=
Mir.lft (grd (List.length ([] : List Int) ≤ 16000000)) >>= fun _ => bnd ([] : List Int) fun found1 =>
bnd (2 : Int) fun number12 =>
(whS many (fun (st27 : (List Int) × Int) k => Mir.lft (grd (Sm st27.2 ∧ Sm st27.2)) >>= fun _ => k (decide ((st27.2 * st27.2) ≤ p_most))) (fun (st27 : (List Int) × Int) =>
Mir.lft (grd (List.length st27.1 ≤ 16000000)) >>= fun _ => cmp st27.1 (fun x67 => Mir.lft (grd (0 < x67)) >>= fun _ => pure (some (!decide ((st27.2 % x67) = (0 : Int))))) >>= fun l119 => ((if (List.all l119 id) = true then
(Mir.lft (grd (List.length st27.1 < 16000000)) >>= fun _ => bnd (st27.1 ++ [st27.2]) fun found80 =>
pure found80)
else
(pure st27.1)) >>= fun (st70 : (List Int)) =>
bnd (st27.2 + (1 : Int)) fun number109 =>
pure (st70, number109))) (found1, number12)) >>= fun (st27 : (List Int) × Int) =>
bnd st27.1 fun r137 => pure r137
noncomputable abbrev fm_small_primes : (Int) → Option (List Int) := fun a => m_small_primes a
abbrev sp_small_primes (K : PySem.W.Frag) : Sp := spN F0 fm_small_primes (fun _ => (aOne rI)) (aAll rI)
section
variable {P : Program} {w : World} {K : PySem.W.Frag} {mg : Str → Option Value} {base : Heap}
theorem g_small_primes (T : Tx mg base)  {f : Addr} {fd : FuncData} (F : Fun K "small_primes" "small_primes" t_small_primes f fd) : FnG P w K mg base CX0 1 f fd ["most"] (sp_small_primes K) := by
  refine okG0 F sc_small_primes (fun vs H Q E h => ?_) (fun cdv A outer s0_ H0 vs Q E hr gd h => ?_)
  · obtain ⟨_, _, _, _, _, _, _, _, ⟨_, rfl, _⟩, _⟩ := h
    rfl
  · obtain ⟨_, p_most, S0, s0, r, s', e0, p0, ⟨_, rfl, rfl⟩, hm0, fin0⟩ := h
    have fin : ∀ v {H' : Hp}, (∃ S' q us, v = .ref q ∧ Gm (pt0).M S0 H0 S' H' ∧ PotAt pt0 s' S' H' ∧ H0 q = none ∧ H' q = some (.lst us) ∧ S' q = none ∧ (aAll rI) r us S') → Q v H' := fun v {H'} ⟨S', q, us, h0, h1, h2, h3, h4, h5, h6⟩ => by subst h0; exact fin0 q us S' H' h1 h2 h3 h4 h5 h6
    have w0 : Wd pt0 S0 H0 S0 H0 [] := Wd.start e0
    have hm0 : Mir.run (m_small_primes p_most) s0 = some (r, s') := hm0
    unfold m_small_primes at hm0
    have sc := sc_small_primes
    refine ⟨_, pss_cons (ps_asg (pe_tup (pa_cons (pe_lst (pa_nil)) (pa_cons (pe_int) (pa_nil)))) (k_gt K (pgs_cons (pg_name (i := 1) sc.nd rfl (by first | exact Or.inl rfl | exact Or.inr rfl)) (pgs_cons (pg_name (i := 2) sc.nd rfl (by first | exact Or.inl rfl | exact Or.inr rfl)) (pgs_nil))))) (pss_cons (ps_while PassesOwn.never (pt_cmpR op_le (pe_op op_mulX (pv 2) (pv 2)) (pv 0) (nomark _)) (pss_cons (ps_if (pt_val (pe_callB (k_all K) (by rfl) T.n_all (by decide +kernel) (pa_cons (pe_lc (own := [("p", 3)]) (g := (gName 3)) (tt := tYes) rfl sc.nd (k_pil K (pv 1)) (blkOk_by (N := ["most", "found", "number", "p"]) (sc := defScope t_small_primes) (by decide +kernel)) (fun _ _ _ _ _ => pg_name (i := 3) sc.nd rfl (by first | exact Or.inl rfl | exact Or.inr rfl)) (fun _ _ _ _ _ => pts_nil) (fun _ _ _ _ _ => pe_cmpR op_ne (pe_op op_mod (pv 2) (pv 3)) (pe_int) (nomark _))) pa_nil))) (pss_cons (ps_expr (pe_bm PySem.F.plainAttrs_list PySem.F.slot_list_append PySem.F.type_list_append mt_append (pv 1) (pa_cons (pv 2) pa_nil))) (pss_nil)) (pss_nil)) (pss_cons (ps_set (i := 2) sc.nd rfl (by first | exact Or.inl rfl | exact Or.inr rfl) (pe_op op_add (pv 2) (pe_int))) (pss_nil)))) (pss_cons (ps_ret (pv 1)) (pss_nil))), ?_⟩
    refine tup2_go ?_
    refine x_evL w0 p0 (l_lstL (a_nilL (R := rI))) hm0 ?_
    intro found1 q9 vs10 S2 H3 s4 w5 p6 g8 rfound11 hm7
    have rfound11 : All rI _ _ _ := rfound11
    refine x_ev w5 p6 e_cI hm7 ?_
    intro number12 vnumber20 S13 H14 s15 w16 p17 g19 rnumber21 hm18
    cases (show vnumber20 = .int number12 from rnumber21)
    have rfound11 := All.mo g19.s rfound11
    refine tup_end (is := [1, 2]) [some (.int p_most), some (.ref q9), some (.int number12), none] w16 p17 rfl (by simp) rfl ?_
    intro S22 H23 w24 p25 g26
    have rfound11 := All.mo g26.s rfound11
    refine q_wh (p := pt0) (fun st27 σ S' H' s' => ∃ (qfound_ : Addr) (usfound_ : List V), σ = [some (.int p_most), some (.ref qfound_), some (.int st27.2), none] ∧ Wd pt0 S0 H0 S' H' [(qfound_, .lst usfound_)] ∧ PotAt pt0 s' S' H' ∧ Ex S22 S' ∧ All rI S' st27.1 usfound_) ⟨_, _, rfl, w24, p25, Ex.rf, rfound11⟩ hm18 ?_ ?_ ?_ ?_
    · rintro st27 _ S36 H37 s38 ⟨qfound30, usfound31, rfl, w33, p34, eb35, rfound32⟩
      exact ⟨p34, w33.i, (t_Test (e_le (e_mul (e_var (R := rI) rfl rfl) (e_var (R := rI) rfl rfl)) (e_var (R := rI) rfl rfl)))⟩
    · rintro st27 _ S45 H46 s47 S48 H49 s50 ⟨qfound39, usfound40, rfl, w42, p43, eb44, rfound41⟩ g51 p52
      exact ⟨_, _, rfl, w42.go g51, p52, eb44.tr g51.s, All.mo g51.s rfound41⟩
    · rintro st27 _ S59 H60 s61 st27_ s2_ D_ ⟨qfound53, usfound54, rfl, w56, p57, eb58, rfound55⟩ hm62 nx63
      refine q_ifj (p := pt0) (fun st70 σ S' H' s' => ∃ (qfound_ : Addr) (usfound_ : List V), σ = [some (.int p_most), some (.ref qfound_), some (.int st27.2), none] ∧ Wd pt0 S0 H0 S' H' [(qfound_, .lst usfound_)] ∧ PotAt pt0 s' S' H' ∧ Ex S59 S' ∧ All rI S' st70 usfound_) w56 p57 (t_B (c_all (EvL.rd (l_lc1 (R := rI) (g := (gName 3)) (γ := Bool) (vs := [3]) (me := fun x67 k => Mir.lft (grd (0 < x67)) >>= fun _ => k (!decide ((st27.2 % x67) = (0 : Int)))) (R' := rB) (i_own (K := K) rfl (w56.at (i := 0) rfl).1 (w56.nmAt (i := 0) rfl) rfound55) (ownOk1 (w56.at (i := 0) rfl).1 (w56.nmAt (i := 0) rfl)) (g_nm (R := rI)) (fun x σ' S hp => by obtain ⟨_, rfl, _⟩ := hp; first | rfl | exact ((wipe_set (by decide)).trans wipe_wipe)) (fun x67 σ' S1 H1 g68 hp => by have w69 := w56.go g68; obtain ⟨_, rfl, rfl⟩ := hp; have rfound55 := All.mo g68.s rfound55; exact (e_ne (e_mod (e_var (R := rI) rfl rfl) (e_var (R := rI) rfl rfl)) e_cI)) pm_nm)))) hm62 ?_ ?_ ?_
      · intro S71 H72 s73 st70_ s2_ D_ w74 p75 g76 hm77 nx78
        have rfound55 := All.mo g76.s rfound55
        have eb58 := eb58.tr g76.s
        have eb79 := g76.s
        refine q_app (j := 0) w74 p75 rfl rfl rfound55 (e_var (R := rI) rfl rfl) hm77 ?_
        intro found80 vs81 S83 H84 s85 w86 p87 e89 rfound82 hm88
        have eb58 := eb58.tr e89
        have eb79 := eb79.tr e89
        cases run_of_pure hm88
        exact nx78 _ _ _ ⟨_, _, rfl, w86, p87, eb79, rfound82⟩
      · intro S90 H91 s92 st70_ s2_ D_ w93 p94 g95 hm96 nx97
        have rfound55 := All.mo g95.s rfound55
        have eb58 := eb58.tr g95.s
        have eb98 := g95.s
        cases run_of_pure hm96
        exact nx97 _ _ _ ⟨_, _, rfl, w93, p94, eb98, rfound55⟩
      · rintro st70 _ S105 H106 s107 ⟨qfound99, usfound100, rfl, w102, p103, eb104, rfound101⟩ hm108
        have eb58 := eb58.tr eb104
        refine q_set (fun v => [some (.int p_most), some (.ref qfound99), some v, none]) (fun _ => rfl) w102 p103 (e_add (e_var (R := rI) rfl rfl) e_cI) hm108 ?_
        intro number109 vnumber117 S110 H111 s112 w113 p114 g116 rnumber118 hm115
        cases (show vnumber117 = .int number109 from rnumber118)
        have rfound101 := All.mo g116.s rfound101
        have eb58 := eb58.tr g116.s
        cases run_of_pure hm115
        exact (nx63 _ _ _ ⟨_, _, rfl, w113, p114, eb58, rfound101⟩).1
    · rintro st27 _ S126 H127 s128 ⟨qfound120, usfound121, rfl, w123, p124, eb125, rfound122⟩ hm129
      refine q_retO (rfl : _ = some (some (V.ref qfound120))) hm129 ?_
      intro hm135
      cases run_of_pure hm135
      exact fin _ ⟨_, _, _, rfl, w123.g, p124, (w123.at (i := 0) rfl).2.2, (w123.at (i := 0) rfl).1, (w123.at (i := 0) rfl).2.1, rfound122⟩
end
abbrev t_struck_parts : Stmt := top 20
theorem sc_struck_parts : FnScope ["x", "parts", "primes", "row", "is_summed", "found", "p", "ahead", "part"] ["x", "parts", "primes", "row", "is_summed"] (defScope t_struck_parts) := ⟨rfl, rfl, rfl, by decide +kernel, rfl, by decide +kernel, by decide +kernel⟩
@[irreducible] noncomputable def m_struck_parts (p_x : Int) (p_parts : (List Int)) (p_primes : (List Int)) (p_row : (List Int)) (p_is_summed : Bool) : Option (List (Int × Int)) :=
bnd (dzip p_parts p_row) fun found1 =>
(lpS p_primes (fun (x14 : Int) (st12 : (List (Int × Int))) =>
Mir.lft (dget st12 (x14 - (1 : Int))) >>= fun y167 => bnd y167 fun ahead68 =>
(lpC (ρ := Empty) p_parts (fun (x80 : Int) (st78 : (List (Int × Int))) =>
Mir.lft (grd (Sm x14 ∧ Sm x14)) >>= fun _ => if (decide (x80 < (x14 * x14))) = true then
(pure (Ctl.brk st78))
else
(Mir.lft (dget st78 x80) >>= fun y152 => Mir.lft (grd (Dv x14)) >>= fun _ => Mir.lft (dget st78 (x80 / x14)) >>= fun y153 => Mir.lft (grd (Sm (if p_is_summed = true then x14 else (1 : Int)) ∧ Sm (y153 - ahead68))) >>= fun _ => Mir.lft (grd (List.length st78 < 16000000)) >>= fun _ => bnd (dput st78 x80 (y152 - ((if p_is_summed = true then x14 else (1 : Int)) * (y153 - ahead68)))) fun found142 =>
pure (Ctl.go found142))) st12) >>= fun o => aft o (fun (st78 : (List (Int × Int))) =>
pure st78) (fun r165 => Empty.elim r165)) found1) >>= fun (st12 : (List (Int × Int))) =>
bnd st12 fun r182 => pure r182
noncomputable abbrev fm_struck_parts : (Int × (List Int) × (List Int) × (List Int) × Bool) → Option (List (Int × Int)) := fun (a0, a1, a2, a3, a4) => m_struck_parts a0 a1 a2 a3 a4
abbrev sp_struck_parts (K : PySem.W.Frag) : Sp := spDi F0 fm_struck_parts (fun _ => (aCons rI (aCons (rT K (aAll rI)) (aCons (rL (aAll rI)) (aCons (rL (aAll rI)) (aOne rB)))))) Sum.inl rI
section
variable {P : Program} {w : World} {K : PySem.W.Frag} {mg : Str → Option Value} {base : Heap}
theorem g_struck_parts (T : Tx mg base)  {f : Addr} {fd : FuncData} (F : Fun K "struck_parts" "struck_parts" t_struck_parts f fd) : FnG P w K mg base CX0 1 f fd ["x", "parts", "primes", "row", "is_summed"] (sp_struck_parts K) := by
  refine okG0 F sc_struck_parts (fun vs H Q E h => ?_) (fun cdv A outer s0_ H0 vs Q E hr gd h => ?_)
  · obtain ⟨_, _, _, _, _, _, _, _, ⟨_, _, rfl, _, ⟨_, _, rfl, _, ⟨_, _, rfl, _, ⟨_, _, rfl, _, ⟨_, rfl, _⟩⟩⟩⟩⟩, _⟩ := h
    rfl
  · obtain ⟨_, a, S0, s0, r, s', e0, p0, ⟨_, _, rfl, rfl, ⟨v_parts, _, rfl, r_parts, ⟨v_primes, _, rfl, r_primes, ⟨v_row, _, rfl, r_row, ⟨_, rfl, rfl⟩⟩⟩⟩⟩, hm0, fin0⟩ := h
    obtain ⟨p_x, p_parts, p_primes, p_row, p_is_summed⟩ := a
    have fin : ∀ v {H' : Hp}, (∃ S' q us, v = .ref q ∧ Gm (pt0).M S0 H0 S' H' ∧ PotAt pt0 s' S' H' ∧ H0 q = none ∧ H' q = some (.dK us) ∧ S' q = none ∧ AllD Sum.inl rI S' r us) → Q v H' := fun v {H'} ⟨S', q, us, h0, h1, h2, h3, h4, h5, h6⟩ => by subst h0; exact fin0 q us S' H' h1 h2 h3 h4 h5 h6
    have w0 : Wd pt0 S0 H0 S0 H0 [] := Wd.start e0
    have hm0 : Mir.run (m_struck_parts p_x p_parts p_primes p_row p_is_summed) s0 = some (r, s') := hm0
    unfold m_struck_parts at hm0
    have sc := sc_struck_parts
    refine ⟨_, pss_cons (ps_set (i := 5) sc.nd rfl (by first | exact Or.inl rfl | exact Or.inr rfl) (k_dzip K rfl rfl T.n_dict rfl T.n_zip (pa_cons (pv 1) (pa_cons (pv 3) pa_nil)))) (pss_cons (ps_for PassesOwn.never rfl (k_pil K (pv 2)) (pg_name (i := 6) sc.nd rfl (by first | exact Or.inl rfl | exact Or.inr rfl)) (pss_cons (ps_set (i := 7) sc.nd rfl (by first | exact Or.inl rfl | exact Or.inr rfl) (pe_dget (hu_of hr) (pv 5) (pe_op op_sub (pv 6) (pe_int)) (fun _ _ => rfl))) (pss_cons (ps_for PassesOwn.never rfl (k_pit K (pv 1)) (pg_name (i := 8) sc.nd rfl (by first | exact Or.inl rfl | exact Or.inr rfl)) (pss_cons (ps_if (pt_cmpR op_lt (pv 8) (pe_op op_mulX (pv 6) (pv 6)) (nomark _)) (pss_cons (ps_break) (pss_nil)) (pss_nil)) (pss_cons (ps_dput (hu_of hr) (pv 5) (pv 8) (pe_op op_sub (pe_dget (hu_of hr) (pv 5) (pv 8) (fun _ _ => rfl)) (pe_op op_mulX (pe_ifExp (pt_val (pv 4)) (pv 6) (pe_int)) (pe_op op_sub (pe_dget (hu_of hr) (pv 5) (pe_op op_fdivW (pv 8) (pv 6)) (fun _ _ => rfl)) (pv 7)))) rfl) (pss_nil)))) (pss_nil)))) (pss_cons (ps_ret (pv 5)) (pss_nil))), ?_⟩
    refine q_setD (e := Sum.inl) (R := rI) (fun v => [some (.int p_x), some v_parts, some v_primes, some v_row, some (.bl p_is_summed), some v, none, none, none]) (fun _ => rfl) w0 p0 (d_zip (K := K) inj_I kr_I (Ev.sqT (e_var rfl r_parts)) (Ev.sqL (e_var rfl r_row))) hm0 ?_
    intro found1 q9 vs10 S2 H3 s4 w5 p6 g8 rfound11 hm7
    have r_parts := Mo.mo g8.s r_parts
    have r_primes := Mo.mo g8.s r_primes
    have r_row := Mo.mo g8.s r_row
    refine q_for (p := pt0) w5 p6 (i_L (K := K) (e_var rfl r_primes)) (g_nm (R := rI)) hm7 (fun Sb13 st12 σ S' H' s' => Ex Sb13 S' ∧ (∃ (qfound_ : Addr) (usfound_ : List (Key × V)) (xp_ : Option V) (xahead_ : Option V) (xpart_ : Option V), σ = [some (.int p_x), some v_parts, some v_primes, some v_row, some (.bl p_is_summed), some (.ref qfound_), xp_, xahead_, xpart_] ∧ Wd pt0 S0 H0 S' H' [(qfound_, .dK usfound_)] ∧ PotAt pt0 s' S' H' ∧ Ex S2 S' ∧ AllD Sum.inl rI S' st12 usfound_)) ?_ ?_ ?_ ?_ ?_
    · intro S15 H16 s17 w18 p19 g20
      have r_parts := Mo.mo g20.s r_parts
      have r_primes := Mo.mo g20.s r_primes
      have r_row := Mo.mo g20.s r_row
      have rfound11 := AllD.mo g20.s rfound11
      exact ⟨Ex.rf, ⟨_, _, _, _, _, rfl, w18, p19, g20.s, rfound11⟩⟩
    · rintro Sb13 st12 _ S30 H31 s32 ⟨ex33, ⟨qfound21, usfound22, xp23, xahead24, xpart25, rfl, w27, p28, eb29, rfound26⟩⟩
      exact ⟨ex33, w27.i, p28, ownOk0⟩
    · rintro Sb13 st12 _ S43 H44 s45 S46 H47 ⟨ex49, ⟨qfound34, usfound35, xp36, xahead37, xpart38, rfl, w40, p41, eb42, rfound39⟩⟩ g48
      exact ⟨ex49.tr g48.s, _, _, _, _, _, rfl, w40.go (Gm.up g48), PotAt.go p41 g48, eb42.tr g48.s, AllD.mo g48.s rfound39⟩
    · rintro Sb13 x14 st12 _ σ67 S59 H60 s61 st12_ s2_ D_ ⟨ex66, ⟨qfound50, usfound51, xp52, xahead53, xpart54, rfl, w56, p57, eb58, rfound55⟩⟩ hp hm62 nx63
      obtain ⟨_, rfl, rfl⟩ := hp
      have r_parts := Mo.mo eb58 r_parts
      have r_primes := Mo.mo eb58 r_primes
      have r_row := Mo.mo eb58 r_row
      refine q_set (fun v => [some (.int p_x), some v_parts, some v_primes, some v_row, some (.bl p_is_summed), some (.ref qfound50), some (.int x14), some v, xpart54]) (fun _ => rfl) w56 p57 (e_dGet (j := 0) inj_I kr_I w56 rfl rfl rfound55 (e_sub (e_var (R := rI) rfl rfl) e_cI)) hm62 ?_
      intro ahead68 vahead76 S69 H70 s71 w72 p73 g75 rahead77 hm74
      cases (show vahead76 = .int ahead68 from rahead77)
      have r_parts := Mo.mo g75.s r_parts
      have r_primes := Mo.mo g75.s r_primes
      have r_row := Mo.mo g75.s r_row
      have rfound55 := AllD.mo g75.s rfound55
      have eb58 := eb58.tr g75.s
      have ex66 := ex66.tr g75.s
      refine q_forC (p := pt0) (ρ := Empty) w72 p73 (i_T (e_var rfl r_parts)) (g_nm (R := rI)) hm74 (fun Sb79 st78 σ S' H' s' => Ex Sb79 S' ∧ (∃ (qfound_ : Addr) (usfound_ : List (Key × V)) (xpart_ : Option V), σ = [some (.int p_x), some v_parts, some v_primes, some v_row, some (.bl p_is_summed), some (.ref qfound_), some (.int x14), some (.int ahead68), xpart_] ∧ Wd pt0 S0 H0 S' H' [(qfound_, .dK usfound_)] ∧ PotAt pt0 s' S' H' ∧ Ex S69 S' ∧ AllD Sum.inl rI S' st78 usfound_)) (fun _ _ _ _ => False) ?_ ?_ ?_ ?_ ?_ ?_
      · intro S81 H82 s83 w84 p85 g86
        have r_parts := Mo.mo g86.s r_parts
        have r_primes := Mo.mo g86.s r_primes
        have r_row := Mo.mo g86.s r_row
        have rfound55 := AllD.mo g86.s rfound55
        have eb58 := eb58.tr g86.s
        have ex66 := ex66.tr g86.s
        exact ⟨Ex.rf, ⟨_, _, _, rfl, w84, p85, g86.s, rfound55⟩⟩
      · rintro Sb79 st78 _ S94 H95 s96 ⟨ex97, ⟨qfound87, usfound88, xpart89, rfl, w91, p92, eb93, rfound90⟩⟩
        exact ⟨ex97, w91.i, p92, ownOk0⟩
      · rintro Sb79 st78 _ S105 H106 s107 S108 H109 ⟨ex111, ⟨qfound98, usfound99, xpart100, rfl, w102, p103, eb104, rfound101⟩⟩ g110
        exact ⟨ex111.tr g110.s, _, _, _, rfl, w102.go (Gm.up g110), PotAt.go p103 g110, eb104.tr g110.s, AllD.mo g110.s rfound101⟩
      · rintro Sb79 x80 st78 _ σ127 S119 H120 s121 st78_ s2_ D_ ⟨ex126, ⟨qfound112, usfound113, xpart114, rfl, w116, p117, eb118, rfound115⟩⟩ hp hm122 nx123 bk124 rt125
        obtain ⟨_, rfl, rfl⟩ := hp
        have r_parts := Mo.mo eb118 r_parts
        have r_primes := Mo.mo eb118 r_primes
        have r_row := Mo.mo eb118 r_row
        have eb58 := eb58.tr eb118
        have ex66 := ex66.tr eb118
        refine q_if w116 p117 (t_Test (e_lt (e_var (R := rI) rfl rfl) (e_mul (e_var (R := rI) rfl rfl) (e_var (R := rI) rfl rfl)))) hm122 ?_ ?_
        · intro S128 H129 s130 w131 p132 g133 hm134
          have r_parts := Mo.mo g133.s r_parts
          have r_primes := Mo.mo g133.s r_primes
          have r_row := Mo.mo g133.s r_row
          have rfound115 := AllD.mo g133.s rfound115
          have eb58 := eb58.tr g133.s
          have ex66 := ex66.tr g133.s
          have eb118 := eb118.tr g133.s
          have ex126 := ex126.tr g133.s
          cases run_of_pure hm134
          exact bk124 _ _ _ _ rfl ⟨ex126, ⟨_, _, _, rfl, w131, p132, eb118, rfound115⟩⟩
        · intro S135 H136 s137 w138 p139 g140 hm141
          have r_parts := Mo.mo g140.s r_parts
          have r_primes := Mo.mo g140.s r_primes
          have r_row := Mo.mo g140.s r_row
          have rfound115 := AllD.mo g140.s rfound115
          have eb58 := eb58.tr g140.s
          have ex66 := ex66.tr g140.s
          have eb118 := eb118.tr g140.s
          have ex126 := ex126.tr g140.s
          refine nx_done ?_
          refine q_dPut (j := 0) inj_I kr_I w138 p139 rfl rfl rfound115 (e_sub (e_dGet (j := 0) inj_I kr_I w138 rfl rfl rfound115 (e_var (R := rI) rfl rfl)) (e_mul (e_ifT (R := rI) (t_B (e_var (R := rB) rfl rfl)) (e_var (R := rI) rfl rfl) e_cI) (e_sub (e_dGet (j := 0) inj_I kr_I w138 rfl rfl rfound115 (e_fdiv (e_var (R := rI) rfl rfl) (e_var (R := rI) rfl rfl))) (e_var (R := rI) rfl rfl)))) (e_var (R := rI) rfl rfl) hm141 ?_
          intro found142 vs143 S145 H146 s147 w148 p149 e151 rfound144 hm150
          have r_parts := Mo.mo e151 r_parts
          have r_primes := Mo.mo e151 r_primes
          have r_row := Mo.mo e151 r_row
          have eb58 := eb58.tr e151
          have ex66 := ex66.tr e151
          have eb118 := eb118.tr e151
          have ex126 := ex126.tr e151
          cases run_of_pure hm150
          exact (nx123 _ _ _ _ rfl ⟨ex126, ⟨_, _, _, rfl, w148, p149, eb118, rfound144⟩⟩).1
      · rintro Sb79 st78 _ S161 H162 s163 ⟨_, ⟨qfound154, usfound155, xpart156, rfl, w158, p159, eb160, rfound157⟩⟩ hm164
        have hm164 := hm164.elim id id
        have r_parts := Mo.mo eb160 r_parts
        have r_primes := Mo.mo eb160 r_primes
        have r_row := Mo.mo eb160 r_row
        have eb58 := eb58.tr eb160
        have ex66 := ex66.tr eb160
        cases run_of_pure hm164
        exact (nx63 _ _ _ ⟨ex66, ⟨_, _, _, _, _, rfl, w158, p159, eb58, rfound157⟩⟩).1
      · intro r165 v166 H' s' hr1
        exact hr1.elim
    · rintro Sb13 st12 _ S177 H178 s179 ⟨_, ⟨qfound168, usfound169, xp170, xahead171, xpart172, rfl, w174, p175, eb176, rfound173⟩⟩ hm180
      have r_parts := Mo.mo eb176 r_parts
      have r_primes := Mo.mo eb176 r_primes
      have r_row := Mo.mo eb176 r_row
      refine q_retO (rfl : _ = some (some (V.ref qfound168))) hm180 ?_
      intro hm181
      cases run_of_pure hm181
      exact fin _ ⟨_, _, _, rfl, w174.g, p175, (w174.at (i := 0) rfl).2.2, (w174.at (i := 0) rfl).1, (w174.at (i := 0) rfl).2.1, rfound173⟩
end
abbrev t_struck_row : Stmt := top 21
theorem sc_struck_row : FnScope ["x", "k", "parts", "primes", "found", "part"] ["x", "k"] (defScope t_struck_row) := ⟨rfl, rfl, rfl, by decide +kernel, rfl, by decide +kernel, by decide +kernel⟩
@[irreducible] noncomputable def m_struck_row (p_x : Int) (p_k : Int) : Option (List Int) :=
Mir.lft (m_parts_of p_x) >>= fun r53 => bnd r53 fun parts1 =>
Mir.lft (m_small_primes p_x) >>= fun r52 => bnd (cut r52 none (some p_k)) fun primes11 =>
Mir.lft (grd (List.length parts1 ≤ 16000000)) >>= fun _ => Mir.lft (m_struck_parts p_x parts1 primes11 (List.map (fun x21 => (x21 - (1 : Int))) parts1) false) >>= fun r51 => bnd r51 fun found24 =>
Mir.lft (grd (List.length parts1 ≤ 16000000)) >>= fun _ => cmp parts1 (fun x35 => Mir.lft (dget found24 x35) >>= fun y39 => pure (some y39)) >>= fun l50 => bnd l50 fun r47 => pure r47
noncomputable abbrev fm_struck_row : (Int × Int) → Option (List Int) := fun (a0, a1) => m_struck_row a0 a1
abbrev sp_struck_row (K : PySem.W.Frag) : Sp := spV F0 fm_struck_row (fun _ => (aCons rI (aOne rI))) (rT K (aAll rI))
section
variable {P : Program} {w : World} {K : PySem.W.Frag} {mg : Str → Option Value} {base : Heap}
theorem g_struck_row (T : Tx mg base) (D0 : Dk P w K mg base "parts_of" "parts_of" t_parts_of 1 ["x"] (sp_parts_of K)) (D1 : Dk P w K mg base "small_primes" "small_primes" t_small_primes 1 ["most"] (sp_small_primes K)) (D2 : Dk P w K mg base "struck_parts" "struck_parts" t_struck_parts 1 ["x", "parts", "primes", "row", "is_summed"] (sp_struck_parts K)) {f : Addr} {fd : FuncData} (F : Fun K "struck_row" "struck_row" t_struck_row f fd) : FnG P w K mg base CX0 2 f fd ["x", "k"] (sp_struck_row K) := by
  obtain ⟨f0, fd0, F0, m0, G0, b0⟩ := D0
  obtain ⟨f1, fd1, F1, m1, G1, b1⟩ := D1
  obtain ⟨f2, fd2, F2, m2, G2, b2⟩ := D2
  refine okG0 F sc_struck_row (fun vs H Q E h => ?_) (fun cdv A outer s0_ H0 vs Q E hr gd h => ?_)
  · obtain ⟨_, _, _, _, _, _, _, _, ⟨_, _, rfl, _, ⟨_, rfl, _⟩⟩, _⟩ := h
    rfl
  · obtain ⟨_, a, S0, s0, r, s', e0, p0, ⟨_, _, rfl, rfl, ⟨_, rfl, rfl⟩⟩, hm0, fin0⟩ := h
    obtain ⟨p_x, p_k⟩ := a
    have fin : ∀ v {H' : Hp}, (∃ S', Gm (pt0).M S0 H0 S' H' ∧ PotAt pt0 s' S' H' ∧ (rT K (aAll rI)) r v S') → Q v H' := fun v {H'} ⟨S', h1, h2, h3⟩ => fin0 v S' H' h1 h2 h3
    have w0 : Wd pt0 S0 H0 S0 H0 [] := Wd.start e0
    have hm0 : Mir.run (m_struck_row p_x p_k) s0 = some (r, s') := hm0
    unfold m_struck_row at hm0
    have sc := sc_struck_row
    refine ⟨_, pss_cons (ps_set (i := 2) sc.nd rfl (by first | exact Or.inl rfl | exact Or.inr rfl) (pe_cG G0 (hr.mono (by decide)) gd rfl m0 F0.kp b0 pass0 (pa_cons (pv 0) (pa_nil)))) (pss_cons (ps_set (i := 3) sc.nd rfl (by first | exact Or.inl rfl | exact Or.inr rfl) (pe_slice (k_sll K) (pe_cG G1 (hr.mono (by decide)) gd rfl m1 F1.kp b1 pass0 (pa_cons (pv 0) (pa_nil))) (po_none) (po_some (pv 1)))) (pss_cons (ps_set (i := 4) sc.nd rfl (by first | exact Or.inl rfl | exact Or.inr rfl) (pe_cG G2 (hr.mono (by decide)) gd rfl m2 F2.kp b2 pass0 (pa_cons (pv 0) (pa_cons (pv 2) (pa_cons (pv 3) (pa_cons (pe_lc (own := [("part", 5)]) (g := (gName 5)) (tt := tYes) rfl sc.nd (k_pit K (pv 2)) (blkOk_by (N := ["x", "k", "parts", "primes", "found", "part"]) (sc := defScope t_struck_row) (by decide +kernel)) (fun _ _ _ _ _ => pg_name (i := 5) sc.nd rfl (by first | exact Or.inl rfl | exact Or.inr rfl)) (fun _ _ _ _ _ => pts_nil) (fun _ _ _ _ _ => pe_op op_sub (pv 5) (pe_int))) (pa_cons (pe_bl) (pa_nil)))))))) (pss_cons (ps_ret (pe_callTy (k_tupOf K) (by rfl) T.n_tuple (by decide +kernel) (pa_cons (pe_lc (own := [("part", 5)]) (g := (gName 5)) (tt := tYes) rfl sc.nd (k_pit K (pv 2)) (blkOk_by (N := ["x", "k", "parts", "primes", "found", "part"]) (sc := defScope t_struck_row) (by decide +kernel)) (fun _ _ _ _ _ => pg_name (i := 5) sc.nd rfl (by first | exact Or.inl rfl | exact Or.inr rfl)) (fun _ _ _ _ _ => pts_nil) (fun _ _ _ _ _ => pe_dget (hu_of hr) (pv 4) (pv 5) (fun _ _ => rfl))) pa_nil))) (pss_nil)))), ?_⟩
    refine q_set (fun v => [some (.int p_x), some (.int p_k), some v, none, none, none]) (fun _ => rfl) w0 p0 (Ev.eta (e_call (E := E0) (fm := fm_parts_of) (R := (rT K (aAll rI))) (a_one (e_var (R := rI) rfl rfl)))) hm0 ?_
    intro parts1 vparts9 S2 H3 s4 w5 p6 g8 rparts10 hm7
    refine q_set (fun v => [some (.int p_x), some (.int p_k), some vparts9, some v, none, none]) (fun _ => rfl) w5 p6 (EvL.frz (l_cut (EvL.rd (EvL.eta (l_call (E := E0) (fm := fm_small_primes) (R := (aAll rI)) (a_one (e_var (R := rI) rfl rfl))))) o_no (o_some (e_var (R := rI) rfl rfl)))) hm7 ?_
    intro primes11 vprimes19 S12 H13 s14 w15 p16 g18 rprimes20 hm17
    have rparts10 := Mo.mo g18.s rparts10
    refine q_setD (e := Sum.inl) (R := rI) (fun v => [some (.int p_x), some (.int p_k), some vparts9, some vprimes19, some v, none]) (fun _ => rfl) w15 p16 (EvDi.eta (d_call (E := E0) (fm := fm_struck_parts) (e := Sum.inl) (R := rI) (a_cons (e_var (R := rI) rfl rfl) (a_cons (e_var rfl rparts10) (a_cons (e_var rfl rprimes20) (a_cons (EvL.frz (l_lc1T (R := rI) (g := (gName 5)) (vs := [5]) (f := (fun x21 => (x21 - (1 : Int)))) (R' := rI) (i_T (e_var rfl rparts10)) ownOk0 (g_nm (R := rI)) (fun x σ' S hp => by obtain ⟨_, rfl, _⟩ := hp; first | rfl | exact ((wipe_set (by decide)).trans wipe_wipe)) (fun x21 σ' S1 H1 g22 hp => by have w23 := w15.go g22; obtain ⟨_, rfl, rfl⟩ := hp; have rparts10 := Mo.mo g22.s rparts10; have rprimes20 := Mo.mo g22.s rprimes20; exact (e_sub (e_var (R := rI) rfl rfl) e_cI)) pm_nm)) (a_one e_cB))))))) hm17 ?_
    intro found24 q32 vs33 S25 H26 s27 w28 p29 g31 rfound34 hm30
    have rparts10 := Mo.mo g31.s rparts10
    have rprimes20 := Mo.mo g31.s rprimes20
    refine q_ret w28 p29 (c_tup (K := K) (EvL.rd (l_lc1 (R := rI) (g := (gName 5)) (γ := Int) (vs := [5]) (me := fun x35 k => Mir.lft (dget found24 x35) >>= fun y38 => k y38) (R' := rI) (i_T (e_var rfl rparts10)) ownOk0 (g_nm (R := rI)) (fun x σ' S hp => by obtain ⟨_, rfl, _⟩ := hp; first | rfl | exact ((wipe_set (by decide)).trans wipe_wipe)) (fun x35 σ' S1 H1 g36 hp => by have w37 := w28.go g36; obtain ⟨_, rfl, rfl⟩ := hp; have rparts10 := Mo.mo g36.s rparts10; have rprimes20 := Mo.mo g36.s rprimes20; have rfound34 := AllD.mo g36.s rfound34; exact (e_dGet (j := 0) inj_I kr_I w37 rfl rfl rfound34 (e_var (R := rI) rfl rfl))) pm_nm))) hm30 ?_
    intro r47 v48 S40 H41 s42 w43 p44 g46 rr49 hm45
    cases run_of_pure hm45
    exact fin _ ⟨S40, w43.g, p44, rr49⟩
end
abbrev t_counted_row : Stmt := top 22
theorem sc_counted_row : FnScope ["x"] ["x"] (defScope t_counted_row) := ⟨rfl, rfl, rfl, by decide +kernel, rfl, by decide +kernel, by decide +kernel⟩
@[irreducible] noncomputable def m_counted_row (p_x : Int) : Option (List Int) :=
Mir.lft (m_struck_row p_x p_x) >>= fun r11 => bnd r11 fun r8 => pure r8
noncomputable abbrev fm_counted_row : (Int) → Option (List Int) := fun a => m_counted_row a
abbrev sp_counted_row (K : PySem.W.Frag) : Sp := spV F0 fm_counted_row (fun _ => (aOne rI)) (rT K (aAll rI))
section
variable {P : Program} {w : World} {K : PySem.W.Frag} {mg : Str → Option Value} {base : Heap}
theorem g_counted_row (T : Tx mg base) (D0 : Dk P w K mg base "struck_row" "struck_row" t_struck_row 2 ["x", "k"] (sp_struck_row K)) {f : Addr} {fd : FuncData} (F : Fun K "counted_row" "counted_row" t_counted_row f fd) : FnG P w K mg base CX0 3 f fd ["x"] (sp_counted_row K) := by
  obtain ⟨f0, fd0, F0, m0, G0, b0⟩ := D0
  refine okG0 F sc_counted_row (fun vs H Q E h => ?_) (fun cdv A outer s0_ H0 vs Q E hr gd h => ?_)
  · obtain ⟨_, _, _, _, _, _, _, _, ⟨_, rfl, _⟩, _⟩ := h
    rfl
  · obtain ⟨_, p_x, S0, s0, r, s', e0, p0, ⟨_, rfl, rfl⟩, hm0, fin0⟩ := h
    have fin : ∀ v {H' : Hp}, (∃ S', Gm (pt0).M S0 H0 S' H' ∧ PotAt pt0 s' S' H' ∧ (rT K (aAll rI)) r v S') → Q v H' := fun v {H'} ⟨S', h1, h2, h3⟩ => fin0 v S' H' h1 h2 h3
    have w0 : Wd pt0 S0 H0 S0 H0 [] := Wd.start e0
    have hm0 : Mir.run (m_counted_row p_x) s0 = some (r, s') := hm0
    unfold m_counted_row at hm0
    have sc := sc_counted_row
    refine ⟨_, pss_cons (ps_ret (pe_cG G0 (hr.mono (by decide)) gd rfl m0 F0.kp b0 pass0 (pa_cons (pv 0) (pa_cons (pv 0) (pa_nil))))) (pss_nil), ?_⟩
    refine q_ret w0 p0 (Ev.eta (e_call (E := E0) (fm := fm_struck_row) (R := (rT K (aAll rI))) (a_cons (e_var (R := rI) rfl rfl) (a_one (e_var (R := rI) rfl rfl))))) hm0 ?_
    intro r8 v9 S1 H2 s3 w4 p5 g7 rr10 hm6
    cases run_of_pure hm6
    exact fin _ ⟨S1, w4.g, p5, rr10⟩
end
abbrev t_primes_counted : Stmt := top 23
theorem sc_primes_counted : FnScope ["x"] ["x"] (defScope t_primes_counted) := ⟨rfl, rfl, rfl, by decide +kernel, rfl, by decide +kernel, by decide +kernel⟩
@[irreducible] noncomputable def m_primes_counted (p_x : Int) : Option Int :=
Mir.lft (m_counted_row p_x) >>= fun r12 => Mir.lft (L2.atI r12 (0 : Int)) >>= fun y11 => bnd y11 fun r8 => pure r8
noncomputable abbrev fm_primes_counted : (Int) → Option Int := fun a => m_primes_counted a
abbrev sp_primes_counted (K : PySem.W.Frag) : Sp := spV F0 fm_primes_counted (fun _ => (aOne rI)) rI
section
variable {P : Program} {w : World} {K : PySem.W.Frag} {mg : Str → Option Value} {base : Heap}
theorem g_primes_counted (T : Tx mg base) (D0 : Dk P w K mg base "counted_row" "counted_row" t_counted_row 3 ["x"] (sp_counted_row K)) {f : Addr} {fd : FuncData} (F : Fun K "primes_counted" "primes_counted" t_primes_counted f fd) : FnG P w K mg base CX0 4 f fd ["x"] (sp_primes_counted K) := by
  obtain ⟨f0, fd0, F0, m0, G0, b0⟩ := D0
  refine okG0 F sc_primes_counted (fun vs H Q E h => ?_) (fun cdv A outer s0_ H0 vs Q E hr gd h => ?_)
  · obtain ⟨_, _, _, _, _, _, _, _, ⟨_, rfl, _⟩, _⟩ := h
    rfl
  · obtain ⟨_, p_x, S0, s0, r, s', e0, p0, ⟨_, rfl, rfl⟩, hm0, fin0⟩ := h
    have fin : ∀ v {H' : Hp}, (∃ S', Gm (pt0).M S0 H0 S' H' ∧ PotAt pt0 s' S' H' ∧ rI r v S') → Q v H' := fun v {H'} ⟨S', h1, h2, h3⟩ => fin0 v S' H' h1 h2 h3
    have w0 : Wd pt0 S0 H0 S0 H0 [] := Wd.start e0
    have hm0 : Mir.run (m_primes_counted p_x) s0 = some (r, s') := hm0
    unfold m_primes_counted at hm0
    have sc := sc_primes_counted
    refine ⟨_, pss_cons (ps_ret (pe_ix (k_ixT K) (pe_cG G0 (hr.mono (by decide)) gd rfl m0 F0.kp b0 pass0 (pa_cons (pv 0) (pa_nil))) (pe_int) (fun _ _ => rfl))) (pss_nil), ?_⟩
    refine q_ret w0 p0 (e_ixT (Ev.eta (e_call (E := E0) (fm := fm_counted_row) (R := (rT K (aAll rI))) (a_one (e_var (R := rI) rfl rfl)))) e_cI) hm0 ?_
    intro r8 v9 S1 H2 s3 w4 p5 g7 rr10 hm6
    cases run_of_pure hm6
    exact fin _ ⟨S1, w4.g, p5, rr10⟩
end
abbrev t_primes_summed : Stmt := top 24
theorem sc_primes_summed : FnScope ["x", "parts", "row", "part"] ["x"] (defScope t_primes_summed) := ⟨rfl, rfl, rfl, by decide +kernel, rfl, by decide +kernel, by decide +kernel⟩
@[irreducible] noncomputable def m_primes_summed (p_x : Int) : Option Int :=
Mir.lft (m_parts_of p_x) >>= fun r38 => bnd r38 fun parts1 =>
Mir.lft (grd (List.length parts1 ≤ 16000000)) >>= fun _ => cmp parts1 (fun x11 => Mir.lft (grd (Sm x11 ∧ Sm (x11 + (1 : Int)))) >>= fun _ => Mir.lft (grd (Dv (2 : Int))) >>= fun _ => pure (some (((x11 * (x11 + (1 : Int))) / (2 : Int)) - (1 : Int)))) >>= fun l37 => bnd l37 fun row14 =>
Mir.lft (m_small_primes p_x) >>= fun r36 => Mir.lft (m_struck_parts p_x parts1 r36 row14 true) >>= fun r35 => Mir.lft (dget r35 p_x) >>= fun y34 => bnd y34 fun r31 => pure r31
noncomputable abbrev fm_primes_summed : (Int) → Option Int := fun a => m_primes_summed a
abbrev sp_primes_summed (K : PySem.W.Frag) : Sp := spV F0 fm_primes_summed (fun _ => (aOne rI)) rI
section
variable {P : Program} {w : World} {K : PySem.W.Frag} {mg : Str → Option Value} {base : Heap}
theorem g_primes_summed (T : Tx mg base) (D0 : Dk P w K mg base "parts_of" "parts_of" t_parts_of 1 ["x"] (sp_parts_of K)) (D1 : Dk P w K mg base "struck_parts" "struck_parts" t_struck_parts 1 ["x", "parts", "primes", "row", "is_summed"] (sp_struck_parts K)) (D2 : Dk P w K mg base "small_primes" "small_primes" t_small_primes 1 ["most"] (sp_small_primes K)) {f : Addr} {fd : FuncData} (F : Fun K "primes_summed" "primes_summed" t_primes_summed f fd) : FnG P w K mg base CX0 2 f fd ["x"] (sp_primes_summed K) := by
  obtain ⟨f0, fd0, F0, m0, G0, b0⟩ := D0
  obtain ⟨f1, fd1, F1, m1, G1, b1⟩ := D1
  obtain ⟨f2, fd2, F2, m2, G2, b2⟩ := D2
  refine okG0 F sc_primes_summed (fun vs H Q E h => ?_) (fun cdv A outer s0_ H0 vs Q E hr gd h => ?_)
  · obtain ⟨_, _, _, _, _, _, _, _, ⟨_, rfl, _⟩, _⟩ := h
    rfl
  · obtain ⟨_, p_x, S0, s0, r, s', e0, p0, ⟨_, rfl, rfl⟩, hm0, fin0⟩ := h
    have fin : ∀ v {H' : Hp}, (∃ S', Gm (pt0).M S0 H0 S' H' ∧ PotAt pt0 s' S' H' ∧ rI r v S') → Q v H' := fun v {H'} ⟨S', h1, h2, h3⟩ => fin0 v S' H' h1 h2 h3
    have w0 : Wd pt0 S0 H0 S0 H0 [] := Wd.start e0
    have hm0 : Mir.run (m_primes_summed p_x) s0 = some (r, s') := hm0
    unfold m_primes_summed at hm0
    have sc := sc_primes_summed
    refine ⟨_, pss_cons (ps_set (i := 1) sc.nd rfl (by first | exact Or.inl rfl | exact Or.inr rfl) (pe_cG G0 (hr.mono (by decide)) gd rfl m0 F0.kp b0 pass0 (pa_cons (pv 0) (pa_nil)))) (pss_cons (ps_setLc (i := 2) (own := [("part", 3)]) (g := (gName 3)) (tt := tYes) rfl sc.nd rfl rfl (sw_true rfl rfl rfl (by decide +kernel)) (k_pit K (pv 1)) (blkOk_by (N := ["x", "parts", "row", "part"]) (sc := defScope t_primes_summed) (by decide +kernel)) (fun _ _ _ _ _ => pg_name (i := 3) sc.nd rfl (by first | exact Or.inl rfl | exact Or.inr rfl)) (fun _ _ _ _ _ => pts_nil) (fun _ _ _ _ _ => pe_op op_sub (pe_op op_fdivW (pe_op op_mulX (pv 3) (pe_op op_add (pv 3) (pe_int))) (pe_int)) (pe_int))) (pss_cons (ps_ret (pe_dget (hu_of hr) (pe_cG G1 (hr.mono (by decide)) gd rfl m1 F1.kp b1 pass0 (pa_cons (pv 0) (pa_cons (pv 1) (pa_cons (pe_cG G2 (hr.mono (by decide)) gd rfl m2 F2.kp b2 pass0 (pa_cons (pv 0) (pa_nil))) (pa_cons (pv 2) (pa_cons (pe_bl) (pa_nil))))))) (pv 0) (fun _ _ => rfl))) (pss_nil))), ?_⟩
    refine q_set (fun v => [some (.int p_x), some v, none, none]) (fun _ => rfl) w0 p0 (Ev.eta (e_call (E := E0) (fm := fm_parts_of) (R := (rT K (aAll rI))) (a_one (e_var (R := rI) rfl rfl)))) hm0 ?_
    intro parts1 vparts9 S2 H3 s4 w5 p6 g8 rparts10 hm7
    refine q_set (fun v => [some (.int p_x), some vparts9, some v, none]) (fun _ => rfl) w5 p6 (EvL.frz (l_lc1 (R := rI) (g := (gName 3)) (γ := Int) (vs := [3]) (me := fun x11 k => Mir.lft (grd (Sm x11 ∧ Sm (x11 + (1 : Int)))) >>= fun _ => Mir.lft (grd (Dv (2 : Int))) >>= fun _ => k (((x11 * (x11 + (1 : Int))) / (2 : Int)) - (1 : Int))) (R' := rI) (i_T (e_var rfl rparts10)) ownOk0 (g_nm (R := rI)) (fun x σ' S hp => by obtain ⟨_, rfl, _⟩ := hp; first | rfl | exact ((wipe_set (by decide)).trans wipe_wipe)) (fun x11 σ' S1 H1 g12 hp => by have w13 := w5.go g12; obtain ⟨_, rfl, rfl⟩ := hp; have rparts10 := Mo.mo g12.s rparts10; exact (e_sub (e_fdiv (e_mul (e_var (R := rI) rfl rfl) (e_add (e_var (R := rI) rfl rfl) e_cI)) e_cI) e_cI)) pm_nm)) hm7 ?_
    intro row14 vrow22 S15 H16 s17 w18 p19 g21 rrow23 hm20
    have rparts10 := Mo.mo g21.s rparts10
    refine q_ret w18 p19 (e_diGet inj_I kr_I (EvDi.eta (d_call (E := E0) (fm := fm_struck_parts) (e := Sum.inl) (R := rI) (a_cons (e_var (R := rI) rfl rfl) (a_cons (e_var rfl rparts10) (a_cons (EvL.frz (EvL.eta (l_call (E := E0) (fm := fm_small_primes) (R := (aAll rI)) (a_one (e_var (R := rI) rfl rfl))))) (a_cons (e_var rfl rrow23) (a_one e_cB))))))) (e_var (R := rI) rfl rfl)) hm20 ?_
    intro r31 v32 S24 H25 s26 w27 p28 g30 rr33 hm29
    cases run_of_pure hm29
    exact fin _ ⟨S24, w27.g, p28, rr33⟩
end
abbrev t_primes_between : Stmt := top 26
theorem sc_primes_between : FnScope ["low", "high", "struck", "p", "found", "number", "place", "is_struck"] ["low", "high"] (defScope t_primes_between) := ⟨rfl, rfl, rfl, by decide +kernel, rfl, by decide +kernel, by decide +kernel⟩
@[irreducible] noncomputable def m_primes_between (p_low : Int) (p_high : Int) : Option (List Int) :=
if (decide ((10000 : Int) < (p_high - p_low))) = true then
(Mir.lft (none : Option Unit) >>= fun _ => Mir.lft none)
else
(Mir.lft (grd (RgB p_low ∧ RgB (p_high + (1 : Int)))) >>= fun _ => Mir.lft (grd (List.length (rng p_low (p_high + (1 : Int))) ≤ 16000000)) >>= fun _ => bnd (List.map (fun x15 => (decide (x15 < (2 : Int)))) (rng p_low (p_high + (1 : Int)))) fun struck18 =>
Mir.lft (m_small_primes p_high) >>= fun r208 => (lpS r208 (fun (x31 : Int) (st29 : (List Bool)) =>
Mir.lft (grd (Sm x31 ∧ Sm x31)) >>= fun _ => Mir.lft (grd (Dv x31)) >>= fun _ => Mir.lft (grd (Sm (((p_low + x31) - (1 : Int)) / x31) ∧ Sm x31)) >>= fun _ => Mir.lft (grd (Rg3 (if ((((p_low + x31) - (1 : Int)) / x31) * x31) > (x31 * x31) then ((((p_low + x31) - (1 : Int)) / x31) * x31) else (x31 * x31)) (p_high + (1 : Int)) x31)) >>= fun _ => (lpS (rng3 (if ((((p_low + x31) - (1 : Int)) / x31) * x31) > (x31 * x31) then ((((p_low + x31) - (1 : Int)) / x31) * x31) else (x31 * x31)) (p_high + (1 : Int)) x31) (fun (x84 : Int) (st82 : (List Bool)) =>
Mir.lft (ixN (List.length st82) (x84 - p_low)) >>= fun o142 => bnd (List.set st82 o142 true) fun struck132 =>
pure struck132) st29) >>= fun (st82 : (List Bool)) =>
pure st82) struck18) >>= fun (st29 : (List Bool)) =>
Mir.lft (grd (List.length (enum st29) ≤ 16000000)) >>= fun _ => bnd (List.map (fun x171 => (p_low + x171.1)) (List.filter (fun x171 => (!x171.2)) (enum st29))) fun found174 =>
if (decide ((500 : Int) < (List.length found174 : Int))) = true then
(Mir.lft (none : Option Unit) >>= fun _ => Mir.lft none)
else
(bnd found174 fun r205 => pure r205))
noncomputable abbrev fm_primes_between : (Int × Int) → Option (List Int) := fun (a0, a1) => m_primes_between a0 a1
abbrev sp_primes_between (K : PySem.W.Frag) : Sp := spV F0 fm_primes_between (fun _ => (aCons rI (aOne rI))) (rT K (aAll rI))
section
variable {P : Program} {w : World} {K : PySem.W.Frag} {mg : Str → Option Value} {base : Heap}
theorem g_primes_between (T : Tx mg base) (D0 : Dk P w K mg base "small_primes" "small_primes" t_small_primes 1 ["most"] (sp_small_primes K)) {f : Addr} {fd : FuncData} (F : Fun K "primes_between" "primes_between" t_primes_between f fd) : FnG P w K mg base CX0 2 f fd ["low", "high"] (sp_primes_between K) := by
  obtain ⟨f0, fd0, F0, m0, G0, b0⟩ := D0
  refine okG0 F sc_primes_between (fun vs H Q E h => ?_) (fun cdv A outer s0_ H0 vs Q E hr gd h => ?_)
  · obtain ⟨_, _, _, _, _, _, _, _, ⟨_, _, rfl, _, ⟨_, rfl, _⟩⟩, _⟩ := h
    rfl
  · obtain ⟨_, a, S0, s0, r, s', e0, p0, ⟨_, _, rfl, rfl, ⟨_, rfl, rfl⟩⟩, hm0, fin0⟩ := h
    obtain ⟨p_low, p_high⟩ := a
    have fin : ∀ v {H' : Hp}, (∃ S', Gm (pt0).M S0 H0 S' H' ∧ PotAt pt0 s' S' H' ∧ (rT K (aAll rI)) r v S') → Q v H' := fun v {H'} ⟨S', h1, h2, h3⟩ => fin0 v S' H' h1 h2 h3
    have w0 : Wd pt0 S0 H0 S0 H0 [] := Wd.start e0
    have hm0 : Mir.run (m_primes_between p_low p_high) s0 = some (r, s') := hm0
    unfold m_primes_between at hm0
    have sc := sc_primes_between
    refine ⟨_, pss_cons (ps_if (pt_cmpR op_gt (pe_op op_sub (pv 1) (pv 0)) (pe_glob (v := .int 10000) rfl T.c_MAX_SPAN.choose_spec ⟨_, rfl⟩) (nomark _)) (pss_cons (ps_dead) (pss_nil)) (pss_nil)) (pss_cons (ps_setLc (i := 2) (own := [("number", 5)]) (g := (gName 5)) (tt := tYes) rfl sc.nd rfl rfl (sw_true rfl rfl rfl (by decide +kernel)) (pi_range2 rfl T.n_range (pa_cons (pv 0) (pa_cons (pe_op op_add (pv 1) (pe_int)) pa_nil))) (blkOk_by (N := ["low", "high", "struck", "p", "found", "number", "place", "is_struck"]) (sc := defScope t_primes_between) (by decide +kernel)) (fun _ _ _ _ _ => pg_name (i := 5) sc.nd rfl (by first | exact Or.inl rfl | exact Or.inr rfl)) (fun _ _ _ _ _ => pts_nil) (fun _ _ _ _ _ => pe_cmpR op_lt (pv 5) (pe_int) (nomark _))) (pss_cons (ps_for PassesOwn.never rfl (k_pil K (pe_cG G0 (hr.mono (by decide)) gd rfl m0 F0.kp b0 pass0 (pa_cons (pv 1) (pa_nil)))) (pg_name (i := 3) sc.nd rfl (by first | exact Or.inl rfl | exact Or.inr rfl)) (pss_cons (ps_for PassesOwn.never rfl (pi_range3 rfl T.n_range (pa_cons (pe_callB (call_max2 rfl) (by rfl) T.n_max (by decide +kernel) (pa_cons (pe_op op_mulX (pv 3) (pv 3)) (pa_cons (pe_op op_mulX (pe_op op_fdivW (pe_op op_sub (pe_op op_add (pv 0) (pv 3)) (pe_int)) (pv 3)) (pv 3)) pa_nil))) (pa_cons (pe_op op_add (pv 1) (pe_int)) (pa_cons (pv 3) pa_nil)))) (pg_name (i := 5) sc.nd rfl (by first | exact Or.inl rfl | exact Or.inr rfl)) (pss_cons (ps_asg (pe_bl) (pg_sub (pv 2) (pe_op op_sub (pv 5) (pv 0)) set_list)) (pss_nil))) (pss_nil))) (pss_cons (ps_set (i := 4) sc.nd rfl (by first | exact Or.inl rfl | exact Or.inr rfl) (pe_callTy (k_tupOf K) (by rfl) T.n_tuple (by decide +kernel) (pa_cons (pe_lc (own := [("place", 6), ("is_struck", 7)]) (g := (gTup K 2 (gCons (gName 6) (gCons (gName 7) gNil)))) rfl sc.nd (k_pie K rfl T.n_enumerate (pa_cons (pv 2) pa_nil)) (blkOk_by (N := ["low", "high", "struck", "p", "found", "number", "place", "is_struck"]) (sc := defScope t_primes_between) (by decide +kernel)) (fun _ _ _ _ _ => k_gt K (pgs_cons (pg_name (i := 6) sc.nd rfl (by first | exact Or.inl rfl | exact Or.inr rfl)) (pgs_cons (pg_name (i := 7) sc.nd rfl (by first | exact Or.inl rfl | exact Or.inr rfl)) (pgs_nil)))) (fun _ _ _ _ _ => pts_one (pt_not (pt_val (pv 7)))) (fun _ _ _ _ _ => pe_op op_add (pv 0) (pv 6))) pa_nil))) (pss_cons (ps_if (pt_cmpR op_gt (pe_callB (k_len K) (by rfl) T.n_len (by decide +kernel) (pa_cons (pv 4) pa_nil)) (pe_glob (v := .int 500) rfl T.c_MAX_LISTED.choose_spec ⟨_, rfl⟩) (nomark _)) (pss_cons (ps_dead) (pss_nil)) (pss_nil)) (pss_cons (ps_ret (pv 4)) (pss_nil)))))), ?_⟩
    refine q_if w0 p0 (t_Test (e_gt (e_sub (e_var (R := rI) rfl rfl) (e_var (R := rI) rfl rfl)) e_cI)) hm0 ?_ ?_
    · intro S1 H2 s3 w4 p5 g6 hm7
      exact q_dead hm7
    · intro S8 H9 s10 w11 p12 g13 hm14
      refine nx_done ?_
      refine q_setL (fun v => [some (.int p_low), some (.int p_high), some v, none, none, none, none, none]) (fun _ => rfl) w11 p12 (l_lc1T (R := rI) (g := (gName 5)) (vs := [5]) (f := (fun x15 => (decide (x15 < (2 : Int))))) (R' := rB) (i_R2 (e_var (R := rI) rfl rfl) (e_add (e_var (R := rI) rfl rfl) e_cI)) ownOk0 (g_nm (R := rI)) (fun x σ' S hp => by obtain ⟨_, rfl, _⟩ := hp; first | rfl | exact ((wipe_set (by decide)).trans wipe_wipe)) (fun x15 σ' S1 H1 g16 hp => by have w17 := w11.go g16; obtain ⟨_, rfl, rfl⟩ := hp; exact (e_lt (e_var (R := rI) rfl rfl) e_cI)) pm_nm) hm14 ?_
      intro struck18 q26 vs27 S19 H20 s21 w22 p23 g25 rstruck28 hm24
      have rstruck28 : All rB _ _ _ := rstruck28
      refine q_for (p := pt0) w22 p23 (i_L (K := K) (EvL.frz (EvL.eta (l_call (E := E0) (fm := fm_small_primes) (R := (aAll rI)) (a_one (e_var (R := rI) rfl rfl)))))) (g_nm (R := rI)) hm24 (fun Sb30 st29 σ S' H' s' => Ex Sb30 S' ∧ (∃ (qstruck_ : Addr) (usstruck_ : List V) (xp_ : Option V) (xnumber_ : Option V), σ = [some (.int p_low), some (.int p_high), some (.ref qstruck_), xp_, none, xnumber_, none, none] ∧ Wd pt0 S0 H0 S' H' [(qstruck_, .lst usstruck_)] ∧ PotAt pt0 s' S' H' ∧ Ex S19 S' ∧ All rB S' st29 usstruck_)) ?_ ?_ ?_ ?_ ?_
      · intro S32 H33 s34 w35 p36 g37
        have rstruck28 := All.mo g37.s rstruck28
        exact ⟨Ex.rf, ⟨_, _, _, _, rfl, w35, p36, g37.s, rstruck28⟩⟩
      · rintro Sb30 st29 _ S46 H47 s48 ⟨ex49, ⟨qstruck38, usstruck39, xp40, xnumber41, rfl, w43, p44, eb45, rstruck42⟩⟩
        exact ⟨ex49, w43.i, p44, ownOk0⟩
      · rintro Sb30 st29 _ S58 H59 s60 S61 H62 ⟨ex64, ⟨qstruck50, usstruck51, xp52, xnumber53, rfl, w55, p56, eb57, rstruck54⟩⟩ g63
        exact ⟨ex64.tr g63.s, _, _, _, _, rfl, w55.go (Gm.up g63), PotAt.go p56 g63, eb57.tr g63.s, All.mo g63.s rstruck54⟩
      · rintro Sb30 x31 st29 _ σ81 S73 H74 s75 st29_ s2_ D_ ⟨ex80, ⟨qstruck65, usstruck66, xp67, xnumber68, rfl, w70, p71, eb72, rstruck69⟩⟩ hp hm76 nx77
        obtain ⟨_, rfl, rfl⟩ := hp
        refine q_for (p := pt0) w70 p71 (i_R3 (c_max2 (e_mul (e_var (R := rI) rfl rfl) (e_var (R := rI) rfl rfl)) (e_mul (e_fdiv (e_sub (e_add (e_var (R := rI) rfl rfl) (e_var (R := rI) rfl rfl)) e_cI) (e_var (R := rI) rfl rfl)) (e_var (R := rI) rfl rfl))) (e_add (e_var (R := rI) rfl rfl) e_cI) (e_var (R := rI) rfl rfl)) (g_nm (R := rI)) hm76 (fun Sb83 st82 σ S' H' s' => Ex Sb83 S' ∧ (∃ (qstruck_ : Addr) (usstruck_ : List V) (xnumber_ : Option V), σ = [some (.int p_low), some (.int p_high), some (.ref qstruck_), some (.int x31), none, xnumber_, none, none] ∧ Wd pt0 S0 H0 S' H' [(qstruck_, .lst usstruck_)] ∧ PotAt pt0 s' S' H' ∧ Ex S73 S' ∧ All rB S' st82 usstruck_)) ?_ ?_ ?_ ?_ ?_
        · intro S85 H86 s87 w88 p89 g90
          have rstruck69 := All.mo g90.s rstruck69
          have eb72 := eb72.tr g90.s
          have ex80 := ex80.tr g90.s
          exact ⟨Ex.rf, ⟨_, _, _, rfl, w88, p89, g90.s, rstruck69⟩⟩
        · rintro Sb83 st82 _ S98 H99 s100 ⟨ex101, ⟨qstruck91, usstruck92, xnumber93, rfl, w95, p96, eb97, rstruck94⟩⟩
          exact ⟨ex101, w95.i, p96, ownOk0⟩
        · rintro Sb83 st82 _ S109 H110 s111 S112 H113 ⟨ex115, ⟨qstruck102, usstruck103, xnumber104, rfl, w106, p107, eb108, rstruck105⟩⟩ g114
          exact ⟨ex115.tr g114.s, _, _, _, rfl, w106.go (Gm.up g114), PotAt.go p107 g114, eb108.tr g114.s, All.mo g114.s rstruck105⟩
        · rintro Sb83 x84 st82 _ σ131 S123 H124 s125 st82_ s2_ D_ ⟨ex130, ⟨qstruck116, usstruck117, xnumber118, rfl, w120, p121, eb122, rstruck119⟩⟩ hp hm126 nx127
          obtain ⟨_, rfl, rfl⟩ := hp
          have eb72 := eb72.tr eb122
          have ex80 := ex80.tr eb122
          refine q_put (j := 0) w120 p121 rfl rfl rstruck119 e_cB (e_sub (e_var (R := rI) rfl rfl) (e_var (R := rI) rfl rfl)) hm126 ?_
          intro struck132 vs133 S135 H136 s137 w138 p139 e141 rstruck134 hm140
          have eb72 := eb72.tr e141
          have ex80 := ex80.tr e141
          have eb122 := eb122.tr e141
          have ex130 := ex130.tr e141
          cases run_of_pure hm140
          exact (nx127 _ _ _ ⟨ex130, ⟨_, _, _, rfl, w138, p139, eb122, rstruck134⟩⟩).1
        · rintro Sb83 st82 _ S150 H151 s152 ⟨_, ⟨qstruck143, usstruck144, xnumber145, rfl, w147, p148, eb149, rstruck146⟩⟩ hm153
          have eb72 := eb72.tr eb149
          have ex80 := ex80.tr eb149
          cases run_of_pure hm153
          exact (nx77 _ _ _ ⟨ex80, ⟨_, _, _, _, rfl, w147, p148, eb72, rstruck146⟩⟩).1
      · rintro Sb30 st29 _ S162 H163 s164 ⟨_, ⟨qstruck154, usstruck155, xp156, xnumber157, rfl, w159, p160, eb161, rstruck158⟩⟩ hm165
        obtain ⟨S166, w167, p168, ex169, r170⟩ := w_frz (j := 0) w159 p160 rfl rstruck158
        refine q_set (fun v => [some (.int p_low), some (.int p_high), some (V.ref qstruck154), xp156, some v, xnumber157, none, none]) (fun _ => rfl) w167 p168 (c_tup (K := K) (EvL.rd (l_lcT (R := (rT K (aCons rI (aOne rB)))) (g := (gTup K 2 (gCons (gName 6) (gCons (gName 7) gNil)))) (vs := [6, 7]) (t := (fun x171 => (!x171.2))) (f := (fun x171 => (p_low + x171.1))) (R' := rI) (i_enum (K := K) (e_var rfl r170)) ownOk0 (g_tp (gq_cons (g_nm (R := rI)) (gq_one (g_nm (R := rB))))) (fun x σ' S hp => by obtain ⟨_, ⟨_, rfl, _⟩, ⟨_, rfl, _⟩⟩ := hp; first | rfl | exact ((wipe_set (by decide)).trans ((wipe_set (by decide)).trans wipe_wipe))) (fun x171 σ' S1 H1 g172 hp => by have w173 := w167.go g172; obtain ⟨_, ⟨_, rfl, rfl⟩, ⟨_, rfl, rfl⟩⟩ := hp; have r170 := Mo.mo g172.s r170; exact (t_not (t_B (e_var (R := rB) rfl rfl)))) (fun x171 σ' S1 H1 g172 hp => by have w173 := w167.go g172; obtain ⟨_, ⟨_, rfl, rfl⟩, ⟨_, rfl, rfl⟩⟩ := hp; have r170 := Mo.mo g172.s r170; exact (e_add (e_var (R := rI) rfl rfl) (e_var (R := rI) rfl rfl))) (pm_cons pm_nm pm_nm)))) hm165 ?_
        intro found174 vfound182 S175 H176 s177 w178 p179 g181 rfound183 hm180
        have r170 := Mo.mo g181.s r170
        refine q_if w178 p179 (t_Test (e_gt (c_lenT (e_var rfl rfound183)) e_cI)) hm180 ?_ ?_
        · intro S184 H185 s186 w187 p188 g189 hm190
          have r170 := Mo.mo g189.s r170
          have rfound183 := Mo.mo g189.s rfound183
          exact q_dead hm190
        · intro S191 H192 s193 w194 p195 g196 hm197
          have r170 := Mo.mo g196.s r170
          have rfound183 := Mo.mo g196.s rfound183
          refine nx_done ?_
          refine q_ret w194 p195 (e_var rfl rfound183) hm197 ?_
          intro r205 v206 S198 H199 s200 w201 p202 g204 rr207 hm203
          cases run_of_pure hm203
          exact fin _ ⟨S198, w201.g, p202, rr207⟩
end
abbrev t_prime_at : Stmt := top 27
theorem sc_prime_at : FnScope ["k", "found", "number", "p"] ["k"] (defScope t_prime_at) := ⟨rfl, rfl, rfl, by decide +kernel, rfl, by decide +kernel, by decide +kernel⟩
@[irreducible] noncomputable def m_prime_at (p_k : Int) : Option Int :=
Mir.lft (grd (List.length ([] : List Int) ≤ 16000000)) >>= fun _ => bnd ([] : List Int) fun found1 =>
bnd (1 : Int) fun number12 =>
(whS many (fun (st27 : (List Int) × Int) k => k (decide ((List.length st27.1 : Int) ≤ p_k))) (fun (st27 : (List Int) × Int) =>
bnd (st27.2 + (1 : Int)) fun number67 =>
(if (decide (number67 < (4 : Int))) = true then pure true else Mir.lft (grd (List.length st27.1 ≤ 16000000)) >>= fun _ => cmp st27.1 (fun x77 => Mir.lft (grd (Sm x77 ∧ Sm x77)) >>= fun _ => if (decide ((x77 * x77) ≤ number67)) = true then Mir.lft (grd (0 < x77)) >>= fun _ => pure (some (!decide ((number67 % x77) = (0 : Int)))) else pure none) >>= fun l105 => pure (List.all l105 id)) >>= fun b104 => if b104 = true then
(Mir.lft (grd (List.length st27.1 < 16000000)) >>= fun _ => bnd (st27.1 ++ [number67]) fun found87 =>
pure (found87, number67))
else
(pure (st27.1, number67))) (found1, number12)) >>= fun (st27 : (List Int) × Int) =>
Mir.lft (L2.atI st27.1 (-(1 : Int))) >>= fun y126 => bnd y126 fun r123 => pure r123
noncomputable abbrev fm_prime_at : (Int) → Option Int := fun a => m_prime_at a
abbrev sp_prime_at (K : PySem.W.Frag) : Sp := spV F0 fm_prime_at (fun _ => (aOne rI)) rI
section
variable {P : Program} {w : World} {K : PySem.W.Frag} {mg : Str → Option Value} {base : Heap}
theorem g_prime_at (T : Tx mg base)  {f : Addr} {fd : FuncData} (F : Fun K "prime_at" "prime_at" t_prime_at f fd) : FnG P w K mg base CX0 1 f fd ["k"] (sp_prime_at K) := by
  refine okG0 F sc_prime_at (fun vs H Q E h => ?_) (fun cdv A outer s0_ H0 vs Q E hr gd h => ?_)
  · obtain ⟨_, _, _, _, _, _, _, _, ⟨_, rfl, _⟩, _⟩ := h
    rfl
  · obtain ⟨_, p_k, S0, s0, r, s', e0, p0, ⟨_, rfl, rfl⟩, hm0, fin0⟩ := h
    have fin : ∀ v {H' : Hp}, (∃ S', Gm (pt0).M S0 H0 S' H' ∧ PotAt pt0 s' S' H' ∧ rI r v S') → Q v H' := fun v {H'} ⟨S', h1, h2, h3⟩ => fin0 v S' H' h1 h2 h3
    have w0 : Wd pt0 S0 H0 S0 H0 [] := Wd.start e0
    have hm0 : Mir.run (m_prime_at p_k) s0 = some (r, s') := hm0
    unfold m_prime_at at hm0
    have sc := sc_prime_at
    refine ⟨_, pss_cons (ps_asg (pe_tup (pa_cons (pe_lst (pa_nil)) (pa_cons (pe_int) (pa_nil)))) (k_gt K (pgs_cons (pg_name (i := 1) sc.nd rfl (by first | exact Or.inl rfl | exact Or.inr rfl)) (pgs_cons (pg_name (i := 2) sc.nd rfl (by first | exact Or.inl rfl | exact Or.inr rfl)) (pgs_nil))))) (pss_cons (ps_while PassesOwn.never (pt_cmpR op_le (pe_callB (k_len K) (by rfl) T.n_len (by decide +kernel) (pa_cons (pv 1) pa_nil)) (pv 0) (nomark _)) (pss_cons (ps_set (i := 2) sc.nd rfl (by first | exact Or.inl rfl | exact Or.inr rfl) (pe_op op_add (pv 2) (pe_int))) (pss_cons (ps_if (PW.pt (pw_or (pt_cmpR op_lt (pv 2) (pe_int) (nomark _)) (pw_or1 (pt_val (pe_callB (k_all K) (by rfl) T.n_all (by decide +kernel) (pa_cons (pe_lc (own := [("p", 3)]) (g := (gName 3)) rfl sc.nd (k_pil K (pv 1)) (blkOk_by (N := ["k", "found", "number", "p"]) (sc := defScope t_prime_at) (by decide +kernel)) (fun _ _ _ _ _ => pg_name (i := 3) sc.nd rfl (by first | exact Or.inl rfl | exact Or.inr rfl)) (fun _ _ _ _ _ => pts_one (pt_cmpR op_le (pe_op op_mulX (pv 3) (pv 3)) (pv 2) (nomark _))) (fun _ _ _ _ _ => pe_cmpR op_ne (pe_op op_mod (pv 2) (pv 3)) (pe_int) (nomark _))) pa_nil)))))) (pss_cons (ps_expr (pe_bm PySem.F.plainAttrs_list PySem.F.slot_list_append PySem.F.type_list_append mt_append (pv 1) (pa_cons (pv 2) pa_nil))) (pss_nil)) (pss_nil)) (pss_nil)))) (pss_cons (ps_ret (pe_ix (k_ixL K) (pv 1) (pe_un un_neg (pe_int)) (fun _ _ => rfl))) (pss_nil))), ?_⟩
    refine tup2_go ?_
    refine x_evL w0 p0 (l_lstL (a_nilL (R := rI))) hm0 ?_
    intro found1 q9 vs10 S2 H3 s4 w5 p6 g8 rfound11 hm7
    have rfound11 : All rI _ _ _ := rfound11
    refine x_ev w5 p6 e_cI hm7 ?_
    intro number12 vnumber20 S13 H14 s15 w16 p17 g19 rnumber21 hm18
    cases (show vnumber20 = .int number12 from rnumber21)
    have rfound11 := All.mo g19.s rfound11
    refine tup_end (is := [1, 2]) [some (.int p_k), some (.ref q9), some (.int number12), none] w16 p17 rfl (by simp) rfl ?_
    intro S22 H23 w24 p25 g26
    have rfound11 := All.mo g26.s rfound11
    refine q_wh (p := pt0) (fun st27 σ S' H' s' => ∃ (qfound_ : Addr) (usfound_ : List V), σ = [some (.int p_k), some (.ref qfound_), some (.int st27.2), none] ∧ Wd pt0 S0 H0 S' H' [(qfound_, .lst usfound_)] ∧ PotAt pt0 s' S' H' ∧ Ex S22 S' ∧ All rI S' st27.1 usfound_) ⟨_, _, rfl, w24, p25, Ex.rf, rfound11⟩ hm18 ?_ ?_ ?_ ?_
    · rintro st27 _ S36 H37 s38 ⟨qfound30, usfound31, rfl, w33, p34, eb35, rfound32⟩
      exact ⟨p34, w33.i, (t_Test (e_le (c_lenL (w_own (A := (aAll rI)) (j := 0) w33 rfl rfl rfound32)) (e_var (R := rI) rfl rfl)))⟩
    · rintro st27 _ S45 H46 s47 S48 H49 s50 ⟨qfound39, usfound40, rfl, w42, p43, eb44, rfound41⟩ g51 p52
      exact ⟨_, _, rfl, w42.go g51, p52, eb44.tr g51.s, All.mo g51.s rfound41⟩
    · rintro st27 _ S59 H60 s61 st27_ s2_ D_ ⟨qfound53, usfound54, rfl, w56, p57, eb58, rfound55⟩ hm62 nx63
      refine q_set (fun v => [some (.int p_k), some (.ref qfound53), some v, none]) (fun _ => rfl) w56 p57 (e_add (e_var (R := rI) rfl rfl) e_cI) hm62 ?_
      intro number67 vnumber75 S68 H69 s70 w71 p72 g74 rnumber76 hm73
      cases (show vnumber75 = .int number67 from rnumber76)
      have rfound55 := All.mo g74.s rfound55
      have eb58 := eb58.tr g74.s
      refine q_if w71 p72 (t_or (t_Test (e_lt (e_var (R := rI) rfl rfl) e_cI)) (t_B (c_all (EvL.rd (l_lc (R := rI) (g := (gName 3)) (γ := Bool) (vs := [3]) (mt := fun x77 k => Mir.lft (grd (Sm x77 ∧ Sm x77)) >>= fun _ => k (decide ((x77 * x77) ≤ number67))) (me := fun x77 k => Mir.lft (grd (0 < x77)) >>= fun _ => k (!decide ((number67 % x77) = (0 : Int)))) (R' := rB) (i_own (K := K) rfl (w71.at (i := 0) rfl).1 (w71.nmAt (i := 0) rfl) rfound55) (ownOk1 (w71.at (i := 0) rfl).1 (w71.nmAt (i := 0) rfl)) (g_nm (R := rI)) (fun x σ' S hp => by obtain ⟨_, rfl, _⟩ := hp; first | rfl | exact ((wipe_set (by decide)).trans wipe_wipe)) (fun x77 σ' S1 H1 g78 hp => by have w79 := w71.go g78; obtain ⟨_, rfl, rfl⟩ := hp; have rfound55 := All.mo g78.s rfound55; exact (t_Test (e_le (e_mul (e_var (R := rI) rfl rfl) (e_var (R := rI) rfl rfl)) (e_var (R := rI) rfl rfl)))) (fun x77 σ' S1 H1 g78 hp => by have w79 := w71.go g78; obtain ⟨_, rfl, rfl⟩ := hp; have rfound55 := All.mo g78.s rfound55; exact (e_ne (e_mod (e_var (R := rI) rfl rfl) (e_var (R := rI) rfl rfl)) e_cI)) pm_nm))))) hm73 ?_ ?_
      · intro S80 H81 s82 w83 p84 g85 hm86
        have rfound55 := All.mo g85.s rfound55
        have eb58 := eb58.tr g85.s
        refine q_app (j := 0) w83 p84 rfl rfl rfound55 (e_var (R := rI) rfl rfl) hm86 ?_
        intro found87 vs88 S90 H91 s92 w93 p94 e96 rfound89 hm95
        have eb58 := eb58.tr e96
        refine nx_done ?_
        cases run_of_pure hm95
        exact (nx63 _ _ _ ⟨_, _, rfl, w93, p94, eb58, rfound89⟩).1
      · intro S97 H98 s99 w100 p101 g102 hm103
        have rfound55 := All.mo g102.s rfound55
        have eb58 := eb58.tr g102.s
        refine nx_done ?_
        cases run_of_pure hm103
        exact (nx63 _ _ _ ⟨_, _, rfl, w100, p101, eb58, rfound55⟩).1
    · rintro st27 _ S112 H113 s114 ⟨qfound106, usfound107, rfl, w109, p110, eb111, rfound108⟩ hm115
      refine q_ret w109 p110 (e_ixL (w_own (A := (aAll rI)) (j := 0) w109 rfl rfl rfound108) (e_neg e_cI)) hm115 ?_
      intro r123 v124 S116 H117 s118 w119 p120 g122 rr125 hm121
      cases run_of_pure hm121
      exact fin _ ⟨S116, w119.g, p120, rr125⟩
end
abbrev t_doubling_chain : Stmt := top 28
theorem sc_doubling_chain : FnScope ["x", "found", "number"] ["x"] (defScope t_doubling_chain) := ⟨rfl, rfl, rfl, by decide +kernel, rfl, by decide +kernel, by decide +kernel⟩
@[irreducible] noncomputable def m_doubling_chain (p_x : Int) : Option (List Int) :=
Mir.lft (grd (List.length ([(2 : Int)] : List Int) ≤ 16000000)) >>= fun _ => bnd ([(2 : Int)] : List Int) fun found1 =>
(whS many (fun (st12 : (List Int)) k => Mir.lft (L2.atI st12 (-(1 : Int))) >>= fun y156 => k (decide (y156 ≤ p_x))) (fun (st12 : (List Int)) =>
Mir.lft (L2.atI st12 (-(1 : Int))) >>= fun y127 => Mir.lft (grd (Sm (2 : Int) ∧ Sm y127)) >>= fun _ => bnd (((2 : Int) * y127) - (1 : Int)) fun number55 =>
(whS many (fun (st65 : Int) k => Mir.lft (m_is_prime_number st65) >>= fun r126 => k (!r126)) (fun (st65 : Int) =>
bnd (st65 - (1 : Int)) fun number96 =>
pure number96) number55) >>= fun (st65 : Int) =>
Mir.lft (grd (List.length st12 < 16000000)) >>= fun _ => bnd (st12 ++ [st65]) fun found113 =>
pure found113) found1) >>= fun (st12 : (List Int)) =>
bnd st12 fun r146 => pure r146
noncomputable abbrev fm_doubling_chain : (Int) → Option (List Int) := fun a => m_doubling_chain a
abbrev sp_doubling_chain (K : PySem.W.Frag) : Sp := spV F0 fm_doubling_chain (fun _ => (aOne rI)) (rT K (aAll rI))
section
variable {P : Program} {w : World} {K : PySem.W.Frag} {mg : Str → Option Value} {base : Heap}
theorem g_doubling_chain (T : Tx mg base) (D0 : Dk P w K mg base "is_prime_number" "is_prime_number" t_is_prime_number 3 ["number"] (sp_is_prime_number K)) {f : Addr} {fd : FuncData} (F : Fun K "doubling_chain" "doubling_chain" t_doubling_chain f fd) : FnG P w K mg base CX0 4 f fd ["x"] (sp_doubling_chain K) := by
  obtain ⟨f0, fd0, F0, m0, G0, b0⟩ := D0
  refine okG0 F sc_doubling_chain (fun vs H Q E h => ?_) (fun cdv A outer s0_ H0 vs Q E hr gd h => ?_)
  · obtain ⟨_, _, _, _, _, _, _, _, ⟨_, rfl, _⟩, _⟩ := h
    rfl
  · obtain ⟨_, p_x, S0, s0, r, s', e0, p0, ⟨_, rfl, rfl⟩, hm0, fin0⟩ := h
    have fin : ∀ v {H' : Hp}, (∃ S', Gm (pt0).M S0 H0 S' H' ∧ PotAt pt0 s' S' H' ∧ (rT K (aAll rI)) r v S') → Q v H' := fun v {H'} ⟨S', h1, h2, h3⟩ => fin0 v S' H' h1 h2 h3
    have w0 : Wd pt0 S0 H0 S0 H0 [] := Wd.start e0
    have hm0 : Mir.run (m_doubling_chain p_x) s0 = some (r, s') := hm0
    unfold m_doubling_chain at hm0
    have sc := sc_doubling_chain
    refine ⟨_, pss_cons (ps_set (i := 1) sc.nd rfl (by first | exact Or.inl rfl | exact Or.inr rfl) (pe_lst (pa_cons (pe_int) (pa_nil)))) (pss_cons (ps_while PassesOwn.never (pt_cmpR op_le (pe_ix (k_ixL K) (pv 1) (pe_un un_neg (pe_int)) (fun _ _ => rfl)) (pv 0) (nomark _)) (pss_cons (ps_set (i := 2) sc.nd rfl (by first | exact Or.inl rfl | exact Or.inr rfl) (pe_op op_sub (pe_op op_mulX (pe_int) (pe_ix (k_ixL K) (pv 1) (pe_un un_neg (pe_int)) (fun _ _ => rfl))) (pe_int))) (pss_cons (ps_while PassesOwn.never (pt_not (pt_val (pe_cG G0 (hr.mono (by decide)) gd rfl m0 F0.kp b0 pass0 (pa_cons (pv 2) (pa_nil))))) (pss_cons (ps_set (i := 2) sc.nd rfl (by first | exact Or.inl rfl | exact Or.inr rfl) (pe_op op_sub (pv 2) (pe_int))) (pss_nil))) (pss_cons (ps_expr (pe_bm PySem.F.plainAttrs_list PySem.F.slot_list_append PySem.F.type_list_append mt_append (pv 1) (pa_cons (pv 2) pa_nil))) (pss_nil))))) (pss_cons (ps_ret (pe_callTy (k_tupOf K) (by rfl) T.n_tuple (by decide +kernel) (pa_cons (pv 1) pa_nil))) (pss_nil))), ?_⟩
    refine q_setL (fun v => [some (.int p_x), some v, none]) (fun _ => rfl) w0 p0 (l_lstL (a_consL e_cI (a_nilL (R := rI)))) hm0 ?_
    intro found1 q9 vs10 S2 H3 s4 w5 p6 g8 rfound11 hm7
    have rfound11 : All rI _ _ _ := rfound11
    refine q_wh (p := pt0) (fun st12 σ S' H' s' => ∃ (qfound_ : Addr) (usfound_ : List V) (xnumber_ : Option V), σ = [some (.int p_x), some (.ref qfound_), xnumber_] ∧ Wd pt0 S0 H0 S' H' [(qfound_, .lst usfound_)] ∧ PotAt pt0 s' S' H' ∧ Ex S2 S' ∧ All rI S' st12 usfound_) ⟨_, _, _, rfl, w5, p6, Ex.rf, rfound11⟩ hm7 ?_ ?_ ?_ ?_
    · rintro st12 _ S22 H23 s24 ⟨qfound15, usfound16, xnumber17, rfl, w19, p20, eb21, rfound18⟩
      exact ⟨p20, w19.i, (t_Test (e_le (e_ixL (w_own (A := (aAll rI)) (j := 0) w19 rfl rfl rfound18) (e_neg e_cI)) (e_var (R := rI) rfl rfl)))⟩
    · rintro st12 _ S32 H33 s34 S35 H36 s37 ⟨qfound25, usfound26, xnumber27, rfl, w29, p30, eb31, rfound28⟩ g38 p39
      exact ⟨_, _, _, rfl, w29.go g38, p39, eb31.tr g38.s, All.mo g38.s rfound28⟩
    · rintro st12 _ S47 H48 s49 st12_ s2_ D_ ⟨qfound40, usfound41, xnumber42, rfl, w44, p45, eb46, rfound43⟩ hm50 nx51
      refine q_set (fun v => [some (.int p_x), some (.ref qfound40), some v]) (fun _ => rfl) w44 p45 (e_sub (e_mul e_cI (e_ixL (w_own (A := (aAll rI)) (j := 0) w44 rfl rfl rfound43) (e_neg e_cI))) e_cI) hm50 ?_
      intro number55 vnumber63 S56 H57 s58 w59 p60 g62 rnumber64 hm61
      cases (show vnumber63 = .int number55 from rnumber64)
      have rfound43 := All.mo g62.s rfound43
      have eb46 := eb46.tr g62.s
      refine q_wh (p := pt0) (fun st65 σ S' H' s' => σ = [some (.int p_x), some (.ref qfound40), some (.int st65)] ∧ Wd pt0 S0 H0 S' H' [(qfound40, .lst usfound41)] ∧ PotAt pt0 s' S' H' ∧ Ex S56 S') ⟨rfl, w59, p60, Ex.rf⟩ hm61 ?_ ?_ ?_ ?_
      · rintro st65 _ S71 H72 s73 ⟨rfl, w68, p69, eb70⟩
        have rfound43 := All.mo eb70 rfound43
        have eb46 := eb46.tr eb70
        exact ⟨p69, w68.i, (t_not (t_B (Ev.eta (e_call (E := E0) (fm := fm_is_prime_number) (R := rB) (a_one (e_var (R := rI) rfl rfl))))))⟩
      · rintro st65 _ S77 H78 s79 S80 H81 s82 ⟨rfl, w74, p75, eb76⟩ g83 p84
        exact ⟨rfl, w74.go g83, p84, eb76.tr g83.s⟩
      · rintro st65 _ S88 H89 s90 st65_ s2_ D_ ⟨rfl, w85, p86, eb87⟩ hm91 nx92
        have rfound43 := All.mo eb87 rfound43
        have eb46 := eb46.tr eb87
        refine q_set (fun v => [some (.int p_x), some (.ref qfound40), some v]) (fun _ => rfl) w85 p86 (e_sub (e_var (R := rI) rfl rfl) e_cI) hm91 ?_
        intro number96 vnumber104 S97 H98 s99 w100 p101 g103 rnumber105 hm102
        cases (show vnumber104 = .int number96 from rnumber105)
        have rfound43 := All.mo g103.s rfound43
        have eb46 := eb46.tr g103.s
        have eb87 := eb87.tr g103.s
        cases run_of_pure hm102
        exact (nx92 _ _ _ ⟨rfl, w100, p101, eb87⟩).1
      · rintro st65 _ S109 H110 s111 ⟨rfl, w106, p107, eb108⟩ hm112
        have rfound43 := All.mo eb108 rfound43
        have eb46 := eb46.tr eb108
        refine q_app (j := 0) w106 p107 rfl rfl rfound43 (e_var (R := rI) rfl rfl) hm112 ?_
        intro found113 vs114 S116 H117 s118 w119 p120 e122 rfound115 hm121
        have eb46 := eb46.tr e122
        cases run_of_pure hm121
        exact (nx51 _ _ _ ⟨_, _, _, rfl, w119, p120, eb46, rfound115⟩).1
    · rintro st12 _ S135 H136 s137 ⟨qfound128, usfound129, xnumber130, rfl, w132, p133, eb134, rfound131⟩ hm138
      refine q_ret w132 p133 (c_tup (K := K) (w_own (A := (aAll rI)) (j := 0) w132 rfl rfl rfound131)) hm138 ?_
      intro r146 v147 S139 H140 s141 w142 p143 g145 rr148 hm144
      cases run_of_pure hm144
      exact fin _ ⟨S139, w142.g, p143, rr148⟩
end
abbrev t_doubling_error : Stmt := top 29
theorem sc_doubling_error : FnScope ["x", "value", "item", "i"] ["x", "value"] (defScope t_doubling_error) := ⟨rfl, rfl, rfl, by decide +kernel, rfl, by decide +kernel, by decide +kernel⟩
@[irreducible] noncomputable def m_doubling_error (p_x : Int) (p_value : (List Int)) : Option (Option (Str ⊕ (Str × Int))) :=
(if (!true) = true then pure true else Mir.lft (grd (List.length ([] : List Int) ≤ 16000000)) >>= fun _ => pure (decide (p_value = ([] : List Int)))) >>= fun b298 => if b298 = true then
(bnd (some ((Sum.inl ("form" : Str)) : (Str ⊕ (Str × Int)))) fun r15 => pure r15)
else
((lpC (ρ := (Option (Str ⊕ (Str × Int)))) p_value (fun (x27 : Int) (st25 : Unit) =>
(if (!true) = true then pure true else (if false = true then pure true else (if (decide ((1 : Int) ≤ x27)) = true then Mir.lft (grd (Sm (2 : Int) ∧ Sm (100000000 : Int))) >>= fun _ => pure (decide (x27 ≤ ((2 : Int) * (100000000 : Int)))) else pure false) >>= fun b92 => pure (!b92)) >>= fun b91 => pure b91) >>= fun b90 => if b90 = true then
(bnd (some ((Sum.inl ("form" : Str)) : (Str ⊕ (Str × Int)))) fun r80 => pure (Ctl.ret r80))
else
(pure (Ctl.go ()))) ()) >>= fun o => aft o (fun (st25 : Unit) =>
Mir.lft (L2.atI p_value (0 : Int)) >>= fun y295 => if (!decide (y295 = (2 : Int))) = true then
(bnd (some ((Sum.inl ("begin" : Str)) : (Str ⊕ (Str × Int)))) fun r115 => pure r115)
else
(Mir.lft (grd (RgB (1 : Int) ∧ RgB (List.length p_value : Int))) >>= fun _ => (lpC (ρ := (Option (Str ⊕ (Str × Int)))) (rng (1 : Int) (List.length p_value : Int)) (fun (x127 : Int) (st125 : Unit) =>
Mir.lft (L2.atI p_value (x127 - (1 : Int))) >>= fun y191 => Mir.lft (L2.atI p_value x127) >>= fun y192 => (if (decide (y191 < y192)) = true then Mir.lft (L2.atI p_value (x127 - (1 : Int))) >>= fun y193 => Mir.lft (grd (Sm (2 : Int) ∧ Sm y193)) >>= fun _ => pure (decide (y192 < ((2 : Int) * y193))) else pure false) >>= fun b190 => if (!b190) = true then
(bnd (some ((Sum.inr (("far" : Str), x127)) : (Str ⊕ (Str × Int)))) fun r180 => pure (Ctl.ret r180))
else
(pure (Ctl.go ()))) ()) >>= fun o => aft o (fun (st125 : Unit) =>
(lpC (ρ := (Option (Str ⊕ (Str × Int)))) (enum p_value) (fun (x204 : (Int × Int)) (st202 : Unit) =>
Mir.lft (m_is_prime_number x204.2) >>= fun r270 => if (!r270) = true then
(bnd (some ((Sum.inr (("prime" : Str), x204.1)) : (Str ⊕ (Str × Int)))) fun r260 => pure (Ctl.ret r260))
else
(pure (Ctl.go ()))) ()) >>= fun o => aft o (fun (st202 : Unit) =>
Mir.lft (L2.atI p_value (-(1 : Int))) >>= fun y290 => bnd (if (decide (y290 ≤ p_x)) = true then (some ((Sum.inl ("end" : Str)) : (Str ⊕ (Str × Int)))) else none) fun r287 => pure r287) (fun r291 => pure r291)) (fun r293 => pure r293))) (fun r296 => pure r296))
noncomputable abbrev fm_doubling_error : (Int × (List Int)) → Option (Option (Str ⊕ (Str × Int))) := fun (a0, a1) => m_doubling_error a0 a1
abbrev sp_doubling_error (K : PySem.W.Frag) : Sp := spV F0 fm_doubling_error (fun _ => (aCons rI (aOne (rT K (aAll rI))))) (rO (rU rS (rT K (aCons rS (aOne rI)))))
section
variable {P : Program} {w : World} {K : PySem.W.Frag} {mg : Str → Option Value} {base : Heap}
theorem g_doubling_error (T : Tx mg base) (D0 : Dk P w K mg base "is_prime_number" "is_prime_number" t_is_prime_number 3 ["number"] (sp_is_prime_number K)) {f : Addr} {fd : FuncData} (F : Fun K "doubling_error" "doubling_error" t_doubling_error f fd) : FnG P w K mg base CX0 4 f fd ["x", "value"] (sp_doubling_error K) := by
  obtain ⟨f0, fd0, F0, m0, G0, b0⟩ := D0
  refine okG0 F sc_doubling_error (fun vs H Q E h => ?_) (fun cdv A outer s0_ H0 vs Q E hr gd h => ?_)
  · obtain ⟨_, _, _, _, _, _, _, _, ⟨_, _, rfl, _, ⟨_, rfl, _⟩⟩, _⟩ := h
    rfl
  · obtain ⟨_, a, S0, s0, r, s', e0, p0, ⟨_, _, rfl, rfl, ⟨v_value, rfl, r_value⟩⟩, hm0, fin0⟩ := h
    obtain ⟨p_x, p_value⟩ := a
    have fin : ∀ v {H' : Hp}, (∃ S', Gm (pt0).M S0 H0 S' H' ∧ PotAt pt0 s' S' H' ∧ (rO (rU rS (rT K (aCons rS (aOne rI))))) r v S') → Q v H' := fun v {H'} ⟨S', h1, h2, h3⟩ => fin0 v S' H' h1 h2 h3
    have w0 : Wd pt0 S0 H0 S0 H0 [] := Wd.start e0
    have hm0 : Mir.run (m_doubling_error p_x p_value) s0 = some (r, s') := hm0
    unfold m_doubling_error at hm0
    have sc := sc_doubling_error
    refine ⟨_, pss_cons (ps_if (PW.pt (pw_or (pt_not (pt_val (pe_callB (k_isi K) (by rfl) T.n_isinstance (by decide +kernel) (pa_cons (pv 1) (pa_cons (pe_bltn (v := .ty "tuple") (u := .type "tuple") rfl T.n_tuple (by decide +kernel) rfl) pa_nil))))) (pw_or1 (pt_cmpR (k_eqD K hr) (pv 1) (pe_tup (pa_nil)) (nomark _))))) (pss_cons (ps_ret (pe_str)) (pss_nil)) (pss_nil)) (pss_cons (ps_for PassesOwn.never rfl (k_pit K (pv 1)) (pg_name (i := 2) sc.nd rfl (by first | exact Or.inl rfl | exact Or.inr rfl)) (pss_cons (ps_if (PW.pt (pw_or (pt_not (pt_val (pe_callB (k_isi K) (by rfl) T.n_isinstance (by decide +kernel) (pa_cons (pv 2) (pa_cons (pe_bltn (v := .ty "int") (u := .type "int") rfl T.n_int (by decide +kernel) rfl) pa_nil))))) (pw_or (pt_val (pe_callB (k_isi K) (by rfl) T.n_isinstance (by decide +kernel) (pa_cons (pv 2) (pa_cons (pe_bltn (v := .ty "bool") (u := .type "bool") rfl T.n_bool (by decide +kernel) rfl) pa_nil)))) (pw_or1 (pt_not (pt_chain op_le op_le (pe_int) (pv 2) (pe_op op_mulX (pe_int) (pe_glob (v := .int 100000000) rfl T.c_MAX_SPANNED.choose_spec ⟨_, rfl⟩)))))))) (pss_cons (ps_ret (pe_str)) (pss_nil)) (pss_nil)) (pss_nil))) (pss_cons (ps_if (pt_cmpR op_ne (pe_ix (k_ixT K) (pv 1) (pe_int) (fun _ _ => rfl)) (pe_int) (nomark _)) (pss_cons (ps_ret (pe_str)) (pss_nil)) (pss_nil)) (pss_cons (ps_for PassesOwn.never rfl (pi_range2 rfl T.n_range (pa_cons (pe_int) (pa_cons (pe_callB (k_len K) (by rfl) T.n_len (by decide +kernel) (pa_cons (pv 1) pa_nil)) pa_nil))) (pg_name (i := 3) sc.nd rfl (by first | exact Or.inl rfl | exact Or.inr rfl)) (pss_cons (ps_if (pt_not (pt_chain op_lt op_lt (pe_ix (k_ixT K) (pv 1) (pe_op op_sub (pv 3) (pe_int)) (fun _ _ => rfl)) (pe_ix (k_ixT K) (pv 1) (pv 3) (fun _ _ => rfl)) (pe_op op_mulX (pe_int) (pe_ix (k_ixT K) (pv 1) (pe_op op_sub (pv 3) (pe_int)) (fun _ _ => rfl))))) (pss_cons (ps_ret (pe_tup (pa_cons (pe_str) (pa_cons (pv 3) (pa_nil))))) (pss_nil)) (pss_nil)) (pss_nil))) (pss_cons (ps_for PassesOwn.never rfl (k_pieT K rfl T.n_enumerate (pa_cons (pv 1) pa_nil)) (k_gt K (pgs_cons (pg_name (i := 3) sc.nd rfl (by first | exact Or.inl rfl | exact Or.inr rfl)) (pgs_cons (pg_name (i := 2) sc.nd rfl (by first | exact Or.inl rfl | exact Or.inr rfl)) (pgs_nil)))) (pss_cons (ps_if (pt_not (pt_val (pe_cG G0 (hr.mono (by decide)) gd rfl m0 F0.kp b0 pass0 (pa_cons (pv 2) (pa_nil))))) (pss_cons (ps_ret (pe_tup (pa_cons (pe_str) (pa_cons (pv 3) (pa_nil))))) (pss_nil)) (pss_nil)) (pss_nil))) (pss_cons (ps_ret (pe_ifExp (pt_cmpR op_le (pe_ix (k_ixT K) (pv 1) (pe_un un_neg (pe_int)) (fun _ _ => rfl)) (pv 0) (nomark _)) (pe_str) (pe_non))) (pss_nil)))))), ?_⟩
    refine q_if w0 p0 (t_or (t_not (t_B (c_isi (K := K) (U := "tuple") (b := true) (e_var rfl r_value) ty_T (kit_ty (by decide +kernel))))) (t_Test (e_eqQ (q_T (qs_all q_I)) (by decide) (Ev.Q (e_var rfl r_value) (d_T (ds_all d_I))) (Ev.Q (e_tupL (K := K) (a_nilL (R := rI))) (d_T (ds_all d_I)))))) hm0 ?_ ?_
    · intro S1 H2 s3 w4 p5 g6 hm7
      have r_value := Mo.mo g6.s r_value
      refine q_ret w4 p5 (Ev.some (Ev.inl (R' := (rT K (aCons rS (aOne rI)))) e_cS)) hm7 ?_
      intro r15 v16 S8 H9 s10 w11 p12 g14 rr17 hm13
      cases run_of_pure hm13
      exact fin _ ⟨S8, w11.g, p12, rr17⟩
    · intro S18 H19 s20 w21 p22 g23 hm24
      have r_value := Mo.mo g23.s r_value
      refine nx_done ?_
      refine q_forC (p := pt0) (ρ := (Option (Str ⊕ (Str × Int)))) w21 p22 (i_T (e_var rfl r_value)) (g_nm (R := rI)) hm24 (fun Sb26 st25 σ S' H' s' => Ex Sb26 S' ∧ (∃ (xitem_ : Option V), σ = [some (.int p_x), some v_value, xitem_, none] ∧ Wd pt0 S0 H0 S' H' [] ∧ PotAt pt0 s' S' H' ∧ Ex S18 S')) (fun r v H' s' => ∃ S', Gm (pt0).M S0 H0 S' H' ∧ PotAt pt0 s' S' H' ∧ (rO (rU rS (rT K (aCons rS (aOne rI))))) r v S') ?_ ?_ ?_ ?_ ?_ ?_
      · intro S28 H29 s30 w31 p32 g33
        have r_value := Mo.mo g33.s r_value
        exact ⟨Ex.rf, ⟨_, rfl, w31, p32, g33.s⟩⟩
      · rintro Sb26 st25 _ S38 H39 s40 ⟨ex41, ⟨xitem34, rfl, w35, p36, eb37⟩⟩
        exact ⟨ex41, w35.i, p36, ownOk0⟩
      · rintro Sb26 st25 _ S46 H47 s48 S49 H50 ⟨ex52, ⟨xitem42, rfl, w43, p44, eb45⟩⟩ g51
        exact ⟨ex52.tr g51.s, _, rfl, w43.go (Gm.up g51), PotAt.go p44 g51, eb45.tr g51.s⟩
      · rintro Sb26 x27 st25 _ σ65 S57 H58 s59 st25_ s2_ D_ ⟨ex64, ⟨xitem53, rfl, w54, p55, eb56⟩⟩ hp hm60 nx61 bk62 rt63
        obtain ⟨_, rfl, rfl⟩ := hp
        have r_value := Mo.mo eb56 r_value
        refine q_if w54 p55 (t_or (t_not (t_B (c_isi (K := K) (U := "int") (b := true) (e_var (R := rI) rfl rfl) ty_I (kit_ty (by decide +kernel))))) (t_or (t_B (c_isi (K := K) (U := "bool") (b := false) (e_var (R := rI) rfl rfl) ty_I (kit_ty (by decide +kernel)))) (t_not (t_Test (e_chain ci_le ci_le e_cI (e_var (R := rI) rfl rfl) (e_mul e_cI e_cI)))))) hm60 ?_ ?_
        · intro S66 H67 s68 w69 p70 g71 hm72
          have r_value := Mo.mo g71.s r_value
          have eb56 := eb56.tr g71.s
          have ex64 := ex64.tr g71.s
          refine q_ret w69 p70 (Ev.some (Ev.inl (R' := (rT K (aCons rS (aOne rI)))) e_cS)) hm72 ?_
          intro r80 v81 S73 H74 s75 w76 p77 g79 rr82 hm78
          cases run_of_pure hm78
          exact rt63 _ _ _ rfl ⟨S73, w76.g, p77, rr82⟩
        · intro S83 H84 s85 w86 p87 g88 hm89
          have r_value := Mo.mo g88.s r_value
          have eb56 := eb56.tr g88.s
          have ex64 := ex64.tr g88.s
          refine nx_done ?_
          cases run_of_pure hm89
          exact (nx61 _ _ _ _ rfl ⟨ex64, ⟨_, rfl, w86, p87, eb56⟩⟩).1
      · rintro Sb26 st25 _ S97 H98 s99 ⟨_, ⟨xitem93, rfl, w94, p95, eb96⟩⟩ hm100
        have hm100 := hm100.elim id id
        have r_value := Mo.mo eb96 r_value
        refine q_if w94 p95 (t_Test (e_ne (e_ixT (e_var rfl r_value) e_cI) e_cI)) hm100 ?_ ?_
        · intro S101 H102 s103 w104 p105 g106 hm107
          have r_value := Mo.mo g106.s r_value
          refine q_ret w104 p105 (Ev.some (Ev.inl (R' := (rT K (aCons rS (aOne rI)))) e_cS)) hm107 ?_
          intro r115 v116 S108 H109 s110 w111 p112 g114 rr117 hm113
          cases run_of_pure hm113
          exact fin _ ⟨S108, w111.g, p112, rr117⟩
        · intro S118 H119 s120 w121 p122 g123 hm124
          have r_value := Mo.mo g123.s r_value
          refine nx_done ?_
          refine q_forC (p := pt0) (ρ := (Option (Str ⊕ (Str × Int)))) w121 p122 (i_R2 e_cI (c_lenT (e_var rfl r_value))) (g_nm (R := rI)) hm124 (fun Sb126 st125 σ S' H' s' => Ex Sb126 S' ∧ (∃ (xi_ : Option V), σ = [some (.int p_x), some v_value, xitem93, xi_] ∧ Wd pt0 S0 H0 S' H' [] ∧ PotAt pt0 s' S' H' ∧ Ex S118 S')) (fun r v H' s' => ∃ S', Gm (pt0).M S0 H0 S' H' ∧ PotAt pt0 s' S' H' ∧ (rO (rU rS (rT K (aCons rS (aOne rI))))) r v S') ?_ ?_ ?_ ?_ ?_ ?_
          · intro S128 H129 s130 w131 p132 g133
            have r_value := Mo.mo g133.s r_value
            exact ⟨Ex.rf, ⟨_, rfl, w131, p132, g133.s⟩⟩
          · rintro Sb126 st125 _ S138 H139 s140 ⟨ex141, ⟨xi134, rfl, w135, p136, eb137⟩⟩
            exact ⟨ex141, w135.i, p136, ownOk0⟩
          · rintro Sb126 st125 _ S146 H147 s148 S149 H150 ⟨ex152, ⟨xi142, rfl, w143, p144, eb145⟩⟩ g151
            exact ⟨ex152.tr g151.s, _, rfl, w143.go (Gm.up g151), PotAt.go p144 g151, eb145.tr g151.s⟩
          · rintro Sb126 x127 st125 _ σ165 S157 H158 s159 st125_ s2_ D_ ⟨ex164, ⟨xi153, rfl, w154, p155, eb156⟩⟩ hp hm160 nx161 bk162 rt163
            obtain ⟨_, rfl, rfl⟩ := hp
            have r_value := Mo.mo eb156 r_value
            refine q_if w154 p155 (t_not (t_Test (e_chain ci_lt ci_lt (e_ixT (e_var rfl r_value) (e_sub (e_var (R := rI) rfl rfl) e_cI)) (e_ixT (e_var rfl r_value) (e_var (R := rI) rfl rfl)) (e_mul e_cI (e_ixT (e_var rfl r_value) (e_sub (e_var (R := rI) rfl rfl) e_cI)))))) hm160 ?_ ?_
            · intro S166 H167 s168 w169 p170 g171 hm172
              have r_value := Mo.mo g171.s r_value
              have eb156 := eb156.tr g171.s
              have ex164 := ex164.tr g171.s
              refine q_ret w169 p170 (Ev.some (Ev.inr (R' := rS) (e_tup (K := K) (a_cons e_cS (a_one (e_var (R := rI) rfl rfl))) (arN_cons arN_one) (by decide)))) hm172 ?_
              intro r180 v181 S173 H174 s175 w176 p177 g179 rr182 hm178
              cases run_of_pure hm178
              exact rt163 _ _ _ rfl ⟨S173, w176.g, p177, rr182⟩
            · intro S183 H184 s185 w186 p187 g188 hm189
              have r_value := Mo.mo g188.s r_value
              have eb156 := eb156.tr g188.s
              have ex164 := ex164.tr g188.s
              refine nx_done ?_
              cases run_of_pure hm189
              exact (nx161 _ _ _ _ rfl ⟨ex164, ⟨_, rfl, w186, p187, eb156⟩⟩).1
          · rintro Sb126 st125 _ S198 H199 s200 ⟨_, ⟨xi194, rfl, w195, p196, eb197⟩⟩ hm201
            have hm201 := hm201.elim id id
            have r_value := Mo.mo eb197 r_value
            refine q_forC (p := pt0) (ρ := (Option (Str ⊕ (Str × Int)))) w195 p196 (i_enumT (K := K) (e_var rfl r_value)) (g_tp (gq_cons (g_nm (R := rI)) (gq_one (g_nm (R := rI))))) hm201 (fun Sb203 st202 σ S' H' s' => Ex Sb203 S' ∧ (∃ (xitem_ : Option V) (xi_ : Option V), σ = [some (.int p_x), some v_value, xitem_, xi_] ∧ Wd pt0 S0 H0 S' H' [] ∧ PotAt pt0 s' S' H' ∧ Ex S198 S')) (fun r v H' s' => ∃ S', Gm (pt0).M S0 H0 S' H' ∧ PotAt pt0 s' S' H' ∧ (rO (rU rS (rT K (aCons rS (aOne rI))))) r v S') ?_ ?_ ?_ ?_ ?_ ?_
            · intro S205 H206 s207 w208 p209 g210
              have r_value := Mo.mo g210.s r_value
              exact ⟨Ex.rf, ⟨_, _, rfl, w208, p209, g210.s⟩⟩
            · rintro Sb203 st202 _ S216 H217 s218 ⟨ex219, ⟨xitem211, xi212, rfl, w213, p214, eb215⟩⟩
              exact ⟨ex219, w213.i, p214, ownOk0⟩
            · rintro Sb203 st202 _ S225 H226 s227 S228 H229 ⟨ex231, ⟨xitem220, xi221, rfl, w222, p223, eb224⟩⟩ g230
              exact ⟨ex231.tr g230.s, _, _, rfl, w222.go (Gm.up g230), PotAt.go p223 g230, eb224.tr g230.s⟩
            · rintro Sb203 x204 st202 _ σ245 S237 H238 s239 st202_ s2_ D_ ⟨ex244, ⟨xitem232, xi233, rfl, w234, p235, eb236⟩⟩ hp hm240 nx241 bk242 rt243
              obtain ⟨_, ⟨_, rfl, rfl⟩, ⟨_, rfl, rfl⟩⟩ := hp
              have r_value := Mo.mo eb236 r_value
              refine q_if w234 p235 (t_not (t_B (Ev.eta (e_call (E := E0) (fm := fm_is_prime_number) (R := rB) (a_one (e_var (R := rI) rfl rfl)))))) hm240 ?_ ?_
              · intro S246 H247 s248 w249 p250 g251 hm252
                have r_value := Mo.mo g251.s r_value
                have eb236 := eb236.tr g251.s
                have ex244 := ex244.tr g251.s
                refine q_ret w249 p250 (Ev.some (Ev.inr (R' := rS) (e_tup (K := K) (a_cons e_cS (a_one (e_var (R := rI) rfl rfl))) (arN_cons arN_one) (by decide)))) hm252 ?_
                intro r260 v261 S253 H254 s255 w256 p257 g259 rr262 hm258
                cases run_of_pure hm258
                exact rt243 _ _ _ rfl ⟨S253, w256.g, p257, rr262⟩
              · intro S263 H264 s265 w266 p267 g268 hm269
                have r_value := Mo.mo g268.s r_value
                have eb236 := eb236.tr g268.s
                have ex244 := ex244.tr g268.s
                refine nx_done ?_
                cases run_of_pure hm269
                exact (nx241 _ _ _ _ rfl ⟨ex244, ⟨_, _, rfl, w266, p267, eb236⟩⟩).1
            · rintro Sb203 st202 _ S276 H277 s278 ⟨_, ⟨xitem271, xi272, rfl, w273, p274, eb275⟩⟩ hm279
              have hm279 := hm279.elim id id
              have r_value := Mo.mo eb275 r_value
              refine q_ret w273 p274 (e_ifT (R := (rO (rU rS (rT K (aCons rS (aOne rI)))))) (t_Test (e_le (e_ixT (e_var rfl r_value) (e_neg e_cI)) (e_var (R := rI) rfl rfl))) (Ev.some (Ev.inl (R' := (rT K (aCons rS (aOne rI)))) e_cS)) (Ev.none (R := (rU rS (rT K (aCons rS (aOne rI))))) e_cN)) hm279 ?_
              intro r287 v288 S280 H281 s282 w283 p284 g286 rr289 hm285
              cases run_of_pure hm285
              exact fin _ ⟨S280, w283.g, p284, rr289⟩
            · intro r291 v292 H' s' hr1 hm1
              cases run_of_pure hm1
              exact fin _ hr1
          · intro r293 v294 H' s' hr1 hm1
            cases run_of_pure hm1
            exact fin _ hr1
      · intro r296 v297 H' s' hr1 hm1
        cases run_of_pure hm1
        exact fin _ hr1
end
abbrev t__law_of : Stmt := top 32
theorem sc__law_of : FnScope ["pot", "many", "number", "cell"] ["pot", "many"] (defScope t__law_of) := ⟨rfl, rfl, rfl, by decide +kernel, rfl, by decide +kernel, by decide +kernel⟩
@[irreducible] noncomputable def m__law_of (p_many : Int) : PM PotT Int :=
if (decide (p_many < (2 : Int))) = true then
(bnd (0 : Int) fun r15 => pure r15)
else
(potS >>= fun s26 => if (neG s26) = true then
(popL >>= fun c35 => bnd c35 fun cell36 =>
((if (decide (p_many ≤ cell36)) = true then
(Mir.lft (grd (Dv p_many)) >>= fun _ => potS >>= fun s57 => Mir.lft (grd (s57.great.length < 16000000)) >>= fun _ => potW (fun s => { s with great := s.great ++ [(cell36 / p_many)] }) >>= fun _ => pure ())
else
(pure ())) >>= fun (st46 : Unit) =>
Mir.lft (grd (0 < p_many)) >>= fun _ => bnd (cell36 % p_many) fun r89 => pure r89))
else
(potS >>= fun s99 => potW (fun s => { s with turn := ((PotT.turn s99) + (1 : Int)) }) >>= fun _ =>
potS >>= fun s107 => potS >>= fun s108 => Mir.lft (grd (Sm (PotT.turn s108) ∧ Sm (2654435761 : Int))) >>= fun _ => Mir.lft (grd (0 < (4294967279 : Int))) >>= fun _ => bnd (((PotT.mix s107) + ((PotT.turn s108) * (2654435761 : Int))) % (4294967279 : Int)) fun number109 =>
Mir.lft (grd (Sm number109 ∧ Sm number109)) >>= fun _ => potS >>= fun s119 => Mir.lft (grd (Sm (PotT.turn s119) ∧ Sm (40503 : Int))) >>= fun _ => Mir.lft (grd (0 < (4294967231 : Int))) >>= fun _ => bnd ((((number109 * number109) + ((PotT.turn s119) * (40503 : Int))) + (5 : Int)) % (4294967231 : Int)) fun number120 =>
Mir.lft (grd (Sm number120 ∧ Sm number120)) >>= fun _ => potS >>= fun s130 => Mir.lft (grd (0 < (4294967291 : Int))) >>= fun _ => bnd (((number120 * number120) + (PotT.mix s130)) % (4294967291 : Int)) fun number131 =>
Mir.lft (grd (Dv (256 : Int))) >>= fun _ => Mir.lft (grd (0 < p_many)) >>= fun _ => bnd ((number131 / (256 : Int)) % p_many) fun r148 => pure r148))
noncomputable abbrev fm__law_of : (Unit × Int) → PM PotT Int := fun (_, a1) => m__law_of a1
abbrev sp__law_of (K : PySem.W.Frag) : Sp := spV (fun i => potPt i) fm__law_of (fun i => (aCons (rP i) (aOne rI))) rI
section
variable {P : Program} {w : World} {K : PySem.W.Frag} {mg : Str → Option Value} {base : Heap}
theorem g__law_of (T : Tx mg base)  {f : Addr} {fd : FuncData} (F : Fun K "_law_of" "_law_of" t__law_of f fd) : FnG P w K mg base CX0 1 f fd ["pot", "many"] (sp__law_of K) := by
  refine okG0 F sc__law_of (fun vs H Q E h => ?_) (fun cdv A outer s0_ H0 vs Q E hr gd h => ?_)
  · obtain ⟨_, _, _, _, _, _, _, _, ⟨_, _, rfl, _, ⟨_, rfl, _⟩⟩, _⟩ := h
    rfl
  · obtain ⟨i, a, S0, s0, r, s', e0, p0, ⟨_, _, rfl, rfl, ⟨_, rfl, rfl⟩⟩, hm0, fin0⟩ := h
    obtain ⟨_, p_many⟩ := a
    have fin : ∀ v {H' : Hp}, (∃ S', Gm ((potPt i)).M S0 H0 S' H' ∧ PotAt (potPt i) s' S' H' ∧ rI r v S') → Q v H' := fun v {H'} ⟨S', h1, h2, h3⟩ => fin0 v S' H' h1 h2 h3
    have w0 : Wd (potPt i) S0 H0 S0 H0 [] := Wd.start e0
    have hm0 : Mir.run (m__law_of p_many) s0 = some (r, s') := hm0
    unfold m__law_of at hm0
    have sc := sc__law_of
    refine ⟨_, pss_cons (ps_if (pt_cmpR op_lt (pv 1) (pe_int) (nomark _)) (pss_cons (ps_ret (pe_int)) (pss_nil)) (pss_nil)) (pss_cons (ps_if (pt_cmpR (k_neD K hr) (pe_ix (k_ixL K) (pv 0) (pe_int) (fun _ _ => rfl)) (pe_lst pa_nil) (nomark _)) (pss_cons (ps_set (i := 3) sc.nd rfl (by first | exact Or.inl rfl | exact Or.inr rfl) (pe_bm0 PySem.F.plainAttrs_list PySem.F.slot_list_pop PySem.F.type_list_pop mt_pop (pe_ix (k_ixL K) (pv 0) (pe_int) (fun _ _ => rfl)))) (pss_cons (ps_if (pt_cmpR op_ge (pv 3) (pv 1) (nomark _)) (pss_cons (ps_expr (pe_bm PySem.F.plainAttrs_list PySem.F.slot_list_append PySem.F.type_list_append mt_append (pe_ix (k_ixL K) (pv 0) (pe_int) (fun _ _ => rfl)) (pa_cons (pe_op op_fdivW (pv 3) (pv 1)) pa_nil))) (pss_nil)) (pss_nil)) (pss_cons (ps_ret (pe_op op_mod (pv 3) (pv 1))) (pss_nil)))) (pss_nil)) (pss_cons (ps_asg (pe_op op_add (pe_ix (k_ixL K) (pv 0) (pe_int) (fun _ _ => rfl)) (pe_int)) (pg_sub (pv 0) pe_int set_list)) (pss_cons (ps_set (i := 2) sc.nd rfl (by first | exact Or.inl rfl | exact Or.inr rfl) (pe_op op_mod (pe_op op_add (pe_ix (k_ixL K) (pv 0) (pe_int) (fun _ _ => rfl)) (pe_op op_mulX (pe_ix (k_ixL K) (pv 0) (pe_int) (fun _ _ => rfl)) (pe_int))) (pe_int))) (pss_cons (ps_set (i := 2) sc.nd rfl (by first | exact Or.inl rfl | exact Or.inr rfl) (pe_op op_mod (pe_op op_add (pe_op op_add (pe_op op_mulX (pv 2) (pv 2)) (pe_op op_mulX (pe_ix (k_ixL K) (pv 0) (pe_int) (fun _ _ => rfl)) (pe_int))) (pe_int)) (pe_int))) (pss_cons (ps_set (i := 2) sc.nd rfl (by first | exact Or.inl rfl | exact Or.inr rfl) (pe_op op_mod (pe_op op_add (pe_op op_mulX (pv 2) (pv 2)) (pe_ix (k_ixL K) (pv 0) (pe_int) (fun _ _ => rfl))) (pe_int))) (pss_cons (ps_ret (pe_op op_mod (pe_op op_fdivW (pv 2) (pe_int)) (pv 1))) (pss_nil))))))), ?_⟩
    refine q_if w0 p0 (t_Test (e_lt (e_var (R := rI) rfl rfl) e_cI)) hm0 ?_ ?_
    · intro S1 H2 s3 w4 p5 g6 hm7
      refine q_ret w4 p5 e_cI hm7 ?_
      intro r15 v16 S8 H9 s10 w11 p12 g14 rr17 hm13
      cases run_of_pure hm13
      exact fin _ ⟨S8, w11.g, p12, rr17⟩
    · intro S18 H19 s20 w21 p22 g23 hm24
      refine nx_done ?_
      refine q_if w21 p22 (t_Test (e_neG (dL_G rfl))) hm24 ?_ ?_
      · intro S27 H28 s29 w30 p31 g32 hm33
        refine q_set (fun v => [some (.ref i.a), some (.int p_many), none, some v]) (fun _ => rfl) w30 p31 (e_popL (dL_G rfl)) hm33 ?_
        intro cell36 vcell44 S37 H38 s39 w40 p41 g43 rcell45 hm42
        cases (show vcell44 = .int cell36 from rcell45)
        refine q_ifj (p := (potPt i)) (fun st46 σ S' H' s' => σ = [some (.ref i.a), some (.int p_many), none, some (.int cell36)] ∧ Wd (potPt i) S0 H0 S' H' [] ∧ PotAt (potPt i) s' S' H' ∧ Ex S37 S') w40 p41 (t_Test (e_ge (e_var (R := rI) rfl rfl) (e_var (R := rI) rfl rfl))) hm42 ?_ ?_ ?_
        · intro S47 H48 s49 st46_ s2_ D_ w50 p51 g52 hm53 nx54
          have eb55 := g52.s
          refine q_dropE w50 p51 (e_appG (dL_G rfl) (e_fdiv (e_var (R := rI) rfl rfl) (e_var (R := rI) rfl rfl))) hm53 ?_
          intro x65 S58 H59 s60 w61 p62 g64 hm63
          have eb55 := eb55.tr g64.s
          cases run_of_pure hm63
          exact nx54 _ _ _ ⟨rfl, w61, p62, eb55⟩
        · intro S66 H67 s68 st46_ s2_ D_ w69 p70 g71 hm72 nx73
          have eb74 := g71.s
          cases run_of_pure hm72
          exact nx73 _ _ _ ⟨rfl, w69, p70, eb74⟩
        · rintro st46 _ S78 H79 s80 ⟨rfl, w75, p76, eb77⟩ hm81
          refine q_ret w75 p76 (e_mod (e_var (R := rI) rfl rfl) (e_var (R := rI) rfl rfl)) hm81 ?_
          intro r89 v90 S82 H83 s84 w85 p86 g88 rr91 hm87
          cases run_of_pure hm87
          exact fin _ ⟨S82, w85.g, p86, rr91⟩
      · intro S92 H93 s94 w95 p96 g97 hm98
        refine nx_done ?_
        refine qL_T w95 p96 rfl (e_add (dL_T rfl) e_cI) hm98 ?_
        intro S100 H101 s102 w103 p104 g106 hm105
        refine q_set (fun v => [some (.ref i.a), some (.int p_many), some v, none]) (fun _ => rfl) w103 p104 (e_mod (e_add (dL_S rfl) (e_mul (dL_T rfl) e_cI)) e_cI) hm105 ?_
        intro number109 vnumber117 S110 H111 s112 w113 p114 g116 rnumber118 hm115
        cases (show vnumber117 = .int number109 from rnumber118)
        refine q_set (fun v => [some (.ref i.a), some (.int p_many), some v, none]) (fun _ => rfl) w113 p114 (e_mod (e_add (e_add (e_mul (e_var (R := rI) rfl rfl) (e_var (R := rI) rfl rfl)) (e_mul (dL_T rfl) e_cI)) e_cI) e_cI) hm115 ?_
        intro number120 vnumber128 S121 H122 s123 w124 p125 g127 rnumber129 hm126
        cases (show vnumber128 = .int number120 from rnumber129)
        refine q_set (fun v => [some (.ref i.a), some (.int p_many), some v, none]) (fun _ => rfl) w124 p125 (e_mod (e_add (e_mul (e_var (R := rI) rfl rfl) (e_var (R := rI) rfl rfl)) (dL_S rfl)) e_cI) hm126 ?_
        intro number131 vnumber139 S132 H133 s134 w135 p136 g138 rnumber140 hm137
        cases (show vnumber139 = .int number131 from rnumber140)
        refine q_ret w135 p136 (e_mod (e_fdiv (e_var (R := rI) rfl rfl) e_cI) (e_var (R := rI) rfl rfl)) hm137 ?_
        intro r148 v149 S141 H142 s143 w144 p145 g147 rr150 hm146
        cases run_of_pure hm146
        exact fin _ ⟨S141, w144.g, p145, rr150⟩
end
abbrev t__law_one : Stmt := top 33
theorem sc__law_one : FnScope ["pot", "items"] ["pot", "items"] (defScope t__law_one) := ⟨rfl, rfl, rfl, by decide +kernel, rfl, by decide +kernel, by decide +kernel⟩
@[irreducible] noncomputable def m__law_one (p_items : (List Int)) : PM PotT Int :=
m__law_of (List.length p_items : Int) >>= fun r12 => Mir.lft (L2.atI p_items r12) >>= fun y11 => bnd y11 fun r8 => pure r8
noncomputable abbrev fm__law_one : (Unit × (List Int)) → PM PotT Int := fun (_, a1) => m__law_one a1
abbrev sp__law_one (K : PySem.W.Frag) : Sp := spV (fun i => potPt i) fm__law_one (fun i => (aCons (rP i) (aOne (rL (aAll rI))))) rI
section
variable {P : Program} {w : World} {K : PySem.W.Frag} {mg : Str → Option Value} {base : Heap}
theorem g__law_one (T : Tx mg base) (D0 : Dk P w K mg base "_law_of" "_law_of" t__law_of 1 ["pot", "many"] (sp__law_of K)) {f : Addr} {fd : FuncData} (F : Fun K "_law_one" "_law_one" t__law_one f fd) : FnG P w K mg base CX0 2 f fd ["pot", "items"] (sp__law_one K) := by
  obtain ⟨f0, fd0, F0, m0, G0, b0⟩ := D0
  refine okG0 F sc__law_one (fun vs H Q E h => ?_) (fun cdv A outer s0_ H0 vs Q E hr gd h => ?_)
  · obtain ⟨_, _, _, _, _, _, _, _, ⟨_, _, rfl, _, ⟨_, rfl, _⟩⟩, _⟩ := h
    rfl
  · obtain ⟨i, a, S0, s0, r, s', e0, p0, ⟨_, _, rfl, rfl, ⟨v_items, rfl, r_items⟩⟩, hm0, fin0⟩ := h
    obtain ⟨_, p_items⟩ := a
    have fin : ∀ v {H' : Hp}, (∃ S', Gm ((potPt i)).M S0 H0 S' H' ∧ PotAt (potPt i) s' S' H' ∧ rI r v S') → Q v H' := fun v {H'} ⟨S', h1, h2, h3⟩ => fin0 v S' H' h1 h2 h3
    have w0 : Wd (potPt i) S0 H0 S0 H0 [] := Wd.start e0
    have hm0 : Mir.run (m__law_one p_items) s0 = some (r, s') := hm0
    unfold m__law_one at hm0
    have sc := sc__law_one
    refine ⟨_, pss_cons (ps_ret (pe_ix (k_ixL K) (pv 1) (pe_cG G0 (hr.mono (by decide)) gd rfl m0 F0.kp b0 pass0 (pa_cons (pv 0) (pa_cons (pe_callB (k_len K) (by rfl) T.n_len (by decide +kernel) (pa_cons (pv 1) pa_nil)) (pa_nil)))) (fun _ _ => rfl))) (pss_nil), ?_⟩
    refine q_ret w0 p0 (e_ixL (Ev.rd (e_var rfl r_items)) (Ev.eta (e_callP (F := fun i => potPt i) (i := i) (A := fun i => (aCons (rP i) (aOne rI))) (E := E0) (fm := fm__law_of) (R := rI) (a_cons (e_var (R := rP i) (a := ()) rfl rfl) (a_one (c_lenL (Ev.rd (e_var rfl r_items)))))))) hm0 ?_
    intro r8 v9 S1 H2 s3 w4 p5 g7 rr10 hm6
    cases run_of_pure hm6
    exact fin _ ⟨S1, w4.g, p5, rr10⟩
end
abbrev t__law_are_struck_right : Stmt := top 34
theorem sc__law_are_struck_right : FnScope ["pot", "x", "parts", "primes", "k", "first", "p", "great", "due", "low", "at", "chain", "left", "some", "signs", "found", "size", "rest", "n", "i", "v", "d", "sign"] ["pot", "x", "parts", "primes"] (defScope t__law_are_struck_right) := ⟨rfl, rfl, rfl, by decide +kernel, rfl, by decide +kernel, by decide +kernel⟩
@[irreducible] noncomputable def m__law_are_struck_right (p_x : Int) (p_parts : (List Int)) (p_primes : (List Int)) : PM PotT Bool :=
m__law_of (7 : Int) >>= fun r1095 => bnd r1095 fun k1 =>
Mir.lft (grd (List.length ([(2 : Int), (3 : Int), (5 : Int), (7 : Int), (11 : Int), (13 : Int), (17 : Int), (19 : Int), (23 : Int), (29 : Int)] : List Int) ≤ 16000000)) >>= fun _ => bnd (cut ([(2 : Int), (3 : Int), (5 : Int), (7 : Int), (11 : Int), (13 : Int), (17 : Int), (19 : Int), (23 : Int), (29 : Int)] : List Int) none (some k1)) fun first11 =>
Mir.lft (m_first_primes k1) >>= fun r1094 => if (!decide (r1094 = first11)) = true then
(bnd false fun r35 => pure r35)
else
(if (decide (p_x < (301 : Int))) = true then
(Mir.lft (grd (RgB (1 : Int) ∧ RgB (p_x + (1 : Int)))) >>= fun _ => Mir.lft (grd (List.length (rng (1 : Int) (p_x + (1 : Int))) ≤ 16000000)) >>= fun _ => cmp (rng (1 : Int) (p_x + (1 : Int))) (fun x52 => Mir.lft (grd (List.length first11 ≤ 16000000)) >>= fun _ => cmp first11 (fun x55 => Mir.lft (grd (0 < x55)) >>= fun _ => if (decide ((x52 % x55) = (0 : Int))) = true then pure (some x55) else pure none) >>= fun l58 => Mir.lft (grd (List.length ([] : List Int) ≤ 16000000)) >>= fun _ => if (decide (l58 = ([] : List Int))) = true then pure (some x52) else pure none) >>= fun l621 => bnd l621 fun left60 =>
Mir.lft (m_left_number p_x k1) >>= fun r618 => Mir.lft (m_left_number p_x k1) >>= fun r619 => Mir.lft (grd (List.length ([r618, r619] : List Int) ≤ 16000000)) >>= fun _ => bnd (PyData.list (List.map PyData.int ([r618, r619] : List Int))) fun d617 => Mir.lft (grd (OkD d617)) >>= fun _ => Mir.lft (grd (List.length ([(List.length left60 : Int)] : List Int) ≤ 16000000)) >>= fun _ => Mir.lft (grd (RpB (List.length ([(List.length left60 : Int)] : List Int)) (2 : Int))) >>= fun _ => bnd (PyData.list (List.map PyData.int (List.replicate (Int.toNat (2 : Int)) ([(List.length left60 : Int)] : List Int)).flatten)) fun d620 => Mir.lft (grd (OkD d620)) >>= fun _ => Mir.lft (grP (d617 = d620)) >>= fun _ => if false = true then
(bnd false fun r84 => pure r84)
else
(Mir.lft (grd (RgB (2 : Int) ∧ RgB (p_x + (1 : Int)))) >>= fun _ => Mir.lft (grd (List.length (rng (2 : Int) (p_x + (1 : Int))) ≤ 16000000)) >>= fun _ => bnd (List.map (fun x94 => x94) (List.filter (fun x94 => ((List.contains left60 x94) || (List.contains first11 x94))) (rng (2 : Int) (p_x + (1 : Int))))) fun some97 =>
Mir.lft (grd (List.length p_parts ≤ 16000000)) >>= fun _ => cmp p_parts (fun x107 => Mir.lft (grd (List.length some97 ≤ 16000000)) >>= fun _ => pure (some (List.length (List.map (fun x110 => x110) (List.filter (fun x110 => (decide (x110 ≤ x107))) some97)) : Int))) >>= fun l616 => bnd l616 fun due113 =>
Mir.lft (m_struck_row p_x k1) >>= fun r613 => Mir.lft (m_struck_row p_x k1) >>= fun r614 => Mir.lft (grd (List.length ([r613, r614] : List (List Int)) ≤ 16000000)) >>= fun _ => bnd (PyData.list (List.map (fun a => (PyData.tuple (List.map PyData.int a))) ([r613, r614] : List (List Int)))) fun d612 => Mir.lft (grd (OkD d612)) >>= fun _ => Mir.lft (grd (List.length ([due113, due113] : List (List Int)) ≤ 16000000)) >>= fun _ => bnd (PyData.list (List.map (fun a => (PyData.tuple (List.map PyData.int a))) ([due113, due113] : List (List Int)))) fun d615 => Mir.lft (grd (OkD d615)) >>= fun _ => Mir.lft (grP (d612 = d615)) >>= fun _ => if false = true then
(bnd false fun r137 => pure r137)
else
(Mir.lft (m_struck_signs k1) >>= fun r611 => bnd r611 fun signs147 =>
Mir.lft (grd (List.length ([((1 : Int), (1 : Int))] : List (Int × Int)) ≤ 16000000)) >>= fun _ => bnd ([((1 : Int), (1 : Int))] : List (Int × Int)) fun found157 =>
(lpS first11 (fun (x169 : Int) (st167 : (List (Int × Int))) =>
Mir.lft (grd (List.length st167 ≤ 16000000)) >>= fun _ => cmp st167 (fun x217 => Mir.lft (grd (Sm x169 ∧ Sm x217.1)) >>= fun _ => pure (some ((x169 * x217.1), (-x217.2)))) >>= fun l230 => Mir.lft (grd (List.length st167 + List.length l230 ≤ 16000000)) >>= fun _ => bnd (st167 ++ l230) fun found220 =>
pure found220) found157) >>= fun (st167 : (List (Int × Int))) =>
if (!decide (signs147 = (srt2 st167))) = true then
(bnd false fun r255 => pure r255)
else
(Mir.lft (grd (Pw (10 : Int) (9 : Int))) >>= fun _ => m__law_of ((10 : Int) ^ Int.toNat (9 : Int)) >>= fun r609 => Mir.lft (grd (Pw (10 : Int) (12 : Int))) >>= fun _ => Mir.lft (grd (Pw (10 : Int) (21 : Int))) >>= fun _ => Mir.lft (grd (List.length ([(1 : Int), ((10 : Int) ^ Int.toNat (12 : Int)), ((10 : Int) ^ Int.toNat (21 : Int))] : List Int) ≤ 16000000)) >>= fun _ => m__law_one ([(1 : Int), ((10 : Int) ^ Int.toNat (12 : Int)), ((10 : Int) ^ Int.toNat (21 : Int))] : List Int) >>= fun r610 => Mir.lft (grd (Sm r609 ∧ Sm r610)) >>= fun _ => bnd (r609 * r610) fun great265 =>
Mir.lft (grd (List.length st167 ≤ 16000000)) >>= fun _ => cmp st167 (fun x275 => Mir.lft (grd (Dv x275.1)) >>= fun _ => Mir.lft (grd (Sm x275.2 ∧ Sm (great265 / x275.1))) >>= fun _ => pure (some (x275.2 * (great265 / x275.1)))) >>= fun l608 => bnd (List.sum l608) fun due278 =>
Mir.lft (m_left_number great265 k1) >>= fun r605 => Mir.lft (m_left_number great265 k1) >>= fun r606 => Mir.lft (grd (List.length ([r605, r606] : List Int) ≤ 16000000)) >>= fun _ => bnd (PyData.list (List.map PyData.int ([r605, r606] : List Int))) fun d604 => Mir.lft (grd (OkD d604)) >>= fun _ => Mir.lft (grd (List.length ([due278, due278] : List Int) ≤ 16000000)) >>= fun _ => bnd (PyData.list (List.map PyData.int ([due278, due278] : List Int))) fun d607 => Mir.lft (grd (OkD d607)) >>= fun _ => Mir.lft (grP (d604 = d607)) >>= fun _ => if false = true then
(bnd false fun r302 => pure r302)
else
(bnd (1 : Int) fun size312 =>
bnd (1 : Int) fun rest322 =>
(lpS first11 (fun (x339 : Int) (st337 : Int × Int) =>
Mir.lft (grd (Sm st337.1 ∧ Sm x339)) >>= fun _ => bnd (st337.1 * x339) fun size378 =>
Mir.lft (grd (Sm st337.2 ∧ Sm (x339 - (1 : Int)))) >>= fun _ => bnd (st337.2 * (x339 - (1 : Int))) fun rest388 =>
pure (size378, rest388)) (size312, rest322)) >>= fun (st337 : Int × Int) =>
Mir.lft (m_left_in_round k1) >>= fun r601 => (if (!decide (r601 = st337.2)) = true then pure true else Mir.lft (grd (Pw (10 : Int) (30 : Int))) >>= fun _ => (if (decide ((great265 + st337.1) ≤ ((10 : Int) ^ Int.toNat (30 : Int)))) = true then Mir.lft (m_left_number (great265 + st337.1) k1) >>= fun r603 => pure (!decide (r603 = (due278 + st337.2))) else pure false) >>= fun b602 => pure b602) >>= fun b600 => if b600 = true then
(bnd false fun r420 => pure r420)
else
((if (decide ((0 : Int) < k1)) = true then Mir.lft (m_left_number great265 (k1 - (1 : Int))) >>= fun r597 => Mir.lft (L2.atI first11 (-(1 : Int))) >>= fun y599 => Mir.lft (grd (Dv y599)) >>= fun _ => Mir.lft (m_left_number (great265 / y599) (k1 - (1 : Int))) >>= fun r598 => pure (!decide ((r597 - r598) = due278)) else pure false) >>= fun b596 => if b596 = true then
(bnd false fun r444 => pure r444)
else
(m__law_of p_x >>= fun r595 => bnd ((1 : Int) + r595) fun low454 =>
Mir.lft (m_primes_between low454 (if (decide (low454 ≤ p_x)) = true then p_x else low454)) >>= fun r594 => Mir.lft (grd (List.length p_primes ≤ 16000000)) >>= fun _ => if (!decide (r594 = (List.map (fun x464 => x464) (List.filter (fun x464 => (decide (low454 ≤ x464))) p_primes)))) = true then
(bnd false fun r481 => pure r481)
else
(m__law_of (if (List.length p_primes : Int) > (1 : Int) then (List.length p_primes : Int) else (1 : Int)) >>= fun r593 => bnd r593 fun at491 =>
Mir.lft (grd (List.length ([] : List Int) ≤ 16000000)) >>= fun _ => (if (!decide (p_primes = ([] : List Int))) = true then Mir.lft (m_prime_at at491) >>= fun r589 => Mir.lft (m_prime_at at491) >>= fun r590 => Mir.lft (grd (List.length ([r589, r590] : List Int) ≤ 16000000)) >>= fun _ => bnd (PyData.list (List.map PyData.int ([r589, r590] : List Int))) fun d588 => Mir.lft (grd (OkD d588)) >>= fun _ => Mir.lft (L2.atI p_primes at491) >>= fun y592 => Mir.lft (grd (List.length ([y592] : List Int) ≤ 16000000)) >>= fun _ => Mir.lft (grd (RpB (List.length ([y592] : List Int)) (2 : Int))) >>= fun _ => bnd (PyData.list (List.map PyData.int (List.replicate (Int.toNat (2 : Int)) ([y592] : List Int)).flatten)) fun d591 => Mir.lft (grd (OkD d591)) >>= fun _ => Mir.lft (grP (d588 = d591)) >>= fun _ => pure false else pure false) >>= fun b587 => if b587 = true then
(bnd false fun r515 => pure r515)
else
(Mir.lft (m_doubling_chain p_x) >>= fun r586 => bnd r586 fun chain525 =>
Mir.lft (m_doubling_error p_x chain525) >>= fun r582 => (if (!Option.isNone r582) = true then pure true else Mir.lft (L2.atI chain525 (0 : Int)) >>= fun y584 => (if (!decide (y584 = (2 : Int))) = true then pure true else Mir.lft (L2.atI chain525 (-(1 : Int))) >>= fun y585 => pure (decide (y585 ≤ p_x))) >>= fun b583 => pure b583) >>= fun b581 => if b581 = true then
(bnd false fun r549 => pure r549)
else
(Mir.lft (grd (RgB (1 : Int) ∧ RgB (List.length chain525 : Int))) >>= fun _ => Mir.lft (grd (List.length (rng (1 : Int) (List.length chain525 : Int)) ≤ 16000000)) >>= fun _ => cmp (rng (1 : Int) (List.length chain525 : Int)) (fun x559 => Mir.lft (L2.atI chain525 (x559 - (1 : Int))) >>= fun y563 => Mir.lft (L2.atI chain525 x559) >>= fun y564 => (if (decide (y563 < y564)) = true then Mir.lft (L2.atI chain525 (x559 - (1 : Int))) >>= fun y565 => Mir.lft (grd (Sm (2 : Int) ∧ Sm y565)) >>= fun _ => pure (decide (y564 < ((2 : Int) * y565))) else pure false) >>= fun b562 => if (!b562) = true then pure (some x559) else pure none) >>= fun l580 => Mir.lft (grd (List.length ([] : List Int) ≤ 16000000)) >>= fun _ => bnd (decide (l580 = ([] : List Int))) fun r577 => pure r577))))))))))
else
(Mir.lft (m_struck_signs k1) >>= fun r1093 => bnd r1093 fun signs629 =>
Mir.lft (grd (List.length ([((1 : Int), (1 : Int))] : List (Int × Int)) ≤ 16000000)) >>= fun _ => bnd ([((1 : Int), (1 : Int))] : List (Int × Int)) fun found639 =>
(lpS first11 (fun (x651 : Int) (st649 : (List (Int × Int))) =>
Mir.lft (grd (List.length st649 ≤ 16000000)) >>= fun _ => cmp st649 (fun x699 => Mir.lft (grd (Sm x651 ∧ Sm x699.1)) >>= fun _ => pure (some ((x651 * x699.1), (-x699.2)))) >>= fun l712 => Mir.lft (grd (List.length st649 + List.length l712 ≤ 16000000)) >>= fun _ => bnd (st649 ++ l712) fun found702 =>
pure found702) found639) >>= fun (st649 : (List (Int × Int))) =>
if (!decide (signs629 = (srt2 st649))) = true then
(bnd false fun r737 => pure r737)
else
(Mir.lft (grd (Pw (10 : Int) (9 : Int))) >>= fun _ => m__law_of ((10 : Int) ^ Int.toNat (9 : Int)) >>= fun r1091 => Mir.lft (grd (Pw (10 : Int) (12 : Int))) >>= fun _ => Mir.lft (grd (Pw (10 : Int) (21 : Int))) >>= fun _ => Mir.lft (grd (List.length ([(1 : Int), ((10 : Int) ^ Int.toNat (12 : Int)), ((10 : Int) ^ Int.toNat (21 : Int))] : List Int) ≤ 16000000)) >>= fun _ => m__law_one ([(1 : Int), ((10 : Int) ^ Int.toNat (12 : Int)), ((10 : Int) ^ Int.toNat (21 : Int))] : List Int) >>= fun r1092 => Mir.lft (grd (Sm r1091 ∧ Sm r1092)) >>= fun _ => bnd (r1091 * r1092) fun great747 =>
Mir.lft (grd (List.length st649 ≤ 16000000)) >>= fun _ => cmp st649 (fun x757 => Mir.lft (grd (Dv x757.1)) >>= fun _ => Mir.lft (grd (Sm x757.2 ∧ Sm (great747 / x757.1))) >>= fun _ => pure (some (x757.2 * (great747 / x757.1)))) >>= fun l1090 => bnd (List.sum l1090) fun due760 =>
Mir.lft (m_left_number great747 k1) >>= fun r1087 => Mir.lft (m_left_number great747 k1) >>= fun r1088 => Mir.lft (grd (List.length ([r1087, r1088] : List Int) ≤ 16000000)) >>= fun _ => bnd (PyData.list (List.map PyData.int ([r1087, r1088] : List Int))) fun d1086 => Mir.lft (grd (OkD d1086)) >>= fun _ => Mir.lft (grd (List.length ([due760, due760] : List Int) ≤ 16000000)) >>= fun _ => bnd (PyData.list (List.map PyData.int ([due760, due760] : List Int))) fun d1089 => Mir.lft (grd (OkD d1089)) >>= fun _ => Mir.lft (grP (d1086 = d1089)) >>= fun _ => if false = true then
(bnd false fun r784 => pure r784)
else
(bnd (1 : Int) fun size794 =>
bnd (1 : Int) fun rest804 =>
(lpS first11 (fun (x821 : Int) (st819 : Int × Int) =>
Mir.lft (grd (Sm st819.1 ∧ Sm x821)) >>= fun _ => bnd (st819.1 * x821) fun size860 =>
Mir.lft (grd (Sm st819.2 ∧ Sm (x821 - (1 : Int)))) >>= fun _ => bnd (st819.2 * (x821 - (1 : Int))) fun rest870 =>
pure (size860, rest870)) (size794, rest804)) >>= fun (st819 : Int × Int) =>
Mir.lft (m_left_in_round k1) >>= fun r1083 => (if (!decide (r1083 = st819.2)) = true then pure true else Mir.lft (grd (Pw (10 : Int) (30 : Int))) >>= fun _ => (if (decide ((great747 + st819.1) ≤ ((10 : Int) ^ Int.toNat (30 : Int)))) = true then Mir.lft (m_left_number (great747 + st819.1) k1) >>= fun r1085 => pure (!decide (r1085 = (due760 + st819.2))) else pure false) >>= fun b1084 => pure b1084) >>= fun b1082 => if b1082 = true then
(bnd false fun r902 => pure r902)
else
((if (decide ((0 : Int) < k1)) = true then Mir.lft (m_left_number great747 (k1 - (1 : Int))) >>= fun r1079 => Mir.lft (L2.atI first11 (-(1 : Int))) >>= fun y1081 => Mir.lft (grd (Dv y1081)) >>= fun _ => Mir.lft (m_left_number (great747 / y1081) (k1 - (1 : Int))) >>= fun r1080 => pure (!decide ((r1079 - r1080) = due760)) else pure false) >>= fun b1078 => if b1078 = true then
(bnd false fun r926 => pure r926)
else
(m__law_of p_x >>= fun r1077 => bnd ((1 : Int) + r1077) fun low936 =>
Mir.lft (m_primes_between low936 (if (decide (low936 ≤ p_x)) = true then p_x else low936)) >>= fun r1076 => Mir.lft (grd (List.length p_primes ≤ 16000000)) >>= fun _ => if (!decide (r1076 = (List.map (fun x946 => x946) (List.filter (fun x946 => (decide (low936 ≤ x946))) p_primes)))) = true then
(bnd false fun r963 => pure r963)
else
(m__law_of (if (List.length p_primes : Int) > (1 : Int) then (List.length p_primes : Int) else (1 : Int)) >>= fun r1075 => bnd r1075 fun at973 =>
Mir.lft (grd (List.length ([] : List Int) ≤ 16000000)) >>= fun _ => (if (!decide (p_primes = ([] : List Int))) = true then Mir.lft (m_prime_at at973) >>= fun r1071 => Mir.lft (m_prime_at at973) >>= fun r1072 => Mir.lft (grd (List.length ([r1071, r1072] : List Int) ≤ 16000000)) >>= fun _ => bnd (PyData.list (List.map PyData.int ([r1071, r1072] : List Int))) fun d1070 => Mir.lft (grd (OkD d1070)) >>= fun _ => Mir.lft (L2.atI p_primes at973) >>= fun y1074 => Mir.lft (grd (List.length ([y1074] : List Int) ≤ 16000000)) >>= fun _ => Mir.lft (grd (RpB (List.length ([y1074] : List Int)) (2 : Int))) >>= fun _ => bnd (PyData.list (List.map PyData.int (List.replicate (Int.toNat (2 : Int)) ([y1074] : List Int)).flatten)) fun d1073 => Mir.lft (grd (OkD d1073)) >>= fun _ => Mir.lft (grP (d1070 = d1073)) >>= fun _ => pure false else pure false) >>= fun b1069 => if b1069 = true then
(bnd false fun r997 => pure r997)
else
(Mir.lft (m_doubling_chain p_x) >>= fun r1068 => bnd r1068 fun chain1007 =>
Mir.lft (m_doubling_error p_x chain1007) >>= fun r1064 => (if (!Option.isNone r1064) = true then pure true else Mir.lft (L2.atI chain1007 (0 : Int)) >>= fun y1066 => (if (!decide (y1066 = (2 : Int))) = true then pure true else Mir.lft (L2.atI chain1007 (-(1 : Int))) >>= fun y1067 => pure (decide (y1067 ≤ p_x))) >>= fun b1065 => pure b1065) >>= fun b1063 => if b1063 = true then
(bnd false fun r1031 => pure r1031)
else
(Mir.lft (grd (RgB (1 : Int) ∧ RgB (List.length chain1007 : Int))) >>= fun _ => Mir.lft (grd (List.length (rng (1 : Int) (List.length chain1007 : Int)) ≤ 16000000)) >>= fun _ => cmp (rng (1 : Int) (List.length chain1007 : Int)) (fun x1041 => Mir.lft (L2.atI chain1007 (x1041 - (1 : Int))) >>= fun y1045 => Mir.lft (L2.atI chain1007 x1041) >>= fun y1046 => (if (decide (y1045 < y1046)) = true then Mir.lft (L2.atI chain1007 (x1041 - (1 : Int))) >>= fun y1047 => Mir.lft (grd (Sm (2 : Int) ∧ Sm y1047)) >>= fun _ => pure (decide (y1046 < ((2 : Int) * y1047))) else pure false) >>= fun b1044 => if (!b1044) = true then pure (some x1041) else pure none) >>= fun l1062 => Mir.lft (grd (List.length ([] : List Int) ≤ 16000000)) >>= fun _ => bnd (decide (l1062 = ([] : List Int))) fun r1059 => pure r1059)))))))))
noncomputable abbrev fm__law_are_struck_right : (Unit × Int × (List Int) × (List Int)) → PM PotT Bool := fun (_, a1, a2, a3) => m__law_are_struck_right a1 a2 a3
abbrev sp__law_are_struck_right (K : PySem.W.Frag) : Sp := spV (fun i => potPt i) fm__law_are_struck_right (fun i => (aCons (rP i) (aCons rI (aCons (rL (aAll rI)) (aOne (rL (aAll rI))))))) rB
section
variable {P : Program} {w : World} {K : PySem.W.Frag} {mg : Str → Option Value} {base : Heap}
theorem g__law_are_struck_right (T : Tx mg base) (D0 : Dk P w K mg base "_law_of" "_law_of" t__law_of 1 ["pot", "many"] (sp__law_of K)) (D1 : Dk P w K mg base "first_primes" "first_primes" t_first_primes 1 ["k"] (sp_first_primes K)) (D2 : Dk P w K mg base "left_number" "left_number" t_left_number 3 ["x", "k"] (sp_left_number K)) (D3 : Dk P w K mg base "struck_row" "struck_row" t_struck_row 2 ["x", "k"] (sp_struck_row K)) (D4 : Dk P w K mg base "struck_signs" "struck_signs" t_struck_signs 2 ["k"] (sp_struck_signs K)) (D5 : Dk P w K mg base "_law_one" "_law_one" t__law_one 2 ["pot", "items"] (sp__law_one K)) (D6 : Dk P w K mg base "left_in_round" "left_in_round" t_left_in_round 2 ["k"] (sp_left_in_round K)) (D7 : Dk P w K mg base "primes_between" "primes_between" t_primes_between 2 ["low", "high"] (sp_primes_between K)) (D8 : Dk P w K mg base "prime_at" "prime_at" t_prime_at 1 ["k"] (sp_prime_at K)) (D9 : Dk P w K mg base "doubling_chain" "doubling_chain" t_doubling_chain 4 ["x"] (sp_doubling_chain K)) (D10 : Dk P w K mg base "doubling_error" "doubling_error" t_doubling_error 4 ["x", "value"] (sp_doubling_error K)) {f : Addr} {fd : FuncData} (F : Fun K "_law_are_struck_right" "_law_are_struck_right" t__law_are_struck_right f fd) : FnG P w K mg base CX0 5 f fd ["pot", "x", "parts", "primes"] (sp__law_are_struck_right K) := by
  obtain ⟨f0, fd0, F0, m0, G0, b0⟩ := D0
  obtain ⟨f1, fd1, F1, m1, G1, b1⟩ := D1
  obtain ⟨f2, fd2, F2, m2, G2, b2⟩ := D2
  obtain ⟨f3, fd3, F3, m3, G3, b3⟩ := D3
  obtain ⟨f4, fd4, F4, m4, G4, b4⟩ := D4
  obtain ⟨f5, fd5, F5, m5, G5, b5⟩ := D5
  obtain ⟨f6, fd6, F6, m6, G6, b6⟩ := D6
  obtain ⟨f7, fd7, F7, m7, G7, b7⟩ := D7
  obtain ⟨f8, fd8, F8, m8, G8, b8⟩ := D8
  obtain ⟨f9, fd9, F9, m9, G9, b9⟩ := D9
  obtain ⟨f10, fd10, F10, m10, G10, b10⟩ := D10
  refine okG0 F sc__law_are_struck_right (fun vs H Q E h => ?_) (fun cdv A outer s0_ H0 vs Q E hr gd h => ?_)
  · obtain ⟨_, _, _, _, _, _, _, _, ⟨_, _, rfl, _, ⟨_, _, rfl, _, ⟨_, _, rfl, _, ⟨_, rfl, _⟩⟩⟩⟩, _⟩ := h
    rfl
  · obtain ⟨i, a, S0, s0, r, s', e0, p0, ⟨_, _, rfl, rfl, ⟨_, _, rfl, rfl, ⟨v_parts, _, rfl, r_parts, ⟨v_primes, rfl, r_primes⟩⟩⟩⟩, hm0, fin0⟩ := h
    obtain ⟨_, p_x, p_parts, p_primes⟩ := a
    have fin : ∀ v {H' : Hp}, (∃ S', Gm ((potPt i)).M S0 H0 S' H' ∧ PotAt (potPt i) s' S' H' ∧ rB r v S') → Q v H' := fun v {H'} ⟨S', h1, h2, h3⟩ => fin0 v S' H' h1 h2 h3
    have w0 : Wd (potPt i) S0 H0 S0 H0 [] := Wd.start e0
    have hm0 : Mir.run (m__law_are_struck_right p_x p_parts p_primes) s0 = some (r, s') := hm0
    unfold m__law_are_struck_right at hm0
    have sc := sc__law_are_struck_right
    refine ⟨_, pss_cons (ps_set (i := 4) sc.nd rfl (by first | exact Or.inl rfl | exact Or.inr rfl) (pe_cG G0 (hr.mono (by decide)) gd rfl m0 F0.kp b0 pass0 (pa_cons (pv 0) (pa_cons (pe_int) (pa_nil))))) (pss_cons (ps_set (i := 5) sc.nd rfl (by first | exact Or.inl rfl | exact Or.inr rfl) (pe_slice (k_sll K) (pe_lst (pa_cons (pe_int) (pa_cons (pe_int) (pa_cons (pe_int) (pa_cons (pe_int) (pa_cons (pe_int) (pa_cons (pe_int) (pa_cons (pe_int) (pa_cons (pe_int) (pa_cons (pe_int) (pa_cons (pe_int) (pa_nil)))))))))))) (po_none) (po_some (pv 4)))) (pss_cons (ps_if (pt_cmpR (k_neD K hr) (pe_cG G1 (hr.mono (by decide)) gd rfl m1 F1.kp b1 pass0 (pa_cons (pv 4) (pa_nil))) (pe_callTy (k_tupOf K) (by rfl) T.n_tuple (by decide +kernel) (pa_cons (pv 5) pa_nil)) (nomark _)) (pss_cons (ps_ret (pe_bl)) (pss_nil)) (pss_nil)) (pss_cons (ps_if (pt_cmpR op_lt (pv 1) (pe_int) (nomark _)) (pss_cons (ps_set (i := 12) sc.nd rfl (by first | exact Or.inl rfl | exact Or.inr rfl) (pe_lc (own := [("n", 18)]) (g := (gName 18)) rfl sc.nd (pi_range2 rfl T.n_range (pa_cons (pe_int) (pa_cons (pe_op op_add (pv 1) (pe_int)) pa_nil))) (blkOk_by (N := ["pot", "x", "parts", "primes", "k", "first", "p", "great", "due", "low", "at", "chain", "left", "some", "signs", "found", "size", "rest", "n", "i", "v", "d", "sign"]) (sc := defScope t__law_are_struck_right) (by decide +kernel)) (fun _ _ _ _ _ => pg_name (i := 18) sc.nd rfl (by first | exact Or.inl rfl | exact Or.inr rfl)) (fun _ _ _ _ _ => pts_one (pt_cmpR (k_eqD K hr) (pe_lc (own := [("p", 6)]) (g := (gName 6)) rfl sc.nd (k_pil K (pv 5)) (blkOk_by (N := ["pot", "x", "parts", "primes", "k", "first", "p", "great", "due", "low", "at", "chain", "left", "some", "signs", "found", "size", "rest", "n", "i", "v", "d", "sign"]) (sc := ⟨.function, [(".0", .local), ("n", .cell), ("first", .cell)], false, false, []⟩) (by decide +kernel)) (fun _ _ _ _ _ => pg_name (i := 6) sc.nd rfl (by first | exact Or.inl rfl | exact Or.inr rfl)) (fun _ _ _ _ _ => pts_one (pt_cmpR op_eq (pe_op op_mod (pv 18) (pv 6)) (pe_int) (nomark _))) (fun _ _ _ _ _ => pv 6)) (pe_lst (pa_nil)) (nomark _))) (fun _ _ _ _ _ => pv 18))) (pss_cons (ps_if (pt_cmpR op_ne (pe_callB (k_repr K hr gd T.nd) (by rfl) T.n_repr (by decide +kernel) (pa_cons (pe_lst (pa_cons (pe_cG G2 (hr.mono (by decide)) gd rfl m2 F2.kp b2 pass0 (pa_cons (pv 1) (pa_cons (pv 4) (pa_nil)))) (pa_cons (pe_cGK0 (ks := ["k", "x"]) (ix := [1, 0]) G2 (hr.mono (by decide)) gd rfl m2 F2.kp (Fun.kb F2 (ps := ["x", "k"]) (ks := ["k", "x"]) (n := 0) (ix := [1, 0]) fun _ _ _ _ _ _ us ws h1 h2 => match us, ws, h1, h2 with | [], [_, _], _, _ => rfl) pass0 (pk_cons (pv 4) (pk_cons (pv 1) (pk_nil)))) (pa_nil)))) pa_nil)) (pe_callB (k_repr K hr gd T.nd) (by rfl) T.n_repr (by decide +kernel) (pa_cons (pe_op op_rep (pe_lst (pa_cons (pe_callB (k_len K) (by rfl) T.n_len (by decide +kernel) (pa_cons (pv 12) pa_nil)) (pa_nil))) (pe_int)) pa_nil)) (nomark _)) (pss_cons (ps_ret (pe_bl)) (pss_nil)) (pss_nil)) (pss_cons (ps_set (i := 13) sc.nd rfl (by first | exact Or.inl rfl | exact Or.inr rfl) (pe_lc (own := [("n", 18)]) (g := (gName 18)) rfl sc.nd (pi_range2 rfl T.n_range (pa_cons (pe_int) (pa_cons (pe_op op_add (pv 1) (pe_int)) pa_nil))) (blkOk_by (N := ["pot", "x", "parts", "primes", "k", "first", "p", "great", "due", "low", "at", "chain", "left", "some", "signs", "found", "size", "rest", "n", "i", "v", "d", "sign"]) (sc := defScope t__law_are_struck_right) (by decide +kernel)) (fun _ _ _ _ _ => pg_name (i := 18) sc.nd rfl (by first | exact Or.inl rfl | exact Or.inr rfl)) (fun _ _ _ _ _ => pts_one (PW.pt (pw_or (pt_cmpR (k_in K) (pv 18) (pv 12) (by rfl)) (pw_or1 (pt_cmpR (k_in K) (pv 18) (pv 5) (by rfl)))))) (fun _ _ _ _ _ => pv 18))) (pss_cons (ps_set (i := 8) sc.nd rfl (by first | exact Or.inl rfl | exact Or.inr rfl) (pe_callTy (k_tupOf K) (by rfl) T.n_tuple (by decide +kernel) (pa_cons (pe_lc (own := [("v", 20)]) (g := (gName 20)) (tt := tYes) rfl sc.nd (k_pil K (pv 2)) (blkOk_by (N := ["pot", "x", "parts", "primes", "k", "first", "p", "great", "due", "low", "at", "chain", "left", "some", "signs", "found", "size", "rest", "n", "i", "v", "d", "sign"]) (sc := defScope t__law_are_struck_right) (by decide +kernel)) (fun _ _ _ _ _ => pg_name (i := 20) sc.nd rfl (by first | exact Or.inl rfl | exact Or.inr rfl)) (fun _ _ _ _ _ => pts_nil) (fun _ _ _ _ _ => pe_callB (k_len K) (by rfl) T.n_len (by decide +kernel) (pa_cons (pe_lc (own := [("n", 18)]) (g := (gName 18)) rfl sc.nd (k_pil K (pv 13)) (blkOk_by (N := ["pot", "x", "parts", "primes", "k", "first", "p", "great", "due", "low", "at", "chain", "left", "some", "signs", "found", "size", "rest", "n", "i", "v", "d", "sign"]) (sc := ⟨.function, [(".0", .local), ("v", .cell), ("len", .globalImplicit), ("some", .cell)], false, false, []⟩) (by decide +kernel)) (fun _ _ _ _ _ => pg_name (i := 18) sc.nd rfl (by first | exact Or.inl rfl | exact Or.inr rfl)) (fun _ _ _ _ _ => pts_one (pt_cmpR op_le (pv 18) (pv 20) (nomark _))) (fun _ _ _ _ _ => pv 18)) pa_nil))) pa_nil))) (pss_cons (ps_if (pt_cmpR op_ne (pe_callB (k_repr K hr gd T.nd) (by rfl) T.n_repr (by decide +kernel) (pa_cons (pe_lst (pa_cons (pe_cG G3 (hr.mono (by decide)) gd rfl m3 F3.kp b3 pass0 (pa_cons (pv 1) (pa_cons (pv 4) (pa_nil)))) (pa_cons (pe_cGK0 (ks := ["k", "x"]) (ix := [1, 0]) G3 (hr.mono (by decide)) gd rfl m3 F3.kp (Fun.kb F3 (ps := ["x", "k"]) (ks := ["k", "x"]) (n := 0) (ix := [1, 0]) fun _ _ _ _ _ _ us ws h1 h2 => match us, ws, h1, h2 with | [], [_, _], _, _ => rfl) pass0 (pk_cons (pv 4) (pk_cons (pv 1) (pk_nil)))) (pa_nil)))) pa_nil)) (pe_callB (k_repr K hr gd T.nd) (by rfl) T.n_repr (by decide +kernel) (pa_cons (pe_lst (pa_cons (pv 8) (pa_cons (pv 8) (pa_nil)))) pa_nil)) (nomark _)) (pss_cons (ps_ret (pe_bl)) (pss_nil)) (pss_nil)) (pss_nil)))))) (pss_nil)) (pss_cons (ps_par (i := 14) (j := 15) rfl sc.nd rfl rfl (by decide) rfl rfl (pa_cons (pe_cG G4 (hr.mono (by decide)) gd rfl m4 F4.kp b4 pass0 (pa_cons (pv 4) (pa_nil))) (pa_cons (pe_lst (pa_cons (pe_tup (pa_cons (pe_int) (pa_cons (pe_int) (pa_nil)))) (pa_nil))) (pa_nil))) (by rfl)) (pss_cons (ps_for PassesOwn.never rfl (k_pil K (pv 5)) (pg_name (i := 6) sc.nd rfl (by first | exact Or.inl rfl | exact Or.inr rfl)) (pss_cons (ps_set (i := 15) sc.nd rfl (by first | exact Or.inl rfl | exact Or.inr rfl) (pe_op op_cat (pv 15) (pe_lc (own := [("d", 21), ("sign", 22)]) (g := (gTup K 2 (gCons (gName 21) (gCons (gName 22) gNil)))) (tt := tYes) rfl sc.nd (k_pil K (pv 15)) (blkOk_by (N := ["pot", "x", "parts", "primes", "k", "first", "p", "great", "due", "low", "at", "chain", "left", "some", "signs", "found", "size", "rest", "n", "i", "v", "d", "sign"]) (sc := defScope t__law_are_struck_right) (by decide +kernel)) (fun _ _ _ _ _ => k_gt K (pgs_cons (pg_name (i := 21) sc.nd rfl (by first | exact Or.inl rfl | exact Or.inr rfl)) (pgs_cons (pg_name (i := 22) sc.nd rfl (by first | exact Or.inl rfl | exact Or.inr rfl)) (pgs_nil)))) (fun _ _ _ _ _ => pts_nil) (fun _ _ _ _ _ => pe_tup (pa_cons (pe_op op_mulX (pv 6) (pv 21)) (pa_cons (pe_un un_neg (pv 22)) (pa_nil))))))) (pss_nil))) (pss_cons (ps_if (pt_cmpR (k_neD K hr) (pv 14) (pe_callTy (k_tupOf K) (by rfl) T.n_tuple (by decide +kernel) (pa_cons (pe_callB (k_srtP K) (by rfl) T.n_sorted (by decide +kernel) (pa_cons (pv 15) pa_nil)) pa_nil)) (nomark _)) (pss_cons (ps_ret (pe_bl)) (pss_nil)) (pss_nil)) (pss_cons (ps_set (i := 7) sc.nd rfl (by first | exact Or.inl rfl | exact Or.inr rfl) (pe_op op_mulX (pe_cG G0 (hr.mono (by decide)) gd rfl m0 F0.kp b0 pass0 (pa_cons (pv 0) (pa_cons (pe_op op_pow (pe_int) (pe_int)) (pa_nil)))) (pe_cG G5 (hr.mono (by decide)) gd rfl m5 F5.kp b5 pass0 (pa_cons (pv 0) (pa_cons (pe_lst (pa_cons (pe_int) (pa_cons (pe_op op_pow (pe_int) (pe_int)) (pa_cons (pe_op op_pow (pe_int) (pe_int)) (pa_nil))))) (pa_nil)))))) (pss_cons (ps_set (i := 8) sc.nd rfl (by first | exact Or.inl rfl | exact Or.inr rfl) (pe_callB (k_sum K) (by rfl) T.n_sum (by decide +kernel) (pa_cons (pe_lc (own := [("d", 21), ("sign", 22)]) (g := (gTup K 2 (gCons (gName 21) (gCons (gName 22) gNil)))) (tt := tYes) rfl sc.nd (k_pil K (pv 15)) (blkOk_by (N := ["pot", "x", "parts", "primes", "k", "first", "p", "great", "due", "low", "at", "chain", "left", "some", "signs", "found", "size", "rest", "n", "i", "v", "d", "sign"]) (sc := defScope t__law_are_struck_right) (by decide +kernel)) (fun _ _ _ _ _ => k_gt K (pgs_cons (pg_name (i := 21) sc.nd rfl (by first | exact Or.inl rfl | exact Or.inr rfl)) (pgs_cons (pg_name (i := 22) sc.nd rfl (by first | exact Or.inl rfl | exact Or.inr rfl)) (pgs_nil)))) (fun _ _ _ _ _ => pts_nil) (fun _ _ _ _ _ => pe_op op_mulX (pv 22) (pe_op op_fdivW (pv 7) (pv 21)))) pa_nil))) (pss_cons (ps_if (pt_cmpR op_ne (pe_callB (k_repr K hr gd T.nd) (by rfl) T.n_repr (by decide +kernel) (pa_cons (pe_lst (pa_cons (pe_cG G2 (hr.mono (by decide)) gd rfl m2 F2.kp b2 pass0 (pa_cons (pv 7) (pa_cons (pv 4) (pa_nil)))) (pa_cons (pe_cGK0 (ks := ["k", "x"]) (ix := [1, 0]) G2 (hr.mono (by decide)) gd rfl m2 F2.kp (Fun.kb F2 (ps := ["x", "k"]) (ks := ["k", "x"]) (n := 0) (ix := [1, 0]) fun _ _ _ _ _ _ us ws h1 h2 => match us, ws, h1, h2 with | [], [_, _], _, _ => rfl) pass0 (pk_cons (pv 4) (pk_cons (pv 7) (pk_nil)))) (pa_nil)))) pa_nil)) (pe_callB (k_repr K hr gd T.nd) (by rfl) T.n_repr (by decide +kernel) (pa_cons (pe_lst (pa_cons (pv 8) (pa_cons (pv 8) (pa_nil)))) pa_nil)) (nomark _)) (pss_cons (ps_ret (pe_bl)) (pss_nil)) (pss_nil)) (pss_cons (ps_asg (pe_tup (pa_cons (pe_int) (pa_cons (pe_int) (pa_nil)))) (k_gt K (pgs_cons (pg_name (i := 16) sc.nd rfl (by first | exact Or.inl rfl | exact Or.inr rfl)) (pgs_cons (pg_name (i := 17) sc.nd rfl (by first | exact Or.inl rfl | exact Or.inr rfl)) (pgs_nil))))) (pss_cons (ps_for PassesOwn.never rfl (k_pil K (pv 5)) (pg_name (i := 6) sc.nd rfl (by first | exact Or.inl rfl | exact Or.inr rfl)) (pss_cons (ps_par (i := 16) (j := 17) rfl sc.nd rfl rfl (by decide) rfl rfl (pa_cons (pe_op op_mulX (pv 16) (pv 6)) (pa_cons (pe_op op_mulX (pv 17) (pe_op op_sub (pv 6) (pe_int))) (pa_nil))) (by rfl)) (pss_nil))) (pss_cons (ps_if (PW.pt (pw_or (pt_cmpR op_ne (pe_cG G6 (hr.mono (by decide)) gd rfl m6 F6.kp b6 pass0 (pa_cons (pv 4) (pa_nil))) (pv 17) (nomark _)) (pw_or1 (PW.pt (pw_and (pt_cmpR op_le (pe_op op_add (pv 7) (pv 16)) (pe_op op_pow (pe_int) (pe_int)) (nomark _)) (pw_and1 (pt_cmpR op_ne (pe_cG G2 (hr.mono (by decide)) gd rfl m2 F2.kp b2 pass0 (pa_cons (pe_op op_add (pv 7) (pv 16)) (pa_cons (pv 4) (pa_nil)))) (pe_op op_add (pv 8) (pv 17)) (nomark _)))))))) (pss_cons (ps_ret (pe_bl)) (pss_nil)) (pss_nil)) (pss_cons (ps_if (PW.pt (pw_and (pt_cmpR op_gt (pv 4) (pe_int) (nomark _)) (pw_and1 (pt_cmpR op_ne (pe_op op_sub (pe_cG G2 (hr.mono (by decide)) gd rfl m2 F2.kp b2 pass0 (pa_cons (pv 7) (pa_cons (pe_op op_sub (pv 4) (pe_int)) (pa_nil)))) (pe_cG G2 (hr.mono (by decide)) gd rfl m2 F2.kp b2 pass0 (pa_cons (pe_op op_fdivW (pv 7) (pe_ix (k_ixL K) (pv 5) (pe_un un_neg (pe_int)) (fun _ _ => rfl))) (pa_cons (pe_op op_sub (pv 4) (pe_int)) (pa_nil))))) (pv 8) (nomark _))))) (pss_cons (ps_ret (pe_bl)) (pss_nil)) (pss_nil)) (pss_cons (ps_set (i := 9) sc.nd rfl (by first | exact Or.inl rfl | exact Or.inr rfl) (pe_op op_add (pe_int) (pe_cG G0 (hr.mono (by decide)) gd rfl m0 F0.kp b0 pass0 (pa_cons (pv 0) (pa_cons (pv 1) (pa_nil)))))) (pss_cons (ps_if (pt_cmpR (k_neD K hr) (pe_cG G7 (hr.mono (by decide)) gd rfl m7 F7.kp b7 pass0 (pa_cons (pv 9) (pa_cons (pe_ifExp (pt_cmpR op_ge (pv 1) (pv 9) (nomark _)) (pv 1) (pv 9)) (pa_nil)))) (pe_callTy (k_tupOf K) (by rfl) T.n_tuple (by decide +kernel) (pa_cons (pe_lc (own := [("p", 6)]) (g := (gName 6)) rfl sc.nd (k_pil K (pv 3)) (blkOk_by (N := ["pot", "x", "parts", "primes", "k", "first", "p", "great", "due", "low", "at", "chain", "left", "some", "signs", "found", "size", "rest", "n", "i", "v", "d", "sign"]) (sc := defScope t__law_are_struck_right) (by decide +kernel)) (fun _ _ _ _ _ => pg_name (i := 6) sc.nd rfl (by first | exact Or.inl rfl | exact Or.inr rfl)) (fun _ _ _ _ _ => pts_one (pt_cmpR op_ge (pv 6) (pv 9) (nomark _))) (fun _ _ _ _ _ => pv 6)) pa_nil)) (nomark _)) (pss_cons (ps_ret (pe_bl)) (pss_nil)) (pss_nil)) (pss_cons (ps_set (i := 10) sc.nd rfl (by first | exact Or.inl rfl | exact Or.inr rfl) (pe_cG G0 (hr.mono (by decide)) gd rfl m0 F0.kp b0 pass0 (pa_cons (pv 0) (pa_cons (pe_callB (call_max2 rfl) (by rfl) T.n_max (by decide +kernel) (pa_cons (pe_int) (pa_cons (pe_callB (k_len K) (by rfl) T.n_len (by decide +kernel) (pa_cons (pv 3) pa_nil)) pa_nil))) (pa_nil))))) (pss_cons (ps_if (PW.pt (pw_and (pt_cmpR (k_neD K hr) (pv 3) (pe_lst (pa_nil)) (nomark _)) (pw_and1 (pt_cmpR op_ne (pe_callB (k_repr K hr gd T.nd) (by rfl) T.n_repr (by decide +kernel) (pa_cons (pe_lst (pa_cons (pe_cG G8 (hr.mono (by decide)) gd rfl m8 F8.kp b8 pass0 (pa_cons (pv 10) (pa_nil))) (pa_cons (pe_cGK0 (ks := ["k"]) (ix := [0]) G8 (hr.mono (by decide)) gd rfl m8 F8.kp (Fun.kb F8 (ps := ["k"]) (ks := ["k"]) (n := 0) (ix := [0]) fun _ _ _ _ _ _ us ws h1 h2 => match us, ws, h1, h2 with | [], [_], _, _ => rfl) pass0 (pk_cons (pv 10) (pk_nil))) (pa_nil)))) pa_nil)) (pe_callB (k_repr K hr gd T.nd) (by rfl) T.n_repr (by decide +kernel) (pa_cons (pe_op op_rep (pe_lst (pa_cons (pe_ix (k_ixL K) (pv 3) (pv 10) (fun _ _ => rfl)) (pa_nil))) (pe_int)) pa_nil)) (nomark _))))) (pss_cons (ps_ret (pe_bl)) (pss_nil)) (pss_nil)) (pss_cons (ps_set (i := 11) sc.nd rfl (by first | exact Or.inl rfl | exact Or.inr rfl) (pe_cG G9 (hr.mono (by decide)) gd rfl m9 F9.kp b9 pass0 (pa_cons (pv 1) (pa_nil)))) (pss_cons (ps_if (PW.pt (pw_or (pt_cmpR op_notN (pe_cG G10 (hr.mono (by decide)) gd rfl m10 F10.kp b10 pass0 (pa_cons (pv 1) (pa_cons (pv 11) (pa_nil)))) (pe_non) (nomark _)) (pw_or (pt_cmpR op_ne (pe_ix (k_ixT K) (pv 11) (pe_int) (fun _ _ => rfl)) (pe_int) (nomark _)) (pw_or1 (pt_cmpR op_le (pe_ix (k_ixT K) (pv 11) (pe_un un_neg (pe_int)) (fun _ _ => rfl)) (pv 1) (nomark _)))))) (pss_cons (ps_ret (pe_bl)) (pss_nil)) (pss_nil)) (pss_cons (ps_ret (pe_cmpR (k_eqD K hr) (pe_lc (own := [("i", 19)]) (g := (gName 19)) rfl sc.nd (pi_range2 rfl T.n_range (pa_cons (pe_int) (pa_cons (pe_callB (k_len K) (by rfl) T.n_len (by decide +kernel) (pa_cons (pv 11) pa_nil)) pa_nil))) (blkOk_by (N := ["pot", "x", "parts", "primes", "k", "first", "p", "great", "due", "low", "at", "chain", "left", "some", "signs", "found", "size", "rest", "n", "i", "v", "d", "sign"]) (sc := defScope t__law_are_struck_right) (by decide +kernel)) (fun _ _ _ _ _ => pg_name (i := 19) sc.nd rfl (by first | exact Or.inl rfl | exact Or.inr rfl)) (fun _ _ _ _ _ => pts_one (pt_not (pt_chain op_lt op_lt (pe_ix (k_ixT K) (pv 11) (pe_op op_sub (pv 19) (pe_int)) (fun _ _ => rfl)) (pe_ix (k_ixT K) (pv 11) (pv 19) (fun _ _ => rfl)) (pe_op op_mulX (pe_int) (pe_ix (k_ixT K) (pv 11) (pe_op op_sub (pv 19) (pe_int)) (fun _ _ => rfl)))))) (fun _ _ _ _ _ => pv 19)) (pe_lst (pa_nil)) (nomark _))) (pss_nil))))))))))))))))))))), ?_⟩
    refine q_set (fun v => [some (.ref i.a), some (.int p_x), some v_parts, some v_primes, some v, none, none, none, none, none, none, none, none, none, none, none, none, none, none, none, none, none, none]) (fun _ => rfl) w0 p0 (Ev.eta (e_callP (F := fun i => potPt i) (i := i) (A := fun i => (aCons (rP i) (aOne rI))) (E := E0) (fm := fm__law_of) (R := rI) (a_cons (e_var (R := rP i) (a := ()) rfl rfl) (a_one e_cI)))) hm0 ?_
    intro k1 vk9 S2 H3 s4 w5 p6 g8 rk10 hm7
    cases (show vk9 = .int k1 from rk10)
    have r_parts := Mo.mo g8.s r_parts
    have r_primes := Mo.mo g8.s r_primes
    refine q_set (fun v => [some (.ref i.a), some (.int p_x), some v_parts, some v_primes, some (.int k1), some v, none, none, none, none, none, none, none, none, none, none, none, none, none, none, none, none, none]) (fun _ => rfl) w5 p6 (EvL.frz (l_cut (EvL.rd (l_lstL (a_consL e_cI (a_consL e_cI (a_consL e_cI (a_consL e_cI (a_consL e_cI (a_consL e_cI (a_consL e_cI (a_consL e_cI (a_consL e_cI (a_consL e_cI (a_nilL (R := rI)))))))))))))) o_no (o_some (e_var (R := rI) rfl rfl)))) hm7 ?_
    intro first11 vfirst19 S12 H13 s14 w15 p16 g18 rfirst20 hm17
    have r_parts := Mo.mo g18.s r_parts
    have r_primes := Mo.mo g18.s r_primes
    refine q_if w15 p16 (t_Test (e_neQ (q_T (qs_all q_I)) (by decide) (Ev.Q (Ev.eta (e_call (E := E0) (fm := fm_first_primes) (R := (rT K (aAll rI))) (a_one (e_var (R := rI) rfl rfl)))) (d_T (ds_all d_I))) (Ev.Q (c_tup (K := K) (Ev.rd (e_var rfl rfirst20))) (d_T (ds_all d_I))))) hm17 ?_ ?_
    · intro S21 H22 s23 w24 p25 g26 hm27
      have r_parts := Mo.mo g26.s r_parts
      have r_primes := Mo.mo g26.s r_primes
      have rfirst20 := Mo.mo g26.s rfirst20
      refine q_ret w24 p25 e_cB hm27 ?_
      intro r35 v36 S28 H29 s30 w31 p32 g34 rr37 hm33
      cases run_of_pure hm33
      exact fin _ ⟨S28, w31.g, p32, rr37⟩
    · intro S38 H39 s40 w41 p42 g43 hm44
      have r_parts := Mo.mo g43.s r_parts
      have r_primes := Mo.mo g43.s r_primes
      have rfirst20 := Mo.mo g43.s rfirst20
      refine nx_done ?_
      refine q_if w41 p42 (t_Test (e_lt (e_var (R := rI) rfl rfl) e_cI)) hm44 ?_ ?_
      · intro S45 H46 s47 w48 p49 g50 hm51
        have r_parts := Mo.mo g50.s r_parts
        have r_primes := Mo.mo g50.s r_primes
        have rfirst20 := Mo.mo g50.s rfirst20
        refine q_set (fun v => [some (.ref i.a), some (.int p_x), some v_parts, some v_primes, some (.int k1), some vfirst19, none, none, none, none, none, none, some v, none, none, none, none, none, none, none, none, none, none]) (fun _ => rfl) w48 p49 (EvL.frz (l_lc (R := rI) (g := (gName 18)) (γ := Int) (vs := [18]) (mt := fun x52 k => Mir.lft (grd (List.length first11 ≤ 16000000)) >>= fun _ => cmp first11 (fun x55 => Mir.lft (grd (0 < x55)) >>= fun _ => if (decide ((x52 % x55) = (0 : Int))) = true then pure (some x55) else pure none) >>= fun l59 => Mir.lft (grd (List.length ([] : List Int) ≤ 16000000)) >>= fun _ => k (decide (l59 = ([] : List Int)))) (me := fun x52 k => k x52) (R' := rI) (i_R2 e_cI (e_add (e_var (R := rI) rfl rfl) e_cI)) ownOk0 (g_nm (R := rI)) (fun x σ' S hp => by obtain ⟨_, rfl, _⟩ := hp; first | rfl | exact ((wipe_set (by decide)).trans wipe_wipe)) (fun x52 σ' S1 H1 g53 hp => by have w54 := w48.go g53; obtain ⟨_, rfl, rfl⟩ := hp; have r_parts := Mo.mo g53.s r_parts; have r_primes := Mo.mo g53.s r_primes; have rfirst20 := Mo.mo g53.s rfirst20; exact (t_Test (e_eqQ (q_L (qs_all q_I)) (by decide) (EvR.Q (EvL.rd (l_lc (R := rI) (g := (gName 6)) (γ := Int) (vs := [6]) (mt := fun x55 k => Mir.lft (grd (0 < x55)) >>= fun _ => k (decide ((x52 % x55) = (0 : Int)))) (me := fun x55 k => k x55) (R' := rI) (i_L (K := K) (e_var rfl rfirst20)) ownOk0 (g_nm (R := rI)) (fun x σ' S hp => by obtain ⟨_, rfl, _⟩ := hp; first | rfl | exact ((wipe_set (by decide)).trans wipe_wipe)) (fun x55 σ' S1 H1 g56 hp => by have w57 := w54.go g56; obtain ⟨_, rfl, rfl⟩ := hp; have r_parts := Mo.mo g56.s r_parts; have r_primes := Mo.mo g56.s r_primes; have rfirst20 := Mo.mo g56.s rfirst20; exact (t_Test (e_eq (e_mod (e_var (R := rI) rfl rfl) (e_var (R := rI) rfl rfl)) e_cI))) (fun x55 σ' S1 H1 g56 hp => by have w57 := w54.go g56; obtain ⟨_, rfl, rfl⟩ := hp; have r_parts := Mo.mo g56.s r_parts; have r_primes := Mo.mo g56.s r_primes; have rfirst20 := Mo.mo g56.s rfirst20; exact (e_var (R := rI) rfl rfl)) pm_nm)) (ds_all d_I)) (EvR.Q (EvL.rd (l_lstL (a_nilL (R := rI)))) (ds_all d_I))))) (fun x52 σ' S1 H1 g53 hp => by have w54 := w48.go g53; obtain ⟨_, rfl, rfl⟩ := hp; have r_parts := Mo.mo g53.s r_parts; have r_primes := Mo.mo g53.s r_primes; have rfirst20 := Mo.mo g53.s rfirst20; exact (e_var (R := rI) rfl rfl)) pm_nm)) hm51 ?_
        intro left60 vleft68 S61 H62 s63 w64 p65 g67 rleft69 hm66
        have r_parts := Mo.mo g67.s r_parts
        have r_primes := Mo.mo g67.s r_primes
        have rfirst20 := Mo.mo g67.s rfirst20
        refine q_if w64 p65 (t_Test (e_neW (c_repr (EvL.frz (l_lstL (a_consL (Ev.eta (e_call (E := E0) (fm := fm_left_number) (R := rI) (a_cons (e_var (R := rI) rfl rfl) (a_one (e_var (R := rI) rfl rfl))))) (a_consL (e_callK (E := E0) (n := 0) (m' := 2) (ix := [1, 0]) (fm := fm_left_number) (A := (aCons rI (aOne rI))) (A1 := aNil) (A2 := (aCons rI (aOne rI))) (R := rI) (fun a b => (b.2, b.1)) a_nil (a_cons (e_var (R := rI) rfl rfl) (a_one (e_var (R := rI) rfl rfl))) (fun a b vs zs S h1 h2 => by obtain rfl := h1; obtain ⟨_, _, rfl, y0, ⟨_, rfl, y1⟩⟩ := h2; exact ⟨rfl, rfl, ⟨_, _, rfl, y1, ⟨_, rfl, y0⟩⟩⟩)) (a_nilL (R := rI)))))) (d_L (ds_all d_I))) (c_repr (EvL.frz (l_rep (EvL.rd (l_lstL (a_consL (c_lenL (Ev.rd (e_var rfl rleft69))) (a_nilL (R := rI))))) e_cI)) (d_L (ds_all d_I))))) hm66 ?_ ?_
        · intro S70 H71 s72 w73 p74 g75 hm76
          have r_parts := Mo.mo g75.s r_parts
          have r_primes := Mo.mo g75.s r_primes
          have rfirst20 := Mo.mo g75.s rfirst20
          have rleft69 := Mo.mo g75.s rleft69
          refine q_ret w73 p74 e_cB hm76 ?_
          intro r84 v85 S77 H78 s79 w80 p81 g83 rr86 hm82
          cases run_of_pure hm82
          exact fin _ ⟨S77, w80.g, p81, rr86⟩
        · intro S87 H88 s89 w90 p91 g92 hm93
          have r_parts := Mo.mo g92.s r_parts
          have r_primes := Mo.mo g92.s r_primes
          have rfirst20 := Mo.mo g92.s rfirst20
          have rleft69 := Mo.mo g92.s rleft69
          refine nx_done ?_
          refine q_set (fun v => [some (.ref i.a), some (.int p_x), some v_parts, some v_primes, some (.int k1), some vfirst19, none, none, none, none, none, none, some vleft68, some v, none, none, none, none, none, none, none, none, none]) (fun _ => rfl) w90 p91 (EvL.frz (l_lcT (R := rI) (g := (gName 18)) (vs := [18]) (t := (fun x94 => ((List.contains left60 x94) || (List.contains first11 x94)))) (f := (fun x94 => x94)) (R' := rI) (i_R2 e_cI (e_add (e_var (R := rI) rfl rfl) e_cI)) ownOk0 (g_nm (R := rI)) (fun x σ' S hp => by obtain ⟨_, rfl, _⟩ := hp; first | rfl | exact ((wipe_set (by decide)).trans wipe_wipe)) (fun x94 σ' S1 H1 g95 hp => by have w96 := w90.go g95; obtain ⟨_, rfl, rfl⟩ := hp; have r_parts := Mo.mo g95.s r_parts; have r_primes := Mo.mo g95.s r_primes; have rfirst20 := Mo.mo g95.s rfirst20; have rleft69 := Mo.mo g95.s rleft69; exact (t_orT (t_Test (e_inL (neg := false) (e_var (R := rI) rfl rfl) (Ev.rd (e_var rfl rleft69)))) (t_Test (e_inL (neg := false) (e_var (R := rI) rfl rfl) (Ev.rd (e_var rfl rfirst20)))))) (fun x94 σ' S1 H1 g95 hp => by have w96 := w90.go g95; obtain ⟨_, rfl, rfl⟩ := hp; have r_parts := Mo.mo g95.s r_parts; have r_primes := Mo.mo g95.s r_primes; have rfirst20 := Mo.mo g95.s rfirst20; have rleft69 := Mo.mo g95.s rleft69; exact (e_var (R := rI) rfl rfl)) pm_nm)) hm93 ?_
          intro some97 vsome105 S98 H99 s100 w101 p102 g104 rsome106 hm103
          have r_parts := Mo.mo g104.s r_parts
          have r_primes := Mo.mo g104.s r_primes
          have rfirst20 := Mo.mo g104.s rfirst20
          have rleft69 := Mo.mo g104.s rleft69
          refine q_set (fun v => [some (.ref i.a), some (.int p_x), some v_parts, some v_primes, some (.int k1), some vfirst19, none, none, some v, none, none, none, some vleft68, some vsome105, none, none, none, none, none, none, none, none, none]) (fun _ => rfl) w101 p102 (c_tup (K := K) (EvL.rd (l_lc1 (R := rI) (g := (gName 20)) (γ := Int) (vs := [20]) (me := fun x107 k => Mir.lft (grd (List.length some97 ≤ 16000000)) >>= fun _ => k (List.length (List.map (fun x110 => x110) (List.filter (fun x110 => (decide (x110 ≤ x107))) some97)) : Int)) (R' := rI) (i_L (K := K) (e_var rfl r_parts)) ownOk0 (g_nm (R := rI)) (fun x σ' S hp => by obtain ⟨_, rfl, _⟩ := hp; first | rfl | exact ((wipe_set (by decide)).trans wipe_wipe)) (fun x107 σ' S1 H1 g108 hp => by have w109 := w101.go g108; obtain ⟨_, rfl, rfl⟩ := hp; have r_parts := Mo.mo g108.s r_parts; have r_primes := Mo.mo g108.s r_primes; have rfirst20 := Mo.mo g108.s rfirst20; have rleft69 := Mo.mo g108.s rleft69; have rsome106 := Mo.mo g108.s rsome106; exact (c_lenL (EvL.rd (l_lcT (R := rI) (g := (gName 18)) (vs := [18]) (t := (fun x110 => (decide (x110 ≤ x107)))) (f := (fun x110 => x110)) (R' := rI) (i_L (K := K) (e_var rfl rsome106)) ownOk0 (g_nm (R := rI)) (fun x σ' S hp => by obtain ⟨_, rfl, _⟩ := hp; first | rfl | exact ((wipe_set (by decide)).trans wipe_wipe)) (fun x110 σ' S1 H1 g111 hp => by have w112 := w109.go g111; obtain ⟨_, rfl, rfl⟩ := hp; have r_parts := Mo.mo g111.s r_parts; have r_primes := Mo.mo g111.s r_primes; have rfirst20 := Mo.mo g111.s rfirst20; have rleft69 := Mo.mo g111.s rleft69; have rsome106 := Mo.mo g111.s rsome106; exact (t_Test (e_le (e_var (R := rI) rfl rfl) (e_var (R := rI) rfl rfl)))) (fun x110 σ' S1 H1 g111 hp => by have w112 := w109.go g111; obtain ⟨_, rfl, rfl⟩ := hp; have r_parts := Mo.mo g111.s r_parts; have r_primes := Mo.mo g111.s r_primes; have rfirst20 := Mo.mo g111.s rfirst20; have rleft69 := Mo.mo g111.s rleft69; have rsome106 := Mo.mo g111.s rsome106; exact (e_var (R := rI) rfl rfl)) pm_nm)))) pm_nm))) hm103 ?_
          intro due113 vdue121 S114 H115 s116 w117 p118 g120 rdue122 hm119
          have r_parts := Mo.mo g120.s r_parts
          have r_primes := Mo.mo g120.s r_primes
          have rfirst20 := Mo.mo g120.s rfirst20
          have rleft69 := Mo.mo g120.s rleft69
          have rsome106 := Mo.mo g120.s rsome106
          refine q_if w117 p118 (t_Test (e_neW (c_repr (EvL.frz (l_lstL (a_consL (Ev.eta (e_call (E := E0) (fm := fm_struck_row) (R := (rT K (aAll rI))) (a_cons (e_var (R := rI) rfl rfl) (a_one (e_var (R := rI) rfl rfl))))) (a_consL (e_callK (E := E0) (n := 0) (m' := 2) (ix := [1, 0]) (fm := fm_struck_row) (A := (aCons rI (aOne rI))) (A1 := aNil) (A2 := (aCons rI (aOne rI))) (R := (rT K (aAll rI))) (fun a b => (b.2, b.1)) a_nil (a_cons (e_var (R := rI) rfl rfl) (a_one (e_var (R := rI) rfl rfl))) (fun a b vs zs S h1 h2 => by obtain rfl := h1; obtain ⟨_, _, rfl, y0, ⟨_, rfl, y1⟩⟩ := h2; exact ⟨rfl, rfl, ⟨_, _, rfl, y1, ⟨_, rfl, y0⟩⟩⟩)) (a_nilL (R := (rT K (aAll rI)))))))) (d_L (ds_all (d_T (ds_all d_I))))) (c_repr (EvL.frz (l_lstL (a_consL (e_var rfl rdue122) (a_consL (e_var rfl rdue122) (a_nilL (R := (rT K (aAll rI)))))))) (d_L (ds_all (d_T (ds_all d_I))))))) hm119 ?_ ?_
          · intro S123 H124 s125 w126 p127 g128 hm129
            have r_parts := Mo.mo g128.s r_parts
            have r_primes := Mo.mo g128.s r_primes
            have rfirst20 := Mo.mo g128.s rfirst20
            have rleft69 := Mo.mo g128.s rleft69
            have rsome106 := Mo.mo g128.s rsome106
            have rdue122 := Mo.mo g128.s rdue122
            refine q_ret w126 p127 e_cB hm129 ?_
            intro r137 v138 S130 H131 s132 w133 p134 g136 rr139 hm135
            cases run_of_pure hm135
            exact fin _ ⟨S130, w133.g, p134, rr139⟩
          · intro S140 H141 s142 w143 p144 g145 hm146
            have r_parts := Mo.mo g145.s r_parts
            have r_primes := Mo.mo g145.s r_primes
            have rfirst20 := Mo.mo g145.s rfirst20
            have rleft69 := Mo.mo g145.s rleft69
            have rsome106 := Mo.mo g145.s rsome106
            have rdue122 := Mo.mo g145.s rdue122
            refine nx_done ?_
            refine nx_done ?_
            refine par_go ?_
            refine x_ev w143 p144 (Ev.eta (e_call (E := E0) (fm := fm_struck_signs) (R := (rT K (aAll (rT K (aCons rI (aOne rI)))))) (a_one (e_var (R := rI) rfl rfl)))) hm146 ?_
            intro signs147 vsigns155 S148 H149 s150 w151 p152 g154 rsigns156 hm153
            have r_parts := Mo.mo g154.s r_parts
            have r_primes := Mo.mo g154.s r_primes
            have rfirst20 := Mo.mo g154.s rfirst20
            have rleft69 := Mo.mo g154.s rleft69
            have rsome106 := Mo.mo g154.s rsome106
            have rdue122 := Mo.mo g154.s rdue122
            refine x_ev w151 p152 (EvL.frz (l_lstL (a_consL (e_tupP (a_cons e_cI (a_one e_cI)) (arN_cons arN_one) (by decide)) (a_nilL (R := (rPT (aCons rI (aOne rI)))))))) hm153 ?_
            intro found157 vfound165 S158 H159 s160 w161 p162 g164 rfound166 hm163
            have r_parts := Mo.mo g164.s r_parts
            have r_primes := Mo.mo g164.s r_primes
            have rfirst20 := Mo.mo g164.s rfirst20
            have rleft69 := Mo.mo g164.s rleft69
            have rsome106 := Mo.mo g164.s rsome106
            have rdue122 := Mo.mo g164.s rdue122
            have rsigns156 := Mo.mo g164.s rsigns156
            refine par_end [some (.ref i.a), some (.int p_x), some v_parts, some v_primes, some (.int k1), some vfirst19, none, none, some vdue121, none, none, none, some vleft68, some vsome105, some vsigns155, some vfound165, none, none, none, none, none, none, none] rfl ?_
            refine q_for (p := (potPt i)) w161 p162 (i_L (K := K) (e_var rfl rfirst20)) (g_nm (R := rI)) hm163 (fun Sb168 st167 σ S' H' s' => Ex Sb168 S' ∧ (∃ (xp_ : Option V) (vfound_ : V), σ = [some (.ref i.a), some (.int p_x), some v_parts, some v_primes, some (.int k1), some vfirst19, xp_, none, some vdue121, none, none, none, some vleft68, some vsome105, some vsigns155, some vfound_, none, none, none, none, none, none, none] ∧ Wd (potPt i) S0 H0 S' H' [] ∧ PotAt (potPt i) s' S' H' ∧ Ex S158 S' ∧ (rL (aAll (rPT (aCons rI (aOne rI))))) st167 vfound_ S')) ?_ ?_ ?_ ?_ ?_
            · intro S170 H171 s172 w173 p174 g175
              have r_parts := Mo.mo g175.s r_parts
              have r_primes := Mo.mo g175.s r_primes
              have rfirst20 := Mo.mo g175.s rfirst20
              have rleft69 := Mo.mo g175.s rleft69
              have rsome106 := Mo.mo g175.s rsome106
              have rdue122 := Mo.mo g175.s rdue122
              have rsigns156 := Mo.mo g175.s rsigns156
              have rfound166 := Mo.mo g175.s rfound166
              exact ⟨Ex.rf, ⟨_, _, rfl, w173, p174, g175.s, rfound166⟩⟩
            · rintro Sb168 st167 _ S182 H183 s184 ⟨ex185, ⟨xp176, vfound177, rfl, w179, p180, eb181, rfound178⟩⟩
              exact ⟨ex185, w179.i, p180, ownOk0⟩
            · rintro Sb168 st167 _ S192 H193 s194 S195 H196 ⟨ex198, ⟨xp186, vfound187, rfl, w189, p190, eb191, rfound188⟩⟩ g197
              exact ⟨ex198.tr g197.s, _, _, rfl, w189.go (Gm.up g197), PotAt.go p190 g197, eb191.tr g197.s, Mo.mo g197.s rfound188⟩
            · rintro Sb168 x169 st167 _ σ213 S205 H206 s207 st167_ s2_ D_ ⟨ex212, ⟨xp199, vfound200, rfl, w202, p203, eb204, rfound201⟩⟩ hp hm208 nx209
              obtain ⟨_, rfl, rfl⟩ := hp
              have r_parts := Mo.mo eb204 r_parts
              have r_primes := Mo.mo eb204 r_primes
              have rfirst20 := Mo.mo eb204 rfirst20
              have rleft69 := Mo.mo eb204 rleft69
              have rsome106 := Mo.mo eb204 rsome106
              have rdue122 := Mo.mo eb204 rdue122
              have rsigns156 := Mo.mo eb204 rsigns156
              refine q_set (fun v => [some (.ref i.a), some (.int p_x), some v_parts, some v_primes, some (.int k1), some vfirst19, some (.int x169), none, some vdue121, none, none, none, some vleft68, some vsome105, some vsigns155, some v, none, none, none, none, none, none, none]) (fun _ => rfl) w202 p203 (EvL.frz (l_cat (Ev.rd (e_var rfl rfound201)) (EvL.rd (l_lc1 (R := (rPT (aCons rI (aOne rI)))) (g := (gTup K 2 (gCons (gName 21) (gCons (gName 22) gNil)))) (γ := (Int × Int)) (vs := [21, 22]) (me := fun x217 k => Mir.lft (grd (Sm x169 ∧ Sm x217.1)) >>= fun _ => k ((x169 * x217.1), (-x217.2))) (R' := (rPT (aCons rI (aOne rI)))) (i_L (K := K) (e_var rfl rfound201)) ownOk0 (g_pt (g_tp (gq_cons (g_nm (R := rI)) (gq_one (g_nm (R := rI)))))) (fun x σ' S hp => by obtain ⟨_, ⟨_, rfl, _⟩, ⟨_, rfl, _⟩⟩ := hp; first | rfl | exact ((wipe_set (by decide)).trans ((wipe_set (by decide)).trans wipe_wipe))) (fun x217 σ' S1 H1 g218 hp => by have w219 := w202.go g218; obtain ⟨_, ⟨_, rfl, rfl⟩, ⟨_, rfl, rfl⟩⟩ := hp; have r_parts := Mo.mo g218.s r_parts; have r_primes := Mo.mo g218.s r_primes; have rfirst20 := Mo.mo g218.s rfirst20; have rleft69 := Mo.mo g218.s rleft69; have rsome106 := Mo.mo g218.s rsome106; have rdue122 := Mo.mo g218.s rdue122; have rsigns156 := Mo.mo g218.s rsigns156; have rfound201 := Mo.mo g218.s rfound201; exact (e_tupP (a_cons (e_mul (e_var (R := rI) rfl rfl) (e_var (R := rI) rfl rfl)) (a_one (e_neg (e_var (R := rI) rfl rfl)))) (arN_cons arN_one) (by decide))) (pm_cons pm_nm pm_nm))))) hm208 ?_
              intro found220 vfound228 S221 H222 s223 w224 p225 g227 rfound229 hm226
              have r_parts := Mo.mo g227.s r_parts
              have r_primes := Mo.mo g227.s r_primes
              have rfirst20 := Mo.mo g227.s rfirst20
              have rleft69 := Mo.mo g227.s rleft69
              have rsome106 := Mo.mo g227.s rsome106
              have rdue122 := Mo.mo g227.s rdue122
              have rsigns156 := Mo.mo g227.s rsigns156
              have eb204 := eb204.tr g227.s
              have ex212 := ex212.tr g227.s
              cases run_of_pure hm226
              exact (nx209 _ _ _ ⟨ex212, ⟨_, _, rfl, w224, p225, eb204, rfound229⟩⟩).1
            · rintro Sb168 st167 _ S237 H238 s239 ⟨_, ⟨xp231, vfound232, rfl, w234, p235, eb236, rfound233⟩⟩ hm240
              have r_parts := Mo.mo eb236 r_parts
              have r_primes := Mo.mo eb236 r_primes
              have rfirst20 := Mo.mo eb236 rfirst20
              have rleft69 := Mo.mo eb236 rleft69
              have rsome106 := Mo.mo eb236 rsome106
              have rdue122 := Mo.mo eb236 rdue122
              have rsigns156 := Mo.mo eb236 rsigns156
              refine q_if w234 p235 (t_Test (e_neQ (q_T (qs_all (q_T (qs_cons q_I (qs_one q_I))))) (by decide) (Ev.Q (e_var rfl rsigns156) (d_T (ds_all (d_T (ds_cons d_I (ds_one d_I)))))) (Ev.Q (c_tup (K := K) (EvL.rd (l_srtP (K := K) (Ev.rd (e_var rfl rfound233))))) (d_T (ds_all (d_T (ds_cons d_I (ds_one d_I)))))))) hm240 ?_ ?_
              · intro S241 H242 s243 w244 p245 g246 hm247
                have r_parts := Mo.mo g246.s r_parts
                have r_primes := Mo.mo g246.s r_primes
                have rfirst20 := Mo.mo g246.s rfirst20
                have rleft69 := Mo.mo g246.s rleft69
                have rsome106 := Mo.mo g246.s rsome106
                have rdue122 := Mo.mo g246.s rdue122
                have rsigns156 := Mo.mo g246.s rsigns156
                have rfound233 := Mo.mo g246.s rfound233
                refine q_ret w244 p245 e_cB hm247 ?_
                intro r255 v256 S248 H249 s250 w251 p252 g254 rr257 hm253
                cases run_of_pure hm253
                exact fin _ ⟨S248, w251.g, p252, rr257⟩
              · intro S258 H259 s260 w261 p262 g263 hm264
                have r_parts := Mo.mo g263.s r_parts
                have r_primes := Mo.mo g263.s r_primes
                have rfirst20 := Mo.mo g263.s rfirst20
                have rleft69 := Mo.mo g263.s rleft69
                have rsome106 := Mo.mo g263.s rsome106
                have rdue122 := Mo.mo g263.s rdue122
                have rsigns156 := Mo.mo g263.s rsigns156
                have rfound233 := Mo.mo g263.s rfound233
                refine nx_done ?_
                refine q_set (fun v => [some (.ref i.a), some (.int p_x), some v_parts, some v_primes, some (.int k1), some vfirst19, xp231, some v, some vdue121, none, none, none, some vleft68, some vsome105, some vsigns155, some vfound232, none, none, none, none, none, none, none]) (fun _ => rfl) w261 p262 (e_mul (Ev.eta (e_callP (F := fun i => potPt i) (i := i) (A := fun i => (aCons (rP i) (aOne rI))) (E := E0) (fm := fm__law_of) (R := rI) (a_cons (e_var (R := rP i) (a := ()) rfl rfl) (a_one (e_pow e_cI e_cI))))) (Ev.eta (e_callP (F := fun i => potPt i) (i := i) (A := fun i => (aCons (rP i) (aOne (rL (aAll rI))))) (E := E0) (fm := fm__law_one) (R := rI) (a_cons (e_var (R := rP i) (a := ()) rfl rfl) (a_one (EvL.frz (l_lstL (a_consL e_cI (a_consL (e_pow e_cI e_cI) (a_consL (e_pow e_cI e_cI) (a_nilL (R := rI)))))))))))) hm264 ?_
                intro great265 vgreat273 S266 H267 s268 w269 p270 g272 rgreat274 hm271
                cases (show vgreat273 = .int great265 from rgreat274)
                have r_parts := Mo.mo g272.s r_parts
                have r_primes := Mo.mo g272.s r_primes
                have rfirst20 := Mo.mo g272.s rfirst20
                have rleft69 := Mo.mo g272.s rleft69
                have rsome106 := Mo.mo g272.s rsome106
                have rdue122 := Mo.mo g272.s rdue122
                have rsigns156 := Mo.mo g272.s rsigns156
                have rfound233 := Mo.mo g272.s rfound233
                refine q_set (fun v => [some (.ref i.a), some (.int p_x), some v_parts, some v_primes, some (.int k1), some vfirst19, xp231, some (.int great265), some v, none, none, none, some vleft68, some vsome105, some vsigns155, some vfound232, none, none, none, none, none, none, none]) (fun _ => rfl) w269 p270 (c_sum (EvL.rd (l_lc1 (R := (rPT (aCons rI (aOne rI)))) (g := (gTup K 2 (gCons (gName 21) (gCons (gName 22) gNil)))) (γ := Int) (vs := [21, 22]) (me := fun x275 k => Mir.lft (grd (Dv x275.1)) >>= fun _ => Mir.lft (grd (Sm x275.2 ∧ Sm (great265 / x275.1))) >>= fun _ => k (x275.2 * (great265 / x275.1))) (R' := rI) (i_L (K := K) (e_var rfl rfound233)) ownOk0 (g_pt (g_tp (gq_cons (g_nm (R := rI)) (gq_one (g_nm (R := rI)))))) (fun x σ' S hp => by obtain ⟨_, ⟨_, rfl, _⟩, ⟨_, rfl, _⟩⟩ := hp; first | rfl | exact ((wipe_set (by decide)).trans ((wipe_set (by decide)).trans wipe_wipe))) (fun x275 σ' S1 H1 g276 hp => by have w277 := w269.go g276; obtain ⟨_, ⟨_, rfl, rfl⟩, ⟨_, rfl, rfl⟩⟩ := hp; have r_parts := Mo.mo g276.s r_parts; have r_primes := Mo.mo g276.s r_primes; have rfirst20 := Mo.mo g276.s rfirst20; have rleft69 := Mo.mo g276.s rleft69; have rsome106 := Mo.mo g276.s rsome106; have rdue122 := Mo.mo g276.s rdue122; have rsigns156 := Mo.mo g276.s rsigns156; have rfound233 := Mo.mo g276.s rfound233; exact (e_mul (e_var (R := rI) rfl rfl) (e_fdiv (e_var (R := rI) rfl rfl) (e_var (R := rI) rfl rfl)))) (pm_cons pm_nm pm_nm)))) hm271 ?_
                intro due278 vdue286 S279 H280 s281 w282 p283 g285 rdue287 hm284
                cases (show vdue286 = .int due278 from rdue287)
                have r_parts := Mo.mo g285.s r_parts
                have r_primes := Mo.mo g285.s r_primes
                have rfirst20 := Mo.mo g285.s rfirst20
                have rleft69 := Mo.mo g285.s rleft69
                have rsome106 := Mo.mo g285.s rsome106
                have rsigns156 := Mo.mo g285.s rsigns156
                have rfound233 := Mo.mo g285.s rfound233
                refine q_if w282 p283 (t_Test (e_neW (c_repr (EvL.frz (l_lstL (a_consL (Ev.eta (e_call (E := E0) (fm := fm_left_number) (R := rI) (a_cons (e_var (R := rI) rfl rfl) (a_one (e_var (R := rI) rfl rfl))))) (a_consL (e_callK (E := E0) (n := 0) (m' := 2) (ix := [1, 0]) (fm := fm_left_number) (A := (aCons rI (aOne rI))) (A1 := aNil) (A2 := (aCons rI (aOne rI))) (R := rI) (fun a b => (b.2, b.1)) a_nil (a_cons (e_var (R := rI) rfl rfl) (a_one (e_var (R := rI) rfl rfl))) (fun a b vs zs S h1 h2 => by obtain rfl := h1; obtain ⟨_, _, rfl, y0, ⟨_, rfl, y1⟩⟩ := h2; exact ⟨rfl, rfl, ⟨_, _, rfl, y1, ⟨_, rfl, y0⟩⟩⟩)) (a_nilL (R := rI)))))) (d_L (ds_all d_I))) (c_repr (EvL.frz (l_lstL (a_consL (e_var (R := rI) rfl rfl) (a_consL (e_var (R := rI) rfl rfl) (a_nilL (R := rI)))))) (d_L (ds_all d_I))))) hm284 ?_ ?_
                · intro S288 H289 s290 w291 p292 g293 hm294
                  have r_parts := Mo.mo g293.s r_parts
                  have r_primes := Mo.mo g293.s r_primes
                  have rfirst20 := Mo.mo g293.s rfirst20
                  have rleft69 := Mo.mo g293.s rleft69
                  have rsome106 := Mo.mo g293.s rsome106
                  have rsigns156 := Mo.mo g293.s rsigns156
                  have rfound233 := Mo.mo g293.s rfound233
                  refine q_ret w291 p292 e_cB hm294 ?_
                  intro r302 v303 S295 H296 s297 w298 p299 g301 rr304 hm300
                  cases run_of_pure hm300
                  exact fin _ ⟨S295, w298.g, p299, rr304⟩
                · intro S305 H306 s307 w308 p309 g310 hm311
                  have r_parts := Mo.mo g310.s r_parts
                  have r_primes := Mo.mo g310.s r_primes
                  have rfirst20 := Mo.mo g310.s rfirst20
                  have rleft69 := Mo.mo g310.s rleft69
                  have rsome106 := Mo.mo g310.s rsome106
                  have rsigns156 := Mo.mo g310.s rsigns156
                  have rfound233 := Mo.mo g310.s rfound233
                  refine nx_done ?_
                  refine tup2_go ?_
                  refine x_ev w308 p309 e_cI hm311 ?_
                  intro size312 vsize320 S313 H314 s315 w316 p317 g319 rsize321 hm318
                  cases (show vsize320 = .int size312 from rsize321)
                  have r_parts := Mo.mo g319.s r_parts
                  have r_primes := Mo.mo g319.s r_primes
                  have rfirst20 := Mo.mo g319.s rfirst20
                  have rleft69 := Mo.mo g319.s rleft69
                  have rsome106 := Mo.mo g319.s rsome106
                  have rsigns156 := Mo.mo g319.s rsigns156
                  have rfound233 := Mo.mo g319.s rfound233
                  refine x_ev w316 p317 e_cI hm318 ?_
                  intro rest322 vrest330 S323 H324 s325 w326 p327 g329 rrest331 hm328
                  cases (show vrest330 = .int rest322 from rrest331)
                  have r_parts := Mo.mo g329.s r_parts
                  have r_primes := Mo.mo g329.s r_primes
                  have rfirst20 := Mo.mo g329.s rfirst20
                  have rleft69 := Mo.mo g329.s rleft69
                  have rsome106 := Mo.mo g329.s rsome106
                  have rsigns156 := Mo.mo g329.s rsigns156
                  have rfound233 := Mo.mo g329.s rfound233
                  refine tup_end (is := [16, 17]) [some (.ref i.a), some (.int p_x), some v_parts, some v_primes, some (.int k1), some vfirst19, xp231, some (.int great265), some (.int due278), none, none, none, some vleft68, some vsome105, some vsigns155, some vfound232, some (.int size312), some (.int rest322), none, none, none, none, none] w326 p327 rfl (by simp) rfl ?_
                  intro S332 H333 w334 p335 g336
                  have r_parts := Mo.mo g336.s r_parts
                  have r_primes := Mo.mo g336.s r_primes
                  have rfirst20 := Mo.mo g336.s rfirst20
                  have rleft69 := Mo.mo g336.s rleft69
                  have rsome106 := Mo.mo g336.s rsome106
                  have rsigns156 := Mo.mo g336.s rsigns156
                  have rfound233 := Mo.mo g336.s rfound233
                  refine q_for (p := (potPt i)) w334 p335 (i_L (K := K) (e_var rfl rfirst20)) (g_nm (R := rI)) hm328 (fun Sb338 st337 σ S' H' s' => Ex Sb338 S' ∧ (∃ (xp_ : Option V), σ = [some (.ref i.a), some (.int p_x), some v_parts, some v_primes, some (.int k1), some vfirst19, xp_, some (.int great265), some (.int due278), none, none, none, some vleft68, some vsome105, some vsigns155, some vfound232, some (.int st337.1), some (.int st337.2), none, none, none, none, none] ∧ Wd (potPt i) S0 H0 S' H' [] ∧ PotAt (potPt i) s' S' H' ∧ Ex S332 S')) ?_ ?_ ?_ ?_ ?_
                  · intro S340 H341 s342 w343 p344 g345
                    have r_parts := Mo.mo g345.s r_parts
                    have r_primes := Mo.mo g345.s r_primes
                    have rfirst20 := Mo.mo g345.s rfirst20
                    have rleft69 := Mo.mo g345.s rleft69
                    have rsome106 := Mo.mo g345.s rsome106
                    have rsigns156 := Mo.mo g345.s rsigns156
                    have rfound233 := Mo.mo g345.s rfound233
                    exact ⟨Ex.rf, ⟨_, rfl, w343, p344, g345.s⟩⟩
                  · rintro Sb338 st337 _ S350 H351 s352 ⟨ex353, ⟨xp346, rfl, w347, p348, eb349⟩⟩
                    exact ⟨ex353, w347.i, p348, ownOk0⟩
                  · rintro Sb338 st337 _ S358 H359 s360 S361 H362 ⟨ex364, ⟨xp354, rfl, w355, p356, eb357⟩⟩ g363
                    exact ⟨ex364.tr g363.s, _, rfl, w355.go (Gm.up g363), PotAt.go p356 g363, eb357.tr g363.s⟩
                  · rintro Sb338 x339 st337 _ σ377 S369 H370 s371 st337_ s2_ D_ ⟨ex376, ⟨xp365, rfl, w366, p367, eb368⟩⟩ hp hm372 nx373
                    obtain ⟨_, rfl, rfl⟩ := hp
                    have r_parts := Mo.mo eb368 r_parts
                    have r_primes := Mo.mo eb368 r_primes
                    have rfirst20 := Mo.mo eb368 rfirst20
                    have rleft69 := Mo.mo eb368 rleft69
                    have rsome106 := Mo.mo eb368 rsome106
                    have rsigns156 := Mo.mo eb368 rsigns156
                    have rfound233 := Mo.mo eb368 rfound233
                    refine par_go ?_
                    refine x_ev w366 p367 (e_mul (e_var (R := rI) rfl rfl) (e_var (R := rI) rfl rfl)) hm372 ?_
                    intro size378 vsize386 S379 H380 s381 w382 p383 g385 rsize387 hm384
                    cases (show vsize386 = .int size378 from rsize387)
                    have r_parts := Mo.mo g385.s r_parts
                    have r_primes := Mo.mo g385.s r_primes
                    have rfirst20 := Mo.mo g385.s rfirst20
                    have rleft69 := Mo.mo g385.s rleft69
                    have rsome106 := Mo.mo g385.s rsome106
                    have rsigns156 := Mo.mo g385.s rsigns156
                    have rfound233 := Mo.mo g385.s rfound233
                    have eb368 := eb368.tr g385.s
                    have ex376 := ex376.tr g385.s
                    refine x_ev w382 p383 (e_mul (e_var (R := rI) rfl rfl) (e_sub (e_var (R := rI) rfl rfl) e_cI)) hm384 ?_
                    intro rest388 vrest396 S389 H390 s391 w392 p393 g395 rrest397 hm394
                    cases (show vrest396 = .int rest388 from rrest397)
                    have r_parts := Mo.mo g395.s r_parts
                    have r_primes := Mo.mo g395.s r_primes
                    have rfirst20 := Mo.mo g395.s rfirst20
                    have rleft69 := Mo.mo g395.s rleft69
                    have rsome106 := Mo.mo g395.s rsome106
                    have rsigns156 := Mo.mo g395.s rsigns156
                    have rfound233 := Mo.mo g395.s rfound233
                    have eb368 := eb368.tr g395.s
                    have ex376 := ex376.tr g395.s
                    refine par_end [some (.ref i.a), some (.int p_x), some v_parts, some v_primes, some (.int k1), some vfirst19, some (.int x339), some (.int great265), some (.int due278), none, none, none, some vleft68, some vsome105, some vsigns155, some vfound232, some (.int size378), some (.int rest388), none, none, none, none, none] rfl ?_
                    cases run_of_pure hm394
                    exact (nx373 _ _ _ ⟨ex376, ⟨_, rfl, w392, p393, eb368⟩⟩).1
                  · rintro Sb338 st337 _ S402 H403 s404 ⟨_, ⟨xp398, rfl, w399, p400, eb401⟩⟩ hm405
                    have r_parts := Mo.mo eb401 r_parts
                    have r_primes := Mo.mo eb401 r_primes
                    have rfirst20 := Mo.mo eb401 rfirst20
                    have rleft69 := Mo.mo eb401 rleft69
                    have rsome106 := Mo.mo eb401 rsome106
                    have rsigns156 := Mo.mo eb401 rsigns156
                    have rfound233 := Mo.mo eb401 rfound233
                    refine q_if w399 p400 (t_or (t_Test (e_ne (Ev.eta (e_call (E := E0) (fm := fm_left_in_round) (R := rI) (a_one (e_var (R := rI) rfl rfl)))) (e_var (R := rI) rfl rfl))) (t_and (t_Test (e_le (e_add (e_var (R := rI) rfl rfl) (e_var (R := rI) rfl rfl)) (e_pow e_cI e_cI))) (t_Test (e_ne (Ev.eta (e_call (E := E0) (fm := fm_left_number) (R := rI) (a_cons (e_add (e_var (R := rI) rfl rfl) (e_var (R := rI) rfl rfl)) (a_one (e_var (R := rI) rfl rfl))))) (e_add (e_var (R := rI) rfl rfl) (e_var (R := rI) rfl rfl)))))) hm405 ?_ ?_
                    · intro S406 H407 s408 w409 p410 g411 hm412
                      have r_parts := Mo.mo g411.s r_parts
                      have r_primes := Mo.mo g411.s r_primes
                      have rfirst20 := Mo.mo g411.s rfirst20
                      have rleft69 := Mo.mo g411.s rleft69
                      have rsome106 := Mo.mo g411.s rsome106
                      have rsigns156 := Mo.mo g411.s rsigns156
                      have rfound233 := Mo.mo g411.s rfound233
                      refine q_ret w409 p410 e_cB hm412 ?_
                      intro r420 v421 S413 H414 s415 w416 p417 g419 rr422 hm418
                      cases run_of_pure hm418
                      exact fin _ ⟨S413, w416.g, p417, rr422⟩
                    · intro S423 H424 s425 w426 p427 g428 hm429
                      have r_parts := Mo.mo g428.s r_parts
                      have r_primes := Mo.mo g428.s r_primes
                      have rfirst20 := Mo.mo g428.s rfirst20
                      have rleft69 := Mo.mo g428.s rleft69
                      have rsome106 := Mo.mo g428.s rsome106
                      have rsigns156 := Mo.mo g428.s rsigns156
                      have rfound233 := Mo.mo g428.s rfound233
                      refine nx_done ?_
                      refine q_if w426 p427 (t_and (t_Test (e_gt (e_var (R := rI) rfl rfl) e_cI)) (t_Test (e_ne (e_sub (Ev.eta (e_call (E := E0) (fm := fm_left_number) (R := rI) (a_cons (e_var (R := rI) rfl rfl) (a_one (e_sub (e_var (R := rI) rfl rfl) e_cI))))) (Ev.eta (e_call (E := E0) (fm := fm_left_number) (R := rI) (a_cons (e_fdiv (e_var (R := rI) rfl rfl) (e_ixL (Ev.rd (e_var rfl rfirst20)) (e_neg e_cI))) (a_one (e_sub (e_var (R := rI) rfl rfl) e_cI)))))) (e_var (R := rI) rfl rfl)))) hm429 ?_ ?_
                      · intro S430 H431 s432 w433 p434 g435 hm436
                        have r_parts := Mo.mo g435.s r_parts
                        have r_primes := Mo.mo g435.s r_primes
                        have rfirst20 := Mo.mo g435.s rfirst20
                        have rleft69 := Mo.mo g435.s rleft69
                        have rsome106 := Mo.mo g435.s rsome106
                        have rsigns156 := Mo.mo g435.s rsigns156
                        have rfound233 := Mo.mo g435.s rfound233
                        refine q_ret w433 p434 e_cB hm436 ?_
                        intro r444 v445 S437 H438 s439 w440 p441 g443 rr446 hm442
                        cases run_of_pure hm442
                        exact fin _ ⟨S437, w440.g, p441, rr446⟩
                      · intro S447 H448 s449 w450 p451 g452 hm453
                        have r_parts := Mo.mo g452.s r_parts
                        have r_primes := Mo.mo g452.s r_primes
                        have rfirst20 := Mo.mo g452.s rfirst20
                        have rleft69 := Mo.mo g452.s rleft69
                        have rsome106 := Mo.mo g452.s rsome106
                        have rsigns156 := Mo.mo g452.s rsigns156
                        have rfound233 := Mo.mo g452.s rfound233
                        refine nx_done ?_
                        refine q_set (fun v => [some (.ref i.a), some (.int p_x), some v_parts, some v_primes, some (.int k1), some vfirst19, xp398, some (.int great265), some (.int due278), some v, none, none, some vleft68, some vsome105, some vsigns155, some vfound232, some (.int st337.1), some (.int st337.2), none, none, none, none, none]) (fun _ => rfl) w450 p451 (e_add e_cI (Ev.eta (e_callP (F := fun i => potPt i) (i := i) (A := fun i => (aCons (rP i) (aOne rI))) (E := E0) (fm := fm__law_of) (R := rI) (a_cons (e_var (R := rP i) (a := ()) rfl rfl) (a_one (e_var (R := rI) rfl rfl)))))) hm453 ?_
                        intro low454 vlow462 S455 H456 s457 w458 p459 g461 rlow463 hm460
                        cases (show vlow462 = .int low454 from rlow463)
                        have r_parts := Mo.mo g461.s r_parts
                        have r_primes := Mo.mo g461.s r_primes
                        have rfirst20 := Mo.mo g461.s rfirst20
                        have rleft69 := Mo.mo g461.s rleft69
                        have rsome106 := Mo.mo g461.s rsome106
                        have rsigns156 := Mo.mo g461.s rsigns156
                        have rfound233 := Mo.mo g461.s rfound233
                        refine q_if w458 p459 (t_Test (e_neQ (q_T (qs_all q_I)) (by decide) (Ev.Q (Ev.eta (e_call (E := E0) (fm := fm_primes_between) (R := (rT K (aAll rI))) (a_cons (e_var (R := rI) rfl rfl) (a_one (e_ifT (R := rI) (t_Test (e_ge (e_var (R := rI) rfl rfl) (e_var (R := rI) rfl rfl))) (e_var (R := rI) rfl rfl) (e_var (R := rI) rfl rfl)))))) (d_T (ds_all d_I))) (Ev.Q (c_tup (K := K) (EvL.rd (l_lcT (R := rI) (g := (gName 6)) (vs := [6]) (t := (fun x464 => (decide (low454 ≤ x464)))) (f := (fun x464 => x464)) (R' := rI) (i_L (K := K) (e_var rfl r_primes)) ownOk0 (g_nm (R := rI)) (fun x σ' S hp => by obtain ⟨_, rfl, _⟩ := hp; first | rfl | exact ((wipe_set (by decide)).trans wipe_wipe)) (fun x464 σ' S1 H1 g465 hp => by have w466 := w458.go g465; obtain ⟨_, rfl, rfl⟩ := hp; have r_parts := Mo.mo g465.s r_parts; have r_primes := Mo.mo g465.s r_primes; have rfirst20 := Mo.mo g465.s rfirst20; have rleft69 := Mo.mo g465.s rleft69; have rsome106 := Mo.mo g465.s rsome106; have rsigns156 := Mo.mo g465.s rsigns156; have rfound233 := Mo.mo g465.s rfound233; exact (t_Test (e_ge (e_var (R := rI) rfl rfl) (e_var (R := rI) rfl rfl)))) (fun x464 σ' S1 H1 g465 hp => by have w466 := w458.go g465; obtain ⟨_, rfl, rfl⟩ := hp; have r_parts := Mo.mo g465.s r_parts; have r_primes := Mo.mo g465.s r_primes; have rfirst20 := Mo.mo g465.s rfirst20; have rleft69 := Mo.mo g465.s rleft69; have rsome106 := Mo.mo g465.s rsome106; have rsigns156 := Mo.mo g465.s rsigns156; have rfound233 := Mo.mo g465.s rfound233; exact (e_var (R := rI) rfl rfl)) pm_nm))) (d_T (ds_all d_I))))) hm460 ?_ ?_
                        · intro S467 H468 s469 w470 p471 g472 hm473
                          have r_parts := Mo.mo g472.s r_parts
                          have r_primes := Mo.mo g472.s r_primes
                          have rfirst20 := Mo.mo g472.s rfirst20
                          have rleft69 := Mo.mo g472.s rleft69
                          have rsome106 := Mo.mo g472.s rsome106
                          have rsigns156 := Mo.mo g472.s rsigns156
                          have rfound233 := Mo.mo g472.s rfound233
                          refine q_ret w470 p471 e_cB hm473 ?_
                          intro r481 v482 S474 H475 s476 w477 p478 g480 rr483 hm479
                          cases run_of_pure hm479
                          exact fin _ ⟨S474, w477.g, p478, rr483⟩
                        · intro S484 H485 s486 w487 p488 g489 hm490
                          have r_parts := Mo.mo g489.s r_parts
                          have r_primes := Mo.mo g489.s r_primes
                          have rfirst20 := Mo.mo g489.s rfirst20
                          have rleft69 := Mo.mo g489.s rleft69
                          have rsome106 := Mo.mo g489.s rsome106
                          have rsigns156 := Mo.mo g489.s rsigns156
                          have rfound233 := Mo.mo g489.s rfound233
                          refine nx_done ?_
                          refine q_set (fun v => [some (.ref i.a), some (.int p_x), some v_parts, some v_primes, some (.int k1), some vfirst19, xp398, some (.int great265), some (.int due278), some (.int low454), some v, none, some vleft68, some vsome105, some vsigns155, some vfound232, some (.int st337.1), some (.int st337.2), none, none, none, none, none]) (fun _ => rfl) w487 p488 (Ev.eta (e_callP (F := fun i => potPt i) (i := i) (A := fun i => (aCons (rP i) (aOne rI))) (E := E0) (fm := fm__law_of) (R := rI) (a_cons (e_var (R := rP i) (a := ()) rfl rfl) (a_one (c_max2 e_cI (c_lenL (Ev.rd (e_var rfl r_primes)))))))) hm490 ?_
                          intro at491 vat499 S492 H493 s494 w495 p496 g498 rat500 hm497
                          cases (show vat499 = .int at491 from rat500)
                          have r_parts := Mo.mo g498.s r_parts
                          have r_primes := Mo.mo g498.s r_primes
                          have rfirst20 := Mo.mo g498.s rfirst20
                          have rleft69 := Mo.mo g498.s rleft69
                          have rsome106 := Mo.mo g498.s rsome106
                          have rsigns156 := Mo.mo g498.s rsigns156
                          have rfound233 := Mo.mo g498.s rfound233
                          refine q_if w495 p496 (t_and (t_Test (e_neQ (q_L (qs_all q_I)) (by decide) (Ev.Q (e_var rfl r_primes) (d_L (ds_all d_I))) (EvR.Q (EvL.rd (l_lstL (a_nilL (R := rI)))) (ds_all d_I)))) (t_Test (e_neW (c_repr (EvL.frz (l_lstL (a_consL (Ev.eta (e_call (E := E0) (fm := fm_prime_at) (R := rI) (a_one (e_var (R := rI) rfl rfl)))) (a_consL (e_callK (E := E0) (n := 0) (m' := 1) (ix := [0]) (fm := fm_prime_at) (A := (aOne rI)) (A1 := aNil) (A2 := (aOne rI)) (R := rI) (fun a b => b) a_nil (a_one (e_var (R := rI) rfl rfl)) (fun a b vs zs S h1 h2 => by obtain rfl := h1; obtain ⟨_, rfl, y0⟩ := h2; exact ⟨rfl, rfl, ⟨_, rfl, y0⟩⟩)) (a_nilL (R := rI)))))) (d_L (ds_all d_I))) (c_repr (EvL.frz (l_rep (EvL.rd (l_lstL (a_consL (e_ixL (Ev.rd (e_var rfl r_primes)) (e_var (R := rI) rfl rfl)) (a_nilL (R := rI))))) e_cI)) (d_L (ds_all d_I)))))) hm497 ?_ ?_
                          · intro S501 H502 s503 w504 p505 g506 hm507
                            have r_parts := Mo.mo g506.s r_parts
                            have r_primes := Mo.mo g506.s r_primes
                            have rfirst20 := Mo.mo g506.s rfirst20
                            have rleft69 := Mo.mo g506.s rleft69
                            have rsome106 := Mo.mo g506.s rsome106
                            have rsigns156 := Mo.mo g506.s rsigns156
                            have rfound233 := Mo.mo g506.s rfound233
                            refine q_ret w504 p505 e_cB hm507 ?_
                            intro r515 v516 S508 H509 s510 w511 p512 g514 rr517 hm513
                            cases run_of_pure hm513
                            exact fin _ ⟨S508, w511.g, p512, rr517⟩
                          · intro S518 H519 s520 w521 p522 g523 hm524
                            have r_parts := Mo.mo g523.s r_parts
                            have r_primes := Mo.mo g523.s r_primes
                            have rfirst20 := Mo.mo g523.s rfirst20
                            have rleft69 := Mo.mo g523.s rleft69
                            have rsome106 := Mo.mo g523.s rsome106
                            have rsigns156 := Mo.mo g523.s rsigns156
                            have rfound233 := Mo.mo g523.s rfound233
                            refine nx_done ?_
                            refine q_set (fun v => [some (.ref i.a), some (.int p_x), some v_parts, some v_primes, some (.int k1), some vfirst19, xp398, some (.int great265), some (.int due278), some (.int low454), some (.int at491), some v, some vleft68, some vsome105, some vsigns155, some vfound232, some (.int st337.1), some (.int st337.2), none, none, none, none, none]) (fun _ => rfl) w521 p522 (Ev.eta (e_call (E := E0) (fm := fm_doubling_chain) (R := (rT K (aAll rI))) (a_one (e_var (R := rI) rfl rfl)))) hm524 ?_
                            intro chain525 vchain533 S526 H527 s528 w529 p530 g532 rchain534 hm531
                            have r_parts := Mo.mo g532.s r_parts
                            have r_primes := Mo.mo g532.s r_primes
                            have rfirst20 := Mo.mo g532.s rfirst20
                            have rleft69 := Mo.mo g532.s rleft69
                            have rsome106 := Mo.mo g532.s rsome106
                            have rsigns156 := Mo.mo g532.s rsigns156
                            have rfound233 := Mo.mo g532.s rfound233
                            refine q_if w529 p530 (t_or (t_Test (e_notN (Ev.eta (e_call (E := E0) (fm := fm_doubling_error) (R := (rO (rU rS (rT K (aCons rS (aOne rI)))))) (a_cons (e_var (R := rI) rfl rfl) (a_one (e_var rfl rchain534))))))) (t_or (t_Test (e_ne (e_ixT (e_var rfl rchain534) e_cI) e_cI)) (t_Test (e_le (e_ixT (e_var rfl rchain534) (e_neg e_cI)) (e_var (R := rI) rfl rfl))))) hm531 ?_ ?_
                            · intro S535 H536 s537 w538 p539 g540 hm541
                              have r_parts := Mo.mo g540.s r_parts
                              have r_primes := Mo.mo g540.s r_primes
                              have rfirst20 := Mo.mo g540.s rfirst20
                              have rleft69 := Mo.mo g540.s rleft69
                              have rsome106 := Mo.mo g540.s rsome106
                              have rsigns156 := Mo.mo g540.s rsigns156
                              have rfound233 := Mo.mo g540.s rfound233
                              have rchain534 := Mo.mo g540.s rchain534
                              refine q_ret w538 p539 e_cB hm541 ?_
                              intro r549 v550 S542 H543 s544 w545 p546 g548 rr551 hm547
                              cases run_of_pure hm547
                              exact fin _ ⟨S542, w545.g, p546, rr551⟩
                            · intro S552 H553 s554 w555 p556 g557 hm558
                              have r_parts := Mo.mo g557.s r_parts
                              have r_primes := Mo.mo g557.s r_primes
                              have rfirst20 := Mo.mo g557.s rfirst20
                              have rleft69 := Mo.mo g557.s rleft69
                              have rsome106 := Mo.mo g557.s rsome106
                              have rsigns156 := Mo.mo g557.s rsigns156
                              have rfound233 := Mo.mo g557.s rfound233
                              have rchain534 := Mo.mo g557.s rchain534
                              refine nx_done ?_
                              refine q_ret w555 p556 (e_eqQ (q_L (qs_all q_I)) (by decide) (EvR.Q (EvL.rd (l_lc (R := rI) (g := (gName 19)) (γ := Int) (vs := [19]) (mt := fun x559 k => Mir.lft (L2.atI chain525 (x559 - (1 : Int))) >>= fun y567 => Mir.lft (L2.atI chain525 x559) >>= fun y568 => (if (decide (y567 < y568)) = true then Mir.lft (L2.atI chain525 (x559 - (1 : Int))) >>= fun y569 => Mir.lft (grd (Sm (2 : Int) ∧ Sm y569)) >>= fun _ => pure (decide (y568 < ((2 : Int) * y569))) else pure false) >>= fun b566 => k (!b566)) (me := fun x559 k => k x559) (R' := rI) (i_R2 e_cI (c_lenT (e_var rfl rchain534))) ownOk0 (g_nm (R := rI)) (fun x σ' S hp => by obtain ⟨_, rfl, _⟩ := hp; first | rfl | exact ((wipe_set (by decide)).trans wipe_wipe)) (fun x559 σ' S1 H1 g560 hp => by have w561 := w555.go g560; obtain ⟨_, rfl, rfl⟩ := hp; have r_parts := Mo.mo g560.s r_parts; have r_primes := Mo.mo g560.s r_primes; have rfirst20 := Mo.mo g560.s rfirst20; have rleft69 := Mo.mo g560.s rleft69; have rsome106 := Mo.mo g560.s rsome106; have rsigns156 := Mo.mo g560.s rsigns156; have rfound233 := Mo.mo g560.s rfound233; have rchain534 := Mo.mo g560.s rchain534; exact (t_not (t_Test (e_chain ci_lt ci_lt (e_ixT (e_var rfl rchain534) (e_sub (e_var (R := rI) rfl rfl) e_cI)) (e_ixT (e_var rfl rchain534) (e_var (R := rI) rfl rfl)) (e_mul e_cI (e_ixT (e_var rfl rchain534) (e_sub (e_var (R := rI) rfl rfl) e_cI))))))) (fun x559 σ' S1 H1 g560 hp => by have w561 := w555.go g560; obtain ⟨_, rfl, rfl⟩ := hp; have r_parts := Mo.mo g560.s r_parts; have r_primes := Mo.mo g560.s r_primes; have rfirst20 := Mo.mo g560.s rfirst20; have rleft69 := Mo.mo g560.s rleft69; have rsome106 := Mo.mo g560.s rsome106; have rsigns156 := Mo.mo g560.s rsigns156; have rfound233 := Mo.mo g560.s rfound233; have rchain534 := Mo.mo g560.s rchain534; exact (e_var (R := rI) rfl rfl)) pm_nm)) (ds_all d_I)) (EvR.Q (EvL.rd (l_lstL (a_nilL (R := rI)))) (ds_all d_I))) hm558 ?_
                              intro r577 v578 S570 H571 s572 w573 p574 g576 rr579 hm575
                              cases run_of_pure hm575
                              exact fin _ ⟨S570, w573.g, p574, rr579⟩
      · intro S622 H623 s624 w625 p626 g627 hm628
        have r_parts := Mo.mo g627.s r_parts
        have r_primes := Mo.mo g627.s r_primes
        have rfirst20 := Mo.mo g627.s rfirst20
        refine nx_done ?_
        refine par_go ?_
        refine x_ev w625 p626 (Ev.eta (e_call (E := E0) (fm := fm_struck_signs) (R := (rT K (aAll (rT K (aCons rI (aOne rI)))))) (a_one (e_var (R := rI) rfl rfl)))) hm628 ?_
        intro signs629 vsigns637 S630 H631 s632 w633 p634 g636 rsigns638 hm635
        have r_parts := Mo.mo g636.s r_parts
        have r_primes := Mo.mo g636.s r_primes
        have rfirst20 := Mo.mo g636.s rfirst20
        refine x_ev w633 p634 (EvL.frz (l_lstL (a_consL (e_tupP (a_cons e_cI (a_one e_cI)) (arN_cons arN_one) (by decide)) (a_nilL (R := (rPT (aCons rI (aOne rI)))))))) hm635 ?_
        intro found639 vfound647 S640 H641 s642 w643 p644 g646 rfound648 hm645
        have r_parts := Mo.mo g646.s r_parts
        have r_primes := Mo.mo g646.s r_primes
        have rfirst20 := Mo.mo g646.s rfirst20
        have rsigns638 := Mo.mo g646.s rsigns638
        refine par_end [some (.ref i.a), some (.int p_x), some v_parts, some v_primes, some (.int k1), some vfirst19, none, none, none, none, none, none, none, none, some vsigns637, some vfound647, none, none, none, none, none, none, none] rfl ?_
        refine q_for (p := (potPt i)) w643 p644 (i_L (K := K) (e_var rfl rfirst20)) (g_nm (R := rI)) hm645 (fun Sb650 st649 σ S' H' s' => Ex Sb650 S' ∧ (∃ (xp_ : Option V) (vfound_ : V), σ = [some (.ref i.a), some (.int p_x), some v_parts, some v_primes, some (.int k1), some vfirst19, xp_, none, none, none, none, none, none, none, some vsigns637, some vfound_, none, none, none, none, none, none, none] ∧ Wd (potPt i) S0 H0 S' H' [] ∧ PotAt (potPt i) s' S' H' ∧ Ex S640 S' ∧ (rL (aAll (rPT (aCons rI (aOne rI))))) st649 vfound_ S')) ?_ ?_ ?_ ?_ ?_
        · intro S652 H653 s654 w655 p656 g657
          have r_parts := Mo.mo g657.s r_parts
          have r_primes := Mo.mo g657.s r_primes
          have rfirst20 := Mo.mo g657.s rfirst20
          have rsigns638 := Mo.mo g657.s rsigns638
          have rfound648 := Mo.mo g657.s rfound648
          exact ⟨Ex.rf, ⟨_, _, rfl, w655, p656, g657.s, rfound648⟩⟩
        · rintro Sb650 st649 _ S664 H665 s666 ⟨ex667, ⟨xp658, vfound659, rfl, w661, p662, eb663, rfound660⟩⟩
          exact ⟨ex667, w661.i, p662, ownOk0⟩
        · rintro Sb650 st649 _ S674 H675 s676 S677 H678 ⟨ex680, ⟨xp668, vfound669, rfl, w671, p672, eb673, rfound670⟩⟩ g679
          exact ⟨ex680.tr g679.s, _, _, rfl, w671.go (Gm.up g679), PotAt.go p672 g679, eb673.tr g679.s, Mo.mo g679.s rfound670⟩
        · rintro Sb650 x651 st649 _ σ695 S687 H688 s689 st649_ s2_ D_ ⟨ex694, ⟨xp681, vfound682, rfl, w684, p685, eb686, rfound683⟩⟩ hp hm690 nx691
          obtain ⟨_, rfl, rfl⟩ := hp
          have r_parts := Mo.mo eb686 r_parts
          have r_primes := Mo.mo eb686 r_primes
          have rfirst20 := Mo.mo eb686 rfirst20
          have rsigns638 := Mo.mo eb686 rsigns638
          refine q_set (fun v => [some (.ref i.a), some (.int p_x), some v_parts, some v_primes, some (.int k1), some vfirst19, some (.int x651), none, none, none, none, none, none, none, some vsigns637, some v, none, none, none, none, none, none, none]) (fun _ => rfl) w684 p685 (EvL.frz (l_cat (Ev.rd (e_var rfl rfound683)) (EvL.rd (l_lc1 (R := (rPT (aCons rI (aOne rI)))) (g := (gTup K 2 (gCons (gName 21) (gCons (gName 22) gNil)))) (γ := (Int × Int)) (vs := [21, 22]) (me := fun x699 k => Mir.lft (grd (Sm x651 ∧ Sm x699.1)) >>= fun _ => k ((x651 * x699.1), (-x699.2))) (R' := (rPT (aCons rI (aOne rI)))) (i_L (K := K) (e_var rfl rfound683)) ownOk0 (g_pt (g_tp (gq_cons (g_nm (R := rI)) (gq_one (g_nm (R := rI)))))) (fun x σ' S hp => by obtain ⟨_, ⟨_, rfl, _⟩, ⟨_, rfl, _⟩⟩ := hp; first | rfl | exact ((wipe_set (by decide)).trans ((wipe_set (by decide)).trans wipe_wipe))) (fun x699 σ' S1 H1 g700 hp => by have w701 := w684.go g700; obtain ⟨_, ⟨_, rfl, rfl⟩, ⟨_, rfl, rfl⟩⟩ := hp; have r_parts := Mo.mo g700.s r_parts; have r_primes := Mo.mo g700.s r_primes; have rfirst20 := Mo.mo g700.s rfirst20; have rsigns638 := Mo.mo g700.s rsigns638; have rfound683 := Mo.mo g700.s rfound683; exact (e_tupP (a_cons (e_mul (e_var (R := rI) rfl rfl) (e_var (R := rI) rfl rfl)) (a_one (e_neg (e_var (R := rI) rfl rfl)))) (arN_cons arN_one) (by decide))) (pm_cons pm_nm pm_nm))))) hm690 ?_
          intro found702 vfound710 S703 H704 s705 w706 p707 g709 rfound711 hm708
          have r_parts := Mo.mo g709.s r_parts
          have r_primes := Mo.mo g709.s r_primes
          have rfirst20 := Mo.mo g709.s rfirst20
          have rsigns638 := Mo.mo g709.s rsigns638
          have eb686 := eb686.tr g709.s
          have ex694 := ex694.tr g709.s
          cases run_of_pure hm708
          exact (nx691 _ _ _ ⟨ex694, ⟨_, _, rfl, w706, p707, eb686, rfound711⟩⟩).1
        · rintro Sb650 st649 _ S719 H720 s721 ⟨_, ⟨xp713, vfound714, rfl, w716, p717, eb718, rfound715⟩⟩ hm722
          have r_parts := Mo.mo eb718 r_parts
          have r_primes := Mo.mo eb718 r_primes
          have rfirst20 := Mo.mo eb718 rfirst20
          have rsigns638 := Mo.mo eb718 rsigns638
          refine q_if w716 p717 (t_Test (e_neQ (q_T (qs_all (q_T (qs_cons q_I (qs_one q_I))))) (by decide) (Ev.Q (e_var rfl rsigns638) (d_T (ds_all (d_T (ds_cons d_I (ds_one d_I)))))) (Ev.Q (c_tup (K := K) (EvL.rd (l_srtP (K := K) (Ev.rd (e_var rfl rfound715))))) (d_T (ds_all (d_T (ds_cons d_I (ds_one d_I)))))))) hm722 ?_ ?_
          · intro S723 H724 s725 w726 p727 g728 hm729
            have r_parts := Mo.mo g728.s r_parts
            have r_primes := Mo.mo g728.s r_primes
            have rfirst20 := Mo.mo g728.s rfirst20
            have rsigns638 := Mo.mo g728.s rsigns638
            have rfound715 := Mo.mo g728.s rfound715
            refine q_ret w726 p727 e_cB hm729 ?_
            intro r737 v738 S730 H731 s732 w733 p734 g736 rr739 hm735
            cases run_of_pure hm735
            exact fin _ ⟨S730, w733.g, p734, rr739⟩
          · intro S740 H741 s742 w743 p744 g745 hm746
            have r_parts := Mo.mo g745.s r_parts
            have r_primes := Mo.mo g745.s r_primes
            have rfirst20 := Mo.mo g745.s rfirst20
            have rsigns638 := Mo.mo g745.s rsigns638
            have rfound715 := Mo.mo g745.s rfound715
            refine nx_done ?_
            refine q_set (fun v => [some (.ref i.a), some (.int p_x), some v_parts, some v_primes, some (.int k1), some vfirst19, xp713, some v, none, none, none, none, none, none, some vsigns637, some vfound714, none, none, none, none, none, none, none]) (fun _ => rfl) w743 p744 (e_mul (Ev.eta (e_callP (F := fun i => potPt i) (i := i) (A := fun i => (aCons (rP i) (aOne rI))) (E := E0) (fm := fm__law_of) (R := rI) (a_cons (e_var (R := rP i) (a := ()) rfl rfl) (a_one (e_pow e_cI e_cI))))) (Ev.eta (e_callP (F := fun i => potPt i) (i := i) (A := fun i => (aCons (rP i) (aOne (rL (aAll rI))))) (E := E0) (fm := fm__law_one) (R := rI) (a_cons (e_var (R := rP i) (a := ()) rfl rfl) (a_one (EvL.frz (l_lstL (a_consL e_cI (a_consL (e_pow e_cI e_cI) (a_consL (e_pow e_cI e_cI) (a_nilL (R := rI)))))))))))) hm746 ?_
            intro great747 vgreat755 S748 H749 s750 w751 p752 g754 rgreat756 hm753
            cases (show vgreat755 = .int great747 from rgreat756)
            have r_parts := Mo.mo g754.s r_parts
            have r_primes := Mo.mo g754.s r_primes
            have rfirst20 := Mo.mo g754.s rfirst20
            have rsigns638 := Mo.mo g754.s rsigns638
            have rfound715 := Mo.mo g754.s rfound715
            refine q_set (fun v => [some (.ref i.a), some (.int p_x), some v_parts, some v_primes, some (.int k1), some vfirst19, xp713, some (.int great747), some v, none, none, none, none, none, some vsigns637, some vfound714, none, none, none, none, none, none, none]) (fun _ => rfl) w751 p752 (c_sum (EvL.rd (l_lc1 (R := (rPT (aCons rI (aOne rI)))) (g := (gTup K 2 (gCons (gName 21) (gCons (gName 22) gNil)))) (γ := Int) (vs := [21, 22]) (me := fun x757 k => Mir.lft (grd (Dv x757.1)) >>= fun _ => Mir.lft (grd (Sm x757.2 ∧ Sm (great747 / x757.1))) >>= fun _ => k (x757.2 * (great747 / x757.1))) (R' := rI) (i_L (K := K) (e_var rfl rfound715)) ownOk0 (g_pt (g_tp (gq_cons (g_nm (R := rI)) (gq_one (g_nm (R := rI)))))) (fun x σ' S hp => by obtain ⟨_, ⟨_, rfl, _⟩, ⟨_, rfl, _⟩⟩ := hp; first | rfl | exact ((wipe_set (by decide)).trans ((wipe_set (by decide)).trans wipe_wipe))) (fun x757 σ' S1 H1 g758 hp => by have w759 := w751.go g758; obtain ⟨_, ⟨_, rfl, rfl⟩, ⟨_, rfl, rfl⟩⟩ := hp; have r_parts := Mo.mo g758.s r_parts; have r_primes := Mo.mo g758.s r_primes; have rfirst20 := Mo.mo g758.s rfirst20; have rsigns638 := Mo.mo g758.s rsigns638; have rfound715 := Mo.mo g758.s rfound715; exact (e_mul (e_var (R := rI) rfl rfl) (e_fdiv (e_var (R := rI) rfl rfl) (e_var (R := rI) rfl rfl)))) (pm_cons pm_nm pm_nm)))) hm753 ?_
            intro due760 vdue768 S761 H762 s763 w764 p765 g767 rdue769 hm766
            cases (show vdue768 = .int due760 from rdue769)
            have r_parts := Mo.mo g767.s r_parts
            have r_primes := Mo.mo g767.s r_primes
            have rfirst20 := Mo.mo g767.s rfirst20
            have rsigns638 := Mo.mo g767.s rsigns638
            have rfound715 := Mo.mo g767.s rfound715
            refine q_if w764 p765 (t_Test (e_neW (c_repr (EvL.frz (l_lstL (a_consL (Ev.eta (e_call (E := E0) (fm := fm_left_number) (R := rI) (a_cons (e_var (R := rI) rfl rfl) (a_one (e_var (R := rI) rfl rfl))))) (a_consL (e_callK (E := E0) (n := 0) (m' := 2) (ix := [1, 0]) (fm := fm_left_number) (A := (aCons rI (aOne rI))) (A1 := aNil) (A2 := (aCons rI (aOne rI))) (R := rI) (fun a b => (b.2, b.1)) a_nil (a_cons (e_var (R := rI) rfl rfl) (a_one (e_var (R := rI) rfl rfl))) (fun a b vs zs S h1 h2 => by obtain rfl := h1; obtain ⟨_, _, rfl, y0, ⟨_, rfl, y1⟩⟩ := h2; exact ⟨rfl, rfl, ⟨_, _, rfl, y1, ⟨_, rfl, y0⟩⟩⟩)) (a_nilL (R := rI)))))) (d_L (ds_all d_I))) (c_repr (EvL.frz (l_lstL (a_consL (e_var (R := rI) rfl rfl) (a_consL (e_var (R := rI) rfl rfl) (a_nilL (R := rI)))))) (d_L (ds_all d_I))))) hm766 ?_ ?_
            · intro S770 H771 s772 w773 p774 g775 hm776
              have r_parts := Mo.mo g775.s r_parts
              have r_primes := Mo.mo g775.s r_primes
              have rfirst20 := Mo.mo g775.s rfirst20
              have rsigns638 := Mo.mo g775.s rsigns638
              have rfound715 := Mo.mo g775.s rfound715
              refine q_ret w773 p774 e_cB hm776 ?_
              intro r784 v785 S777 H778 s779 w780 p781 g783 rr786 hm782
              cases run_of_pure hm782
              exact fin _ ⟨S777, w780.g, p781, rr786⟩
            · intro S787 H788 s789 w790 p791 g792 hm793
              have r_parts := Mo.mo g792.s r_parts
              have r_primes := Mo.mo g792.s r_primes
              have rfirst20 := Mo.mo g792.s rfirst20
              have rsigns638 := Mo.mo g792.s rsigns638
              have rfound715 := Mo.mo g792.s rfound715
              refine nx_done ?_
              refine tup2_go ?_
              refine x_ev w790 p791 e_cI hm793 ?_
              intro size794 vsize802 S795 H796 s797 w798 p799 g801 rsize803 hm800
              cases (show vsize802 = .int size794 from rsize803)
              have r_parts := Mo.mo g801.s r_parts
              have r_primes := Mo.mo g801.s r_primes
              have rfirst20 := Mo.mo g801.s rfirst20
              have rsigns638 := Mo.mo g801.s rsigns638
              have rfound715 := Mo.mo g801.s rfound715
              refine x_ev w798 p799 e_cI hm800 ?_
              intro rest804 vrest812 S805 H806 s807 w808 p809 g811 rrest813 hm810
              cases (show vrest812 = .int rest804 from rrest813)
              have r_parts := Mo.mo g811.s r_parts
              have r_primes := Mo.mo g811.s r_primes
              have rfirst20 := Mo.mo g811.s rfirst20
              have rsigns638 := Mo.mo g811.s rsigns638
              have rfound715 := Mo.mo g811.s rfound715
              refine tup_end (is := [16, 17]) [some (.ref i.a), some (.int p_x), some v_parts, some v_primes, some (.int k1), some vfirst19, xp713, some (.int great747), some (.int due760), none, none, none, none, none, some vsigns637, some vfound714, some (.int size794), some (.int rest804), none, none, none, none, none] w808 p809 rfl (by simp) rfl ?_
              intro S814 H815 w816 p817 g818
              have r_parts := Mo.mo g818.s r_parts
              have r_primes := Mo.mo g818.s r_primes
              have rfirst20 := Mo.mo g818.s rfirst20
              have rsigns638 := Mo.mo g818.s rsigns638
              have rfound715 := Mo.mo g818.s rfound715
              refine q_for (p := (potPt i)) w816 p817 (i_L (K := K) (e_var rfl rfirst20)) (g_nm (R := rI)) hm810 (fun Sb820 st819 σ S' H' s' => Ex Sb820 S' ∧ (∃ (xp_ : Option V), σ = [some (.ref i.a), some (.int p_x), some v_parts, some v_primes, some (.int k1), some vfirst19, xp_, some (.int great747), some (.int due760), none, none, none, none, none, some vsigns637, some vfound714, some (.int st819.1), some (.int st819.2), none, none, none, none, none] ∧ Wd (potPt i) S0 H0 S' H' [] ∧ PotAt (potPt i) s' S' H' ∧ Ex S814 S')) ?_ ?_ ?_ ?_ ?_
              · intro S822 H823 s824 w825 p826 g827
                have r_parts := Mo.mo g827.s r_parts
                have r_primes := Mo.mo g827.s r_primes
                have rfirst20 := Mo.mo g827.s rfirst20
                have rsigns638 := Mo.mo g827.s rsigns638
                have rfound715 := Mo.mo g827.s rfound715
                exact ⟨Ex.rf, ⟨_, rfl, w825, p826, g827.s⟩⟩
              · rintro Sb820 st819 _ S832 H833 s834 ⟨ex835, ⟨xp828, rfl, w829, p830, eb831⟩⟩
                exact ⟨ex835, w829.i, p830, ownOk0⟩
              · rintro Sb820 st819 _ S840 H841 s842 S843 H844 ⟨ex846, ⟨xp836, rfl, w837, p838, eb839⟩⟩ g845
                exact ⟨ex846.tr g845.s, _, rfl, w837.go (Gm.up g845), PotAt.go p838 g845, eb839.tr g845.s⟩
              · rintro Sb820 x821 st819 _ σ859 S851 H852 s853 st819_ s2_ D_ ⟨ex858, ⟨xp847, rfl, w848, p849, eb850⟩⟩ hp hm854 nx855
                obtain ⟨_, rfl, rfl⟩ := hp
                have r_parts := Mo.mo eb850 r_parts
                have r_primes := Mo.mo eb850 r_primes
                have rfirst20 := Mo.mo eb850 rfirst20
                have rsigns638 := Mo.mo eb850 rsigns638
                have rfound715 := Mo.mo eb850 rfound715
                refine par_go ?_
                refine x_ev w848 p849 (e_mul (e_var (R := rI) rfl rfl) (e_var (R := rI) rfl rfl)) hm854 ?_
                intro size860 vsize868 S861 H862 s863 w864 p865 g867 rsize869 hm866
                cases (show vsize868 = .int size860 from rsize869)
                have r_parts := Mo.mo g867.s r_parts
                have r_primes := Mo.mo g867.s r_primes
                have rfirst20 := Mo.mo g867.s rfirst20
                have rsigns638 := Mo.mo g867.s rsigns638
                have rfound715 := Mo.mo g867.s rfound715
                have eb850 := eb850.tr g867.s
                have ex858 := ex858.tr g867.s
                refine x_ev w864 p865 (e_mul (e_var (R := rI) rfl rfl) (e_sub (e_var (R := rI) rfl rfl) e_cI)) hm866 ?_
                intro rest870 vrest878 S871 H872 s873 w874 p875 g877 rrest879 hm876
                cases (show vrest878 = .int rest870 from rrest879)
                have r_parts := Mo.mo g877.s r_parts
                have r_primes := Mo.mo g877.s r_primes
                have rfirst20 := Mo.mo g877.s rfirst20
                have rsigns638 := Mo.mo g877.s rsigns638
                have rfound715 := Mo.mo g877.s rfound715
                have eb850 := eb850.tr g877.s
                have ex858 := ex858.tr g877.s
                refine par_end [some (.ref i.a), some (.int p_x), some v_parts, some v_primes, some (.int k1), some vfirst19, some (.int x821), some (.int great747), some (.int due760), none, none, none, none, none, some vsigns637, some vfound714, some (.int size860), some (.int rest870), none, none, none, none, none] rfl ?_
                cases run_of_pure hm876
                exact (nx855 _ _ _ ⟨ex858, ⟨_, rfl, w874, p875, eb850⟩⟩).1
              · rintro Sb820 st819 _ S884 H885 s886 ⟨_, ⟨xp880, rfl, w881, p882, eb883⟩⟩ hm887
                have r_parts := Mo.mo eb883 r_parts
                have r_primes := Mo.mo eb883 r_primes
                have rfirst20 := Mo.mo eb883 rfirst20
                have rsigns638 := Mo.mo eb883 rsigns638
                have rfound715 := Mo.mo eb883 rfound715
                refine q_if w881 p882 (t_or (t_Test (e_ne (Ev.eta (e_call (E := E0) (fm := fm_left_in_round) (R := rI) (a_one (e_var (R := rI) rfl rfl)))) (e_var (R := rI) rfl rfl))) (t_and (t_Test (e_le (e_add (e_var (R := rI) rfl rfl) (e_var (R := rI) rfl rfl)) (e_pow e_cI e_cI))) (t_Test (e_ne (Ev.eta (e_call (E := E0) (fm := fm_left_number) (R := rI) (a_cons (e_add (e_var (R := rI) rfl rfl) (e_var (R := rI) rfl rfl)) (a_one (e_var (R := rI) rfl rfl))))) (e_add (e_var (R := rI) rfl rfl) (e_var (R := rI) rfl rfl)))))) hm887 ?_ ?_
                · intro S888 H889 s890 w891 p892 g893 hm894
                  have r_parts := Mo.mo g893.s r_parts
                  have r_primes := Mo.mo g893.s r_primes
                  have rfirst20 := Mo.mo g893.s rfirst20
                  have rsigns638 := Mo.mo g893.s rsigns638
                  have rfound715 := Mo.mo g893.s rfound715
                  refine q_ret w891 p892 e_cB hm894 ?_
                  intro r902 v903 S895 H896 s897 w898 p899 g901 rr904 hm900
                  cases run_of_pure hm900
                  exact fin _ ⟨S895, w898.g, p899, rr904⟩
                · intro S905 H906 s907 w908 p909 g910 hm911
                  have r_parts := Mo.mo g910.s r_parts
                  have r_primes := Mo.mo g910.s r_primes
                  have rfirst20 := Mo.mo g910.s rfirst20
                  have rsigns638 := Mo.mo g910.s rsigns638
                  have rfound715 := Mo.mo g910.s rfound715
                  refine nx_done ?_
                  refine q_if w908 p909 (t_and (t_Test (e_gt (e_var (R := rI) rfl rfl) e_cI)) (t_Test (e_ne (e_sub (Ev.eta (e_call (E := E0) (fm := fm_left_number) (R := rI) (a_cons (e_var (R := rI) rfl rfl) (a_one (e_sub (e_var (R := rI) rfl rfl) e_cI))))) (Ev.eta (e_call (E := E0) (fm := fm_left_number) (R := rI) (a_cons (e_fdiv (e_var (R := rI) rfl rfl) (e_ixL (Ev.rd (e_var rfl rfirst20)) (e_neg e_cI))) (a_one (e_sub (e_var (R := rI) rfl rfl) e_cI)))))) (e_var (R := rI) rfl rfl)))) hm911 ?_ ?_
                  · intro S912 H913 s914 w915 p916 g917 hm918
                    have r_parts := Mo.mo g917.s r_parts
                    have r_primes := Mo.mo g917.s r_primes
                    have rfirst20 := Mo.mo g917.s rfirst20
                    have rsigns638 := Mo.mo g917.s rsigns638
                    have rfound715 := Mo.mo g917.s rfound715
                    refine q_ret w915 p916 e_cB hm918 ?_
                    intro r926 v927 S919 H920 s921 w922 p923 g925 rr928 hm924
                    cases run_of_pure hm924
                    exact fin _ ⟨S919, w922.g, p923, rr928⟩
                  · intro S929 H930 s931 w932 p933 g934 hm935
                    have r_parts := Mo.mo g934.s r_parts
                    have r_primes := Mo.mo g934.s r_primes
                    have rfirst20 := Mo.mo g934.s rfirst20
                    have rsigns638 := Mo.mo g934.s rsigns638
                    have rfound715 := Mo.mo g934.s rfound715
                    refine nx_done ?_
                    refine q_set (fun v => [some (.ref i.a), some (.int p_x), some v_parts, some v_primes, some (.int k1), some vfirst19, xp880, some (.int great747), some (.int due760), some v, none, none, none, none, some vsigns637, some vfound714, some (.int st819.1), some (.int st819.2), none, none, none, none, none]) (fun _ => rfl) w932 p933 (e_add e_cI (Ev.eta (e_callP (F := fun i => potPt i) (i := i) (A := fun i => (aCons (rP i) (aOne rI))) (E := E0) (fm := fm__law_of) (R := rI) (a_cons (e_var (R := rP i) (a := ()) rfl rfl) (a_one (e_var (R := rI) rfl rfl)))))) hm935 ?_
                    intro low936 vlow944 S937 H938 s939 w940 p941 g943 rlow945 hm942
                    cases (show vlow944 = .int low936 from rlow945)
                    have r_parts := Mo.mo g943.s r_parts
                    have r_primes := Mo.mo g943.s r_primes
                    have rfirst20 := Mo.mo g943.s rfirst20
                    have rsigns638 := Mo.mo g943.s rsigns638
                    have rfound715 := Mo.mo g943.s rfound715
                    refine q_if w940 p941 (t_Test (e_neQ (q_T (qs_all q_I)) (by decide) (Ev.Q (Ev.eta (e_call (E := E0) (fm := fm_primes_between) (R := (rT K (aAll rI))) (a_cons (e_var (R := rI) rfl rfl) (a_one (e_ifT (R := rI) (t_Test (e_ge (e_var (R := rI) rfl rfl) (e_var (R := rI) rfl rfl))) (e_var (R := rI) rfl rfl) (e_var (R := rI) rfl rfl)))))) (d_T (ds_all d_I))) (Ev.Q (c_tup (K := K) (EvL.rd (l_lcT (R := rI) (g := (gName 6)) (vs := [6]) (t := (fun x946 => (decide (low936 ≤ x946)))) (f := (fun x946 => x946)) (R' := rI) (i_L (K := K) (e_var rfl r_primes)) ownOk0 (g_nm (R := rI)) (fun x σ' S hp => by obtain ⟨_, rfl, _⟩ := hp; first | rfl | exact ((wipe_set (by decide)).trans wipe_wipe)) (fun x946 σ' S1 H1 g947 hp => by have w948 := w940.go g947; obtain ⟨_, rfl, rfl⟩ := hp; have r_parts := Mo.mo g947.s r_parts; have r_primes := Mo.mo g947.s r_primes; have rfirst20 := Mo.mo g947.s rfirst20; have rsigns638 := Mo.mo g947.s rsigns638; have rfound715 := Mo.mo g947.s rfound715; exact (t_Test (e_ge (e_var (R := rI) rfl rfl) (e_var (R := rI) rfl rfl)))) (fun x946 σ' S1 H1 g947 hp => by have w948 := w940.go g947; obtain ⟨_, rfl, rfl⟩ := hp; have r_parts := Mo.mo g947.s r_parts; have r_primes := Mo.mo g947.s r_primes; have rfirst20 := Mo.mo g947.s rfirst20; have rsigns638 := Mo.mo g947.s rsigns638; have rfound715 := Mo.mo g947.s rfound715; exact (e_var (R := rI) rfl rfl)) pm_nm))) (d_T (ds_all d_I))))) hm942 ?_ ?_
                    · intro S949 H950 s951 w952 p953 g954 hm955
                      have r_parts := Mo.mo g954.s r_parts
                      have r_primes := Mo.mo g954.s r_primes
                      have rfirst20 := Mo.mo g954.s rfirst20
                      have rsigns638 := Mo.mo g954.s rsigns638
                      have rfound715 := Mo.mo g954.s rfound715
                      refine q_ret w952 p953 e_cB hm955 ?_
                      intro r963 v964 S956 H957 s958 w959 p960 g962 rr965 hm961
                      cases run_of_pure hm961
                      exact fin _ ⟨S956, w959.g, p960, rr965⟩
                    · intro S966 H967 s968 w969 p970 g971 hm972
                      have r_parts := Mo.mo g971.s r_parts
                      have r_primes := Mo.mo g971.s r_primes
                      have rfirst20 := Mo.mo g971.s rfirst20
                      have rsigns638 := Mo.mo g971.s rsigns638
                      have rfound715 := Mo.mo g971.s rfound715
                      refine nx_done ?_
                      refine q_set (fun v => [some (.ref i.a), some (.int p_x), some v_parts, some v_primes, some (.int k1), some vfirst19, xp880, some (.int great747), some (.int due760), some (.int low936), some v, none, none, none, some vsigns637, some vfound714, some (.int st819.1), some (.int st819.2), none, none, none, none, none]) (fun _ => rfl) w969 p970 (Ev.eta (e_callP (F := fun i => potPt i) (i := i) (A := fun i => (aCons (rP i) (aOne rI))) (E := E0) (fm := fm__law_of) (R := rI) (a_cons (e_var (R := rP i) (a := ()) rfl rfl) (a_one (c_max2 e_cI (c_lenL (Ev.rd (e_var rfl r_primes)))))))) hm972 ?_
                      intro at973 vat981 S974 H975 s976 w977 p978 g980 rat982 hm979
                      cases (show vat981 = .int at973 from rat982)
                      have r_parts := Mo.mo g980.s r_parts
                      have r_primes := Mo.mo g980.s r_primes
                      have rfirst20 := Mo.mo g980.s rfirst20
                      have rsigns638 := Mo.mo g980.s rsigns638
                      have rfound715 := Mo.mo g980.s rfound715
                      refine q_if w977 p978 (t_and (t_Test (e_neQ (q_L (qs_all q_I)) (by decide) (Ev.Q (e_var rfl r_primes) (d_L (ds_all d_I))) (EvR.Q (EvL.rd (l_lstL (a_nilL (R := rI)))) (ds_all d_I)))) (t_Test (e_neW (c_repr (EvL.frz (l_lstL (a_consL (Ev.eta (e_call (E := E0) (fm := fm_prime_at) (R := rI) (a_one (e_var (R := rI) rfl rfl)))) (a_consL (e_callK (E := E0) (n := 0) (m' := 1) (ix := [0]) (fm := fm_prime_at) (A := (aOne rI)) (A1 := aNil) (A2 := (aOne rI)) (R := rI) (fun a b => b) a_nil (a_one (e_var (R := rI) rfl rfl)) (fun a b vs zs S h1 h2 => by obtain rfl := h1; obtain ⟨_, rfl, y0⟩ := h2; exact ⟨rfl, rfl, ⟨_, rfl, y0⟩⟩)) (a_nilL (R := rI)))))) (d_L (ds_all d_I))) (c_repr (EvL.frz (l_rep (EvL.rd (l_lstL (a_consL (e_ixL (Ev.rd (e_var rfl r_primes)) (e_var (R := rI) rfl rfl)) (a_nilL (R := rI))))) e_cI)) (d_L (ds_all d_I)))))) hm979 ?_ ?_
                      · intro S983 H984 s985 w986 p987 g988 hm989
                        have r_parts := Mo.mo g988.s r_parts
                        have r_primes := Mo.mo g988.s r_primes
                        have rfirst20 := Mo.mo g988.s rfirst20
                        have rsigns638 := Mo.mo g988.s rsigns638
                        have rfound715 := Mo.mo g988.s rfound715
                        refine q_ret w986 p987 e_cB hm989 ?_
                        intro r997 v998 S990 H991 s992 w993 p994 g996 rr999 hm995
                        cases run_of_pure hm995
                        exact fin _ ⟨S990, w993.g, p994, rr999⟩
                      · intro S1000 H1001 s1002 w1003 p1004 g1005 hm1006
                        have r_parts := Mo.mo g1005.s r_parts
                        have r_primes := Mo.mo g1005.s r_primes
                        have rfirst20 := Mo.mo g1005.s rfirst20
                        have rsigns638 := Mo.mo g1005.s rsigns638
                        have rfound715 := Mo.mo g1005.s rfound715
                        refine nx_done ?_
                        refine q_set (fun v => [some (.ref i.a), some (.int p_x), some v_parts, some v_primes, some (.int k1), some vfirst19, xp880, some (.int great747), some (.int due760), some (.int low936), some (.int at973), some v, none, none, some vsigns637, some vfound714, some (.int st819.1), some (.int st819.2), none, none, none, none, none]) (fun _ => rfl) w1003 p1004 (Ev.eta (e_call (E := E0) (fm := fm_doubling_chain) (R := (rT K (aAll rI))) (a_one (e_var (R := rI) rfl rfl)))) hm1006 ?_
                        intro chain1007 vchain1015 S1008 H1009 s1010 w1011 p1012 g1014 rchain1016 hm1013
                        have r_parts := Mo.mo g1014.s r_parts
                        have r_primes := Mo.mo g1014.s r_primes
                        have rfirst20 := Mo.mo g1014.s rfirst20
                        have rsigns638 := Mo.mo g1014.s rsigns638
                        have rfound715 := Mo.mo g1014.s rfound715
                        refine q_if w1011 p1012 (t_or (t_Test (e_notN (Ev.eta (e_call (E := E0) (fm := fm_doubling_error) (R := (rO (rU rS (rT K (aCons rS (aOne rI)))))) (a_cons (e_var (R := rI) rfl rfl) (a_one (e_var rfl rchain1016))))))) (t_or (t_Test (e_ne (e_ixT (e_var rfl rchain1016) e_cI) e_cI)) (t_Test (e_le (e_ixT (e_var rfl rchain1016) (e_neg e_cI)) (e_var (R := rI) rfl rfl))))) hm1013 ?_ ?_
                        · intro S1017 H1018 s1019 w1020 p1021 g1022 hm1023
                          have r_parts := Mo.mo g1022.s r_parts
                          have r_primes := Mo.mo g1022.s r_primes
                          have rfirst20 := Mo.mo g1022.s rfirst20
                          have rsigns638 := Mo.mo g1022.s rsigns638
                          have rfound715 := Mo.mo g1022.s rfound715
                          have rchain1016 := Mo.mo g1022.s rchain1016
                          refine q_ret w1020 p1021 e_cB hm1023 ?_
                          intro r1031 v1032 S1024 H1025 s1026 w1027 p1028 g1030 rr1033 hm1029
                          cases run_of_pure hm1029
                          exact fin _ ⟨S1024, w1027.g, p1028, rr1033⟩
                        · intro S1034 H1035 s1036 w1037 p1038 g1039 hm1040
                          have r_parts := Mo.mo g1039.s r_parts
                          have r_primes := Mo.mo g1039.s r_primes
                          have rfirst20 := Mo.mo g1039.s rfirst20
                          have rsigns638 := Mo.mo g1039.s rsigns638
                          have rfound715 := Mo.mo g1039.s rfound715
                          have rchain1016 := Mo.mo g1039.s rchain1016
                          refine nx_done ?_
                          refine q_ret w1037 p1038 (e_eqQ (q_L (qs_all q_I)) (by decide) (EvR.Q (EvL.rd (l_lc (R := rI) (g := (gName 19)) (γ := Int) (vs := [19]) (mt := fun x1041 k => Mir.lft (L2.atI chain1007 (x1041 - (1 : Int))) >>= fun y1049 => Mir.lft (L2.atI chain1007 x1041) >>= fun y1050 => (if (decide (y1049 < y1050)) = true then Mir.lft (L2.atI chain1007 (x1041 - (1 : Int))) >>= fun y1051 => Mir.lft (grd (Sm (2 : Int) ∧ Sm y1051)) >>= fun _ => pure (decide (y1050 < ((2 : Int) * y1051))) else pure false) >>= fun b1048 => k (!b1048)) (me := fun x1041 k => k x1041) (R' := rI) (i_R2 e_cI (c_lenT (e_var rfl rchain1016))) ownOk0 (g_nm (R := rI)) (fun x σ' S hp => by obtain ⟨_, rfl, _⟩ := hp; first | rfl | exact ((wipe_set (by decide)).trans wipe_wipe)) (fun x1041 σ' S1 H1 g1042 hp => by have w1043 := w1037.go g1042; obtain ⟨_, rfl, rfl⟩ := hp; have r_parts := Mo.mo g1042.s r_parts; have r_primes := Mo.mo g1042.s r_primes; have rfirst20 := Mo.mo g1042.s rfirst20; have rsigns638 := Mo.mo g1042.s rsigns638; have rfound715 := Mo.mo g1042.s rfound715; have rchain1016 := Mo.mo g1042.s rchain1016; exact (t_not (t_Test (e_chain ci_lt ci_lt (e_ixT (e_var rfl rchain1016) (e_sub (e_var (R := rI) rfl rfl) e_cI)) (e_ixT (e_var rfl rchain1016) (e_var (R := rI) rfl rfl)) (e_mul e_cI (e_ixT (e_var rfl rchain1016) (e_sub (e_var (R := rI) rfl rfl) e_cI))))))) (fun x1041 σ' S1 H1 g1042 hp => by have w1043 := w1037.go g1042; obtain ⟨_, rfl, rfl⟩ := hp; have r_parts := Mo.mo g1042.s r_parts; have r_primes := Mo.mo g1042.s r_primes; have rfirst20 := Mo.mo g1042.s rfirst20; have rsigns638 := Mo.mo g1042.s rsigns638; have rfound715 := Mo.mo g1042.s rfound715; have rchain1016 := Mo.mo g1042.s rchain1016; exact (e_var (R := rI) rfl rfl)) pm_nm)) (ds_all d_I)) (EvR.Q (EvL.rd (l_lstL (a_nilL (R := rI)))) (ds_all d_I))) hm1040 ?_
                          intro r1059 v1060 S1052 H1053 s1054 w1055 p1056 g1058 rr1061 hm1057
                          cases run_of_pure hm1057
                          exact fin _ ⟨S1052, w1055.g, p1056, rr1061⟩
end
abbrev t__law_pot : Stmt := top 31
theorem sc__law_pot : FnScope ["script", "cell", "cells", "mixed"] ["script"] (defScope t__law_pot) := ⟨rfl, rfl, rfl, by decide +kernel, rfl, by decide +kernel, by decide +kernel⟩
@[irreducible] noncomputable def m__law_pot (p_script : List Int) : Option PotT :=
Mir.lft (grd (List.length (cut p_script none (some (63 : Int))) ≤ 16000000)) >>= fun _ => cmp (cut p_script none (some (63 : Int))) (fun x1 => Mir.lft (grd (Sm (2 : Int) ∧ Sm (if x1 < 0 then -x1 else x1))) >>= fun _ => pure (some (((2 : Int) * (if x1 < 0 then -x1 else x1)) + (if (decide (x1 < (0 : Int))) = true then (1 : Int) else 0)))) >>= fun l96 => bnd l96 fun cells4 =>
Mir.lft (grd (Sm (73 : Int) ∧ Sm (List.length p_script : Int))) >>= fun _ => bnd ((19592 : Int) + ((73 : Int) * (List.length p_script : Int))) fun mixed14 =>
(lpS cells4 (fun (x26 : Int) (st24 : Int) =>
Mir.lft (grd (Sm st24 ∧ Sm (69069 : Int))) >>= fun _ => Mir.lft (grd (0 < (4294967291 : Int))) >>= fun _ => bnd ((((st24 * (69069 : Int)) + x26) + (11 : Int)) % (4294967291 : Int)) fun mixed65 =>
pure mixed65) mixed14) >>= fun (st24 : Int) =>
Mir.lft (grd (List.length cells4 ≤ 16000000)) >>= fun _ => cmp cells4 (fun x83 => Mir.lft (grd (Pw (10 : Int) (12 : Int))) >>= fun _ => if (decide (((10 : Int) ^ Int.toNat (12 : Int)) < x83)) = true then pure (some x83) else pure none) >>= fun l95 => bnd (PotT.mk l95 st24 0) fun r93 => pure r93
abbrev sp__law_pot (K : PySem.W.Frag) : Sp := spP potHd m__law_pot K
section
variable {P : Program} {w : World} {K : PySem.W.Frag} {mg : Str → Option Value} {base : Heap}
theorem g__law_pot (T : Tx mg base)  {f : Addr} {fd : FuncData} (F : Fun K "_law_pot" "_law_pot" t__law_pot f fd) : FnG P w K mg base CX0 1 f fd ["script"] (sp__law_pot K) := by
  refine okG0 F sc__law_pot (fun vs H Q E h => ?_) (fun cdv A outer s0_ H0 vs Q E hr gd h => ?_)
  · obtain ⟨_, _, _, _, ⟨_, rfl, _⟩, _⟩ := h
    rfl
  · obtain ⟨p_script, S0, sP, e0, ⟨v_script, rfl, r_script⟩, hf, fin0⟩ := h
    have p0 : PotAt pt0 () S0 H0 := pot0
    have hm0 : Mir.run (m__law_pot p_script) () = some (sP, ()) := by show (m__law_pot p_script).map _ = _; rw [hf]; rfl
    have w0 : Wd pt0 S0 H0 S0 H0 [] := Wd.start e0
    unfold m__law_pot at hm0
    have sc := sc__law_pot
    refine ⟨_, pss_cons (ps_par (i := 2) (j := 3) rfl sc.nd rfl rfl (by decide) rfl rfl (pa_cons (pe_lc (own := [("cell", 1)]) (g := (gName 1)) (tt := tYes) rfl sc.nd (k_pil K (pe_slice (k_sll K) (pv 0) (po_none) (po_some (pe_int)))) (blkOk_by (N := ["script", "cell", "cells", "mixed"]) (sc := defScope t__law_pot) (by decide +kernel)) (fun _ _ _ _ _ => pg_name (i := 1) sc.nd rfl (by first | exact Or.inl rfl | exact Or.inr rfl)) (fun _ _ _ _ _ => pts_nil) (fun _ _ _ _ _ => pe_op op_add (pe_op op_mulX (pe_int) (pe_callB call_abs (by rfl) T.n_abs (by decide +kernel) (pa_cons (pv 1) pa_nil))) (pe_callTy call_int1 (by rfl) T.n_int (by decide +kernel) (pa_cons (pe_cmpR op_lt (pv 1) (pe_int) (nomark _)) pa_nil)))) (pa_cons (pe_op op_add (pe_int) (pe_op op_mulX (pe_int) (pe_callB (k_len K) (by rfl) T.n_len (by decide +kernel) (pa_cons (pv 0) pa_nil)))) (pa_nil))) (by rfl)) (pss_cons (ps_for PassesOwn.never rfl (k_pil K (pv 2)) (pg_name (i := 1) sc.nd rfl (by first | exact Or.inl rfl | exact Or.inr rfl)) (pss_cons (ps_set (i := 3) sc.nd rfl (by first | exact Or.inl rfl | exact Or.inr rfl) (pe_op op_mod (pe_op op_add (pe_op op_add (pe_op op_mulX (pv 3) (pe_int)) (pv 1)) (pe_int)) (pe_int))) (pss_nil))) (pss_cons (ps_ret (pe_lst (pa_cons (pe_lc (own := [("cell", 1)]) (g := (gName 1)) rfl sc.nd (k_pil K (pv 2)) (blkOk_by (N := ["script", "cell", "cells", "mixed"]) (sc := defScope t__law_pot) (by decide +kernel)) (fun _ _ _ _ _ => pg_name (i := 1) sc.nd rfl (by first | exact Or.inl rfl | exact Or.inr rfl)) (fun _ _ _ _ _ => pts_one (pt_cmpR op_gt (pv 1) (pe_op op_pow (pe_int) (pe_int)) (nomark _))) (fun _ _ _ _ _ => pv 1)) (pa_cons (pv 3) (pa_cons pe_int pa_nil))))) (pss_nil))), ?_⟩
    refine par_go ?_
    refine x_ev w0 p0 (EvL.frz (l_lc1 (R := rI) (g := (gName 1)) (γ := Int) (vs := [1]) (me := fun x1 k => Mir.lft (grd (Sm (2 : Int) ∧ Sm (if x1 < 0 then -x1 else x1))) >>= fun _ => k (((2 : Int) * (if x1 < 0 then -x1 else x1)) + (if (decide (x1 < (0 : Int))) = true then (1 : Int) else 0))) (R' := rI) (i_L (K := K) (EvL.frz (l_cutX (e_var rfl r_script) o_no (o_some e_cI)))) ownOk0 (g_nm (R := rI)) (fun x σ' S hp => by obtain ⟨_, rfl, _⟩ := hp; first | rfl | exact ((wipe_set (by decide)).trans wipe_wipe)) (fun x1 σ' S1 H1 g2 hp => by have w3 := w0.go g2; obtain ⟨_, rfl, rfl⟩ := hp; have r_script := Mo.mo g2.s r_script; exact (e_add (e_mul e_cI (c_abs (e_var (R := rI) rfl rfl))) (c_intB (e_lt (e_var (R := rI) rfl rfl) e_cI)))) pm_nm)) hm0 ?_
    intro cells4 vcells12 S5 H6 s7 w8 p9 g11 rcells13 hm10
    have r_script := Mo.mo g11.s r_script
    refine x_ev w8 p9 (e_add e_cI (e_mul e_cI (c_lenX (e_var rfl r_script)))) hm10 ?_
    intro mixed14 vmixed22 S15 H16 s17 w18 p19 g21 rmixed23 hm20
    cases (show vmixed22 = .int mixed14 from rmixed23)
    have r_script := Mo.mo g21.s r_script
    have rcells13 := Mo.mo g21.s rcells13
    refine par_end [some v_script, none, some vcells12, some (.int mixed14)] rfl ?_
    refine q_for (p := pt0) w18 p19 (i_L (K := K) (e_var rfl rcells13)) (g_nm (R := rI)) hm20 (fun Sb25 st24 σ S' H' s' => Ex Sb25 S' ∧ (∃ (xcell_ : Option V), σ = [some v_script, xcell_, some vcells12, some (.int st24)] ∧ Wd pt0 S0 H0 S' H' [] ∧ PotAt pt0 s' S' H' ∧ Ex S15 S')) ?_ ?_ ?_ ?_ ?_
    · intro S27 H28 s29 w30 p31 g32
      have r_script := Mo.mo g32.s r_script
      have rcells13 := Mo.mo g32.s rcells13
      exact ⟨Ex.rf, ⟨_, rfl, w30, p31, g32.s⟩⟩
    · rintro Sb25 st24 _ S37 H38 s39 ⟨ex40, ⟨xcell33, rfl, w34, p35, eb36⟩⟩
      exact ⟨ex40, w34.i, p35, ownOk0⟩
    · rintro Sb25 st24 _ S45 H46 s47 S48 H49 ⟨ex51, ⟨xcell41, rfl, w42, p43, eb44⟩⟩ g50
      exact ⟨ex51.tr g50.s, _, rfl, w42.go (Gm.up g50), PotAt.go p43 g50, eb44.tr g50.s⟩
    · rintro Sb25 x26 st24 _ σ64 S56 H57 s58 st24_ s2_ D_ ⟨ex63, ⟨xcell52, rfl, w53, p54, eb55⟩⟩ hp hm59 nx60
      obtain ⟨_, rfl, rfl⟩ := hp
      have r_script := Mo.mo eb55 r_script
      have rcells13 := Mo.mo eb55 rcells13
      refine q_set (fun v => [some v_script, some (.int x26), some vcells12, some v]) (fun _ => rfl) w53 p54 (e_mod (e_add (e_add (e_mul (e_var (R := rI) rfl rfl) e_cI) (e_var (R := rI) rfl rfl)) e_cI) e_cI) hm59 ?_
      intro mixed65 vmixed73 S66 H67 s68 w69 p70 g72 rmixed74 hm71
      cases (show vmixed73 = .int mixed65 from rmixed74)
      have r_script := Mo.mo g72.s r_script
      have rcells13 := Mo.mo g72.s rcells13
      have eb55 := eb55.tr g72.s
      have ex63 := ex63.tr g72.s
      cases run_of_pure hm71
      exact (nx60 _ _ _ ⟨ex63, ⟨_, rfl, w69, p70, eb55⟩⟩).1
    · rintro Sb25 st24 _ S79 H80 s81 ⟨_, ⟨xcell75, rfl, w76, p77, eb78⟩⟩ hm82
      have r_script := Mo.mo eb78 r_script
      have rcells13 := Mo.mo eb78 rcells13
      refine q_retP w76 (pot_lst (l_lc (R := rI) (g := (gName 1)) (γ := Int) (vs := [1]) (mt := fun x83 k => Mir.lft (grd (Pw (10 : Int) (12 : Int))) >>= fun _ => k (decide (((10 : Int) ^ Int.toNat (12 : Int)) < x83))) (me := fun x83 k => k x83) (R' := rI) (i_L (K := K) (e_var rfl rcells13)) ownOk0 (g_nm (R := rI)) (fun x σ' S hp => by obtain ⟨_, rfl, _⟩ := hp; first | rfl | exact ((wipe_set (by decide)).trans wipe_wipe)) (fun x83 σ' S1 H1 g84 hp => by have w85 := w76.go g84; obtain ⟨_, rfl, rfl⟩ := hp; have r_script := Mo.mo g84.s r_script; have rcells13 := Mo.mo g84.s rcells13; exact (t_Test (e_gt (e_var (R := rI) rfl rfl) (e_pow e_cI e_cI)))) (fun x83 σ' S1 H1 g84 hp => by have w85 := w76.go g84; obtain ⟨_, rfl, rfl⟩ := hp; have r_script := Mo.mo g84.s r_script; have rcells13 := Mo.mo g84.s rcells13; exact (e_var (R := rI) rfl rfl)) pm_nm) (e_var (R := rI) rfl rfl)) hm82 ?_
      intro r93 i94 S86 H87 g88 p89 n90 n91 hm92
      cases run_of_pure hm92
      exact fin0 i94 S86 H87 g88 p89 n90 n91
end
abbrev t_law : Stmt := top 35
theorem sc_law : FnScope ["script", "pot", "x", "p", "told", "n", "parts", "row", "struck", "primes", "own", "v", "i"] ["script"] (defScope t_law) := ⟨rfl, rfl, rfl, by decide +kernel, rfl, by decide +kernel, by decide +kernel⟩
@[irreducible] noncomputable def m_law : PM PotT Bool :=
Mir.lft (grd (List.length ([(30 : Int), (300 : Int), (1000 : Int)] : List Int) ≤ 16000000)) >>= fun _ => m__law_one ([(30 : Int), (300 : Int), (1000 : Int)] : List Int) >>= fun r399 => m__law_of r399 >>= fun r398 => bnd ((1 : Int) + r398) fun x1 =>
Mir.lft (grd (List.length ([true] : List Bool) ≤ 16000000)) >>= fun _ => Mir.lft (grd (RpB (List.length ([true] : List Bool)) (x1 + (1 : Int)))) >>= fun _ => bnd (List.replicate (Int.toNat (x1 + (1 : Int))) ([true] : List Bool)).flatten fun struck11 =>
Mir.lft (grd (List.length ([] : List Int) ≤ 16000000)) >>= fun _ => bnd ([] : List Int) fun primes22 =>
Mir.lft (grd (RgB (2 : Int) ∧ RgB (x1 + (1 : Int)))) >>= fun _ => (lpS (rng (2 : Int) (x1 + (1 : Int))) (fun (x40 : Int) (st38 : (List Bool) × (List Int)) =>
Mir.lft (L2.atI st38.1 x40) >>= fun y199 => if y199 = true then
(Mir.lft (grd (List.length st38.2 < 16000000)) >>= fun _ => bnd (st38.2 ++ [x40]) fun primes108 =>
Mir.lft (grd (Sm x40 ∧ Sm x40)) >>= fun _ => Mir.lft (grd (Rg3 (x40 * x40) (x1 + (1 : Int)) x40)) >>= fun _ => (lpS (rng3 (x40 * x40) (x1 + (1 : Int)) x40) (fun (x120 : Int) (st118 : (List Bool)) =>
Mir.lft (ixN (List.length st118) x120) >>= fun o179 => bnd (List.set st118 o179 false) fun struck169 =>
pure struck169) st38.1) >>= fun (st118 : (List Bool)) =>
pure (st118, primes108))
else
(pure (st38.1, st38.2))) (struck11, primes22)) >>= fun (st38 : (List Bool) × (List Int)) =>
Mir.lft (m_primes_counted x1) >>= fun r394 => Mir.lft (m_primes_summed x1) >>= fun r395 => Mir.lft (m_primes_counted x1) >>= fun r396 => Mir.lft (m_primes_summed x1) >>= fun r397 => Mir.lft (grd (List.length ([r394, r395, r396, r397] : List Int) ≤ 16000000)) >>= fun _ => bnd ([r394, r395, r396, r397] : List Int) fun told220 =>
bnd (PyData.list (List.map PyData.int told220)) fun d392 => Mir.lft (grd (OkD d392)) >>= fun _ => Mir.lft (grd (List.length ([(List.length st38.2 : Int), (List.sum st38.2)] : List Int) ≤ 16000000)) >>= fun _ => Mir.lft (grd (RpB (List.length ([(List.length st38.2 : Int), (List.sum st38.2)] : List Int)) (2 : Int))) >>= fun _ => bnd (PyData.list (List.map PyData.int (List.replicate (Int.toNat (2 : Int)) ([(List.length st38.2 : Int), (List.sum st38.2)] : List Int)).flatten)) fun d393 => Mir.lft (grd (OkD d393)) >>= fun _ => Mir.lft (grP (d392 = d393)) >>= fun _ => if false = true then
(bnd false fun r244 => pure r244)
else
(m__law_of x1 >>= fun r391 => bnd ((1 : Int) + r391) fun n254 =>
Mir.lft (m_is_prime_number n254) >>= fun r388 => bnd (PyData.bool r388) fun d387 => Mir.lft (grd (OkD d387)) >>= fun _ => bnd (PyData.bool (List.contains st38.2 n254)) fun d389 => Mir.lft (grd (OkD d389)) >>= fun _ => Mir.lft (grP (d387 = d389)) >>= fun _ => (if false = true then pure true else Mir.lft (m_primes_of n254) >>= fun r390 => Mir.lft (grd (List.length ([(n254, (1 : Int))] : List (Int × Int)) ≤ 16000000)) >>= fun _ => pure (!decide ((decide (r390 = ([(n254, (1 : Int))] : List (Int × Int)))) = (List.contains st38.2 n254)))) >>= fun b386 => if b386 = true then
(bnd false fun r278 => pure r278)
else
(Mir.lft (grd (RgB (1 : Int) ∧ RgB (x1 + (1 : Int)))) >>= fun _ => Mir.lft (grd (List.length (rng (1 : Int) (x1 + (1 : Int))) ≤ 16000000)) >>= fun _ => cmp (rng (1 : Int) (x1 + (1 : Int))) (fun x288 => Mir.lft (grd (Dv x288)) >>= fun _ => pure (some (x1 / x288))) >>= fun l385 => Mir.lft (grd (List.length l385 < 4000 ∧ List.length (dd l385) < 64)) >>= fun _ => Mir.lft (grd ((-(1 : Int)) = -1)) >>= fun _ => bnd (List.reverse (srt (dd l385))) fun parts291 =>
Mir.lft (m_parts_of x1) >>= fun r382 => Mir.lft (m_parts_of x1) >>= fun r383 => Mir.lft (grd (List.length ([r382, r383] : List (List Int)) ≤ 16000000)) >>= fun _ => bnd (PyData.list (List.map (fun a => (PyData.tuple (List.map PyData.int a))) ([r382, r383] : List (List Int)))) fun d381 => Mir.lft (grd (OkD d381)) >>= fun _ => Mir.lft (grd (List.length ([parts291] : List (List Int)) ≤ 16000000)) >>= fun _ => Mir.lft (grd (RpB (List.length ([parts291] : List (List Int))) (2 : Int))) >>= fun _ => bnd (PyData.list (List.map (fun a => (PyData.tuple (List.map PyData.int a))) (List.replicate (Int.toNat (2 : Int)) ([parts291] : List (List Int))).flatten)) fun d384 => Mir.lft (grd (OkD d384)) >>= fun _ => Mir.lft (grP (d381 = d384)) >>= fun _ => if false = true then
(bnd false fun r315 => pure r315)
else
(Mir.lft (grd (List.length parts291 ≤ 16000000)) >>= fun _ => cmp parts291 (fun x325 => Mir.lft (grd (List.length st38.2 ≤ 16000000)) >>= fun _ => pure (some (List.length (List.map (fun x328 => x328) (List.filter (fun x328 => (decide (x328 ≤ x325))) st38.2)) : Int))) >>= fun l380 => bnd l380 fun row331 =>
Mir.lft (m_counted_row x1) >>= fun r377 => Mir.lft (m_counted_row x1) >>= fun r378 => Mir.lft (grd (List.length ([r377, r378] : List (List Int)) ≤ 16000000)) >>= fun _ => bnd (PyData.list (List.map (fun a => (PyData.tuple (List.map PyData.int a))) ([r377, r378] : List (List Int)))) fun d376 => Mir.lft (grd (OkD d376)) >>= fun _ => Mir.lft (grd (List.length ([row331, row331] : List (List Int)) ≤ 16000000)) >>= fun _ => bnd (PyData.list (List.map (fun a => (PyData.tuple (List.map PyData.int a))) ([row331, row331] : List (List Int)))) fun d379 => Mir.lft (grd (OkD d379)) >>= fun _ => Mir.lft (grP (d376 = d379)) >>= fun _ => if false = true then
(bnd false fun r355 => pure r355)
else
(m__law_are_struck_right x1 parts291 st38.2 >>= fun r375 => bnd r375 fun r372 => pure r372))))
def okLaw (a : List Int) : Prop := ∃ s s1, m__law_pot a = some s ∧ Mir.run m_law s = some (true, s1)
section
variable {P : Program} {w : World} {K : PySem.W.Frag} {mg : Str → Option Value} {base : Heap}
theorem g_law (T : Tx mg base) (D0 : Dk P w K mg base "_law_pot" "_law_pot" t__law_pot 1 ["script"] (sp__law_pot K)) (D1 : Dk P w K mg base "_law_of" "_law_of" t__law_of 1 ["pot", "many"] (sp__law_of K)) (D2 : Dk P w K mg base "_law_one" "_law_one" t__law_one 2 ["pot", "items"] (sp__law_one K)) (D3 : Dk P w K mg base "primes_counted" "primes_counted" t_primes_counted 4 ["x"] (sp_primes_counted K)) (D4 : Dk P w K mg base "primes_summed" "primes_summed" t_primes_summed 2 ["x"] (sp_primes_summed K)) (D5 : Dk P w K mg base "is_prime_number" "is_prime_number" t_is_prime_number 3 ["number"] (sp_is_prime_number K)) (D6 : Dk P w K mg base "primes_of" "primes_of" t_primes_of 4 ["number"] (sp_primes_of K)) (D7 : Dk P w K mg base "parts_of" "parts_of" t_parts_of 1 ["x"] (sp_parts_of K)) (D8 : Dk P w K mg base "counted_row" "counted_row" t_counted_row 3 ["x"] (sp_counted_row K)) (D9 : Dk P w K mg base "_law_are_struck_right" "_law_are_struck_right" t__law_are_struck_right 5 ["pot", "x", "parts", "primes"] (sp__law_are_struck_right K)) {f : Addr} {fd : FuncData} (F : Fun K "law" "law" t_law f fd) : FnG P w K mg base CX0 6 f fd ["script"] (spLaw K okLaw) := by
  obtain ⟨f0, fd0, F0, m0, G0, b0⟩ := D0
  obtain ⟨f1, fd1, F1, m1, G1, b1⟩ := D1
  obtain ⟨f2, fd2, F2, m2, G2, b2⟩ := D2
  obtain ⟨f3, fd3, F3, m3, G3, b3⟩ := D3
  obtain ⟨f4, fd4, F4, m4, G4, b4⟩ := D4
  obtain ⟨f5, fd5, F5, m5, G5, b5⟩ := D5
  obtain ⟨f6, fd6, F6, m6, G6, b6⟩ := D6
  obtain ⟨f7, fd7, F7, m7, G7, b7⟩ := D7
  obtain ⟨f8, fd8, F8, m8, G8, b8⟩ := D8
  obtain ⟨f9, fd9, F9, m9, G9, b9⟩ := D9
  refine okG0 F sc_law (fun vs H Q E h => ?_) (fun cdv A outer s0_ H vs Q E hr gd h => ?_)
  · obtain ⟨_, ⟨_, rfl, _⟩, _⟩ := h
    rfl
  · obtain ⟨p_script, ⟨v_script, rfl, r_script⟩, ⟨sP, s', hf, hm1⟩, fin0⟩ := h
    obtain ⟨r, hrt, hm0⟩ : ∃ r, r = true ∧ Mir.run m_law sP = some (r, s') := ⟨true, rfl, hm1⟩
    clear hm1
    unfold m_law at hm0
    have sc := sc_law
    refine ⟨_, pss_cons (ps_set (i := 1) sc.nd rfl (by first | exact Or.inl rfl | exact Or.inr rfl) (pe_cG G0 (hr.mono (by decide)) gd rfl m0 F0.kp b0 pass0 (pa_cons (pv 0) pa_nil))) (pss_cons (ps_set (i := 2) sc.nd rfl (by first | exact Or.inl rfl | exact Or.inr rfl) (pe_op op_add (pe_int) (pe_cG G1 (hr.mono (by decide)) gd rfl m1 F1.kp b1 pass0 (pa_cons (pv 1) (pa_cons (pe_cG G2 (hr.mono (by decide)) gd rfl m2 F2.kp b2 pass0 (pa_cons (pv 1) (pa_cons (pe_lst (pa_cons (pe_int) (pa_cons (pe_int) (pa_cons (pe_int) (pa_nil))))) (pa_nil)))) (pa_nil)))))) (pss_cons (ps_asg (pe_tup (pa_cons (pe_op op_rep (pe_lst (pa_cons (pe_bl) (pa_nil))) (pe_op op_add (pv 2) (pe_int))) (pa_cons (pe_lst (pa_nil)) (pa_nil)))) (k_gt K (pgs_cons (pg_name (i := 8) sc.nd rfl (by first | exact Or.inl rfl | exact Or.inr rfl)) (pgs_cons (pg_name (i := 9) sc.nd rfl (by first | exact Or.inl rfl | exact Or.inr rfl)) (pgs_nil))))) (pss_cons (ps_for PassesOwn.never rfl (pi_range2 rfl T.n_range (pa_cons (pe_int) (pa_cons (pe_op op_add (pv 2) (pe_int)) pa_nil))) (pg_name (i := 3) sc.nd rfl (by first | exact Or.inl rfl | exact Or.inr rfl)) (pss_cons (ps_if (pt_val (pe_ix (k_ixL K) (pv 8) (pv 3) (fun _ _ => rfl))) (pss_cons (ps_expr (pe_bm PySem.F.plainAttrs_list PySem.F.slot_list_append PySem.F.type_list_append mt_append (pv 9) (pa_cons (pv 3) pa_nil))) (pss_cons (ps_for PassesOwn.never rfl (pi_range3 rfl T.n_range (pa_cons (pe_op op_mulX (pv 3) (pv 3)) (pa_cons (pe_op op_add (pv 2) (pe_int)) (pa_cons (pv 3) pa_nil)))) (pg_name (i := 10) sc.nd rfl (by first | exact Or.inl rfl | exact Or.inr rfl)) (pss_cons (ps_asg (pe_bl) (pg_sub (pv 8) (pv 10) set_list)) (pss_nil))) (pss_nil))) (pss_nil)) (pss_nil))) (pss_cons (ps_set (i := 4) sc.nd rfl (by first | exact Or.inl rfl | exact Or.inr rfl) (pe_lst (pa_cons (pe_cG G3 (hr.mono (by decide)) gd rfl m3 F3.kp b3 pass0 (pa_cons (pv 2) (pa_nil))) (pa_cons (pe_cG G4 (hr.mono (by decide)) gd rfl m4 F4.kp b4 pass0 (pa_cons (pv 2) (pa_nil))) (pa_cons (pe_cGK0 (ks := ["x"]) (ix := [0]) G3 (hr.mono (by decide)) gd rfl m3 F3.kp (Fun.kb F3 (ps := ["x"]) (ks := ["x"]) (n := 0) (ix := [0]) fun _ _ _ _ _ _ us ws h1 h2 => match us, ws, h1, h2 with | [], [_], _, _ => rfl) pass0 (pk_cons (pv 2) (pk_nil))) (pa_cons (pe_cGK0 (ks := ["x"]) (ix := [0]) G4 (hr.mono (by decide)) gd rfl m4 F4.kp (Fun.kb F4 (ps := ["x"]) (ks := ["x"]) (n := 0) (ix := [0]) fun _ _ _ _ _ _ us ws h1 h2 => match us, ws, h1, h2 with | [], [_], _, _ => rfl) pass0 (pk_cons (pv 2) (pk_nil))) (pa_nil))))))) (pss_cons (ps_if (pt_cmpR op_ne (pe_callB (k_repr K hr gd T.nd) (by rfl) T.n_repr (by decide +kernel) (pa_cons (pv 4) pa_nil)) (pe_callB (k_repr K hr gd T.nd) (by rfl) T.n_repr (by decide +kernel) (pa_cons (pe_op op_rep (pe_lst (pa_cons (pe_callB (k_len K) (by rfl) T.n_len (by decide +kernel) (pa_cons (pv 9) pa_nil)) (pa_cons (pe_callB (k_sum K) (by rfl) T.n_sum (by decide +kernel) (pa_cons (pv 9) pa_nil)) (pa_nil)))) (pe_int)) pa_nil)) (nomark _)) (pss_cons (ps_ret (pe_bl)) (pss_nil)) (pss_nil)) (pss_cons (ps_set (i := 5) sc.nd rfl (by first | exact Or.inl rfl | exact Or.inr rfl) (pe_op op_add (pe_int) (pe_cG G1 (hr.mono (by decide)) gd rfl m1 F1.kp b1 pass0 (pa_cons (pv 1) (pa_cons (pv 2) (pa_nil)))))) (pss_cons (ps_if (PW.pt (pw_or (pt_cmpR op_ne (pe_callB (k_repr K hr gd T.nd) (by rfl) T.n_repr (by decide +kernel) (pa_cons (pe_cG G5 (hr.mono (by decide)) gd rfl m5 F5.kp b5 pass0 (pa_cons (pv 5) (pa_nil))) pa_nil)) (pe_callB (k_repr K hr gd T.nd) (by rfl) T.n_repr (by decide +kernel) (pa_cons (pe_cmpR (k_in K) (pv 5) (pv 9) (by rfl)) pa_nil)) (nomark _)) (pw_or1 (pt_cmpR op_ne (pe_cmpR (k_eqD K hr) (pe_cG G6 (hr.mono (by decide)) gd rfl m6 F6.kp b6 pass0 (pa_cons (pv 5) (pa_nil))) (pe_tup (pa_cons (pe_tup (pa_cons (pv 5) (pa_cons (pe_int) (pa_nil)))) (pa_nil))) (nomark _)) (pe_cmpR (k_in K) (pv 5) (pv 9) (by rfl)) (nomark _))))) (pss_cons (ps_ret (pe_bl)) (pss_nil)) (pss_nil)) (pss_cons (ps_set (i := 6) sc.nd rfl (by first | exact Or.inl rfl | exact Or.inr rfl) (k_rev K (pe_callB k_srtS (by rfl) T.n_sorted (by decide +kernel) (pa_cons (pe_callTy (k_setI K) (by rfl) T.n_set (by decide +kernel) (pa_cons (pe_lc (own := [("i", 12)]) (g := (gName 12)) (tt := tYes) rfl sc.nd (pi_range2 rfl T.n_range (pa_cons (pe_int) (pa_cons (pe_op op_add (pv 2) (pe_int)) pa_nil))) (blkOk_by (N := ["script", "pot", "x", "p", "told", "n", "parts", "row", "struck", "primes", "own", "v", "i"]) (sc := defScope t_law) (by decide +kernel)) (fun _ _ _ _ _ => pg_name (i := 12) sc.nd rfl (by first | exact Or.inl rfl | exact Or.inr rfl)) (fun _ _ _ _ _ => pts_nil) (fun _ _ _ _ _ => pe_op op_fdivW (pv 2) (pv 12))) pa_nil)) pa_nil)) (pe_un un_neg (pe_int)))) (pss_cons (ps_if (pt_cmpR op_ne (pe_callB (k_repr K hr gd T.nd) (by rfl) T.n_repr (by decide +kernel) (pa_cons (pe_lst (pa_cons (pe_cG G7 (hr.mono (by decide)) gd rfl m7 F7.kp b7 pass0 (pa_cons (pv 2) (pa_nil))) (pa_cons (pe_cGK0 (ks := ["x"]) (ix := [0]) G7 (hr.mono (by decide)) gd rfl m7 F7.kp (Fun.kb F7 (ps := ["x"]) (ks := ["x"]) (n := 0) (ix := [0]) fun _ _ _ _ _ _ us ws h1 h2 => match us, ws, h1, h2 with | [], [_], _, _ => rfl) pass0 (pk_cons (pv 2) (pk_nil))) (pa_nil)))) pa_nil)) (pe_callB (k_repr K hr gd T.nd) (by rfl) T.n_repr (by decide +kernel) (pa_cons (pe_op op_rep (pe_lst (pa_cons (pe_callTy (k_tupOf K) (by rfl) T.n_tuple (by decide +kernel) (pa_cons (pv 6) pa_nil)) (pa_nil))) (pe_int)) pa_nil)) (nomark _)) (pss_cons (ps_ret (pe_bl)) (pss_nil)) (pss_nil)) (pss_cons (ps_set (i := 7) sc.nd rfl (by first | exact Or.inl rfl | exact Or.inr rfl) (pe_callTy (k_tupOf K) (by rfl) T.n_tuple (by decide +kernel) (pa_cons (pe_lc (own := [("v", 11)]) (g := (gName 11)) (tt := tYes) rfl sc.nd (k_pil K (pv 6)) (blkOk_by (N := ["script", "pot", "x", "p", "told", "n", "parts", "row", "struck", "primes", "own", "v", "i"]) (sc := defScope t_law) (by decide +kernel)) (fun _ _ _ _ _ => pg_name (i := 11) sc.nd rfl (by first | exact Or.inl rfl | exact Or.inr rfl)) (fun _ _ _ _ _ => pts_nil) (fun _ _ _ _ _ => pe_callB (k_len K) (by rfl) T.n_len (by decide +kernel) (pa_cons (pe_lc (own := [("p", 3)]) (g := (gName 3)) rfl sc.nd (k_pil K (pv 9)) (blkOk_by (N := ["script", "pot", "x", "p", "told", "n", "parts", "row", "struck", "primes", "own", "v", "i"]) (sc := ⟨.function, [(".0", .local), ("v", .cell), ("len", .globalImplicit), ("primes", .cell)], false, false, []⟩) (by decide +kernel)) (fun _ _ _ _ _ => pg_name (i := 3) sc.nd rfl (by first | exact Or.inl rfl | exact Or.inr rfl)) (fun _ _ _ _ _ => pts_one (pt_cmpR op_le (pv 3) (pv 11) (nomark _))) (fun _ _ _ _ _ => pv 3)) pa_nil))) pa_nil))) (pss_cons (ps_if (pt_cmpR op_ne (pe_callB (k_repr K hr gd T.nd) (by rfl) T.n_repr (by decide +kernel) (pa_cons (pe_lst (pa_cons (pe_cG G8 (hr.mono (by decide)) gd rfl m8 F8.kp b8 pass0 (pa_cons (pv 2) (pa_nil))) (pa_cons (pe_cGK0 (ks := ["x"]) (ix := [0]) G8 (hr.mono (by decide)) gd rfl m8 F8.kp (Fun.kb F8 (ps := ["x"]) (ks := ["x"]) (n := 0) (ix := [0]) fun _ _ _ _ _ _ us ws h1 h2 => match us, ws, h1, h2 with | [], [_], _, _ => rfl) pass0 (pk_cons (pv 2) (pk_nil))) (pa_nil)))) pa_nil)) (pe_callB (k_repr K hr gd T.nd) (by rfl) T.n_repr (by decide +kernel) (pa_cons (pe_lst (pa_cons (pv 7) (pa_cons (pv 7) (pa_nil)))) pa_nil)) (nomark _)) (pss_cons (ps_ret (pe_bl)) (pss_nil)) (pss_nil)) (pss_cons (ps_ret (pe_cG G9 (hr.mono (by decide)) gd rfl m9 F9.kp b9 pass0 (pa_cons (pv 1) (pa_cons (pv 2) (pa_cons (pv 6) (pa_cons (pv 9) (pa_nil))))))) (pss_nil))))))))))))), ?_⟩
    refine q_pot (hd := potHd) (S := H) Ex.rf rfl r_script hf (fun v => [some v_script, some v, none, none, none, none, none, none, none, none, none, none, none]) (fun _ => rfl) ?_
    intro i S0 H0 w0 p0 g0
    have fin : ∀ v {H' : Hp}, (∃ S', Gm (potPt i).M S0 H0 S' H' ∧ PotAt (potPt i) s' S' H' ∧ rB r v S') → Q v H' := fun v {H'} ⟨S', _, _, h3⟩ => by cases hrt; cases (show v = .bl true from h3); exact fin0 H'
    refine q_set (fun v => [some v_script, some (.ref i.a), some v, none, none, none, none, none, none, none, none, none, none]) (fun _ => rfl) w0 p0 (e_add e_cI (Ev.eta (e_callP (F := fun i => potPt i) (i := i) (A := fun i => (aCons (rP i) (aOne rI))) (E := E0) (fm := fm__law_of) (R := rI) (a_cons (e_var (R := rP i) (a := ()) rfl rfl) (a_one (Ev.eta (e_callP (F := fun i => potPt i) (i := i) (A := fun i => (aCons (rP i) (aOne (rL (aAll rI))))) (E := E0) (fm := fm__law_one) (R := rI) (a_cons (e_var (R := rP i) (a := ()) rfl rfl) (a_one (EvL.frz (l_lstL (a_consL e_cI (a_consL e_cI (a_consL e_cI (a_nilL (R := rI)))))))))))))))) hm0 ?_
    intro x1 vx9 S2 H3 s4 w5 p6 g8 rx10 hm7
    cases (show vx9 = .int x1 from rx10)
    refine tup2_go ?_
    refine x_evL w5 p6 (l_rep (EvL.rd (l_lstL (a_consL e_cB (a_nilL (R := rB))))) (e_add (e_var (R := rI) rfl rfl) e_cI)) hm7 ?_
    intro struck11 q19 vs20 S12 H13 s14 w15 p16 g18 rstruck21 hm17
    have rstruck21 : All rB _ _ _ := rstruck21
    refine x_evL w15 p16 (l_lstL (a_nilL (R := rI))) hm17 ?_
    intro primes22 q30 vs31 S23 H24 s25 w26 p27 g29 rprimes32 hm28
    have rprimes32 : All rI _ _ _ := rprimes32
    have rstruck21 := All.mo g29.s rstruck21
    refine tup_end (is := [8, 9]) [some v_script, some (.ref i.a), some (.int x1), none, none, none, none, none, some (.ref q19), some (.ref q30), none, none, none] w26 p27 rfl (by simp) rfl ?_
    intro S33 H34 w35 p36 g37
    have rstruck21 := All.mo g37.s rstruck21
    have rprimes32 := All.mo g37.s rprimes32
    refine q_for (p := (potPt i)) w35 p36 (i_R2 e_cI (e_add (e_var (R := rI) rfl rfl) e_cI)) (g_nm (R := rI)) hm28 (fun Sb39 st38 σ S' H' s' => Ex Sb39 S' ∧ (∃ (xp_ : Option V) (qstruck_ : Addr) (usstruck_ : List V) (qprimes_ : Addr) (usprimes_ : List V) (xown_ : Option V), σ = [some v_script, some (.ref i.a), some (.int x1), xp_, none, none, none, none, some (.ref qstruck_), some (.ref qprimes_), xown_, none, none] ∧ Wd (potPt i) S0 H0 S' H' [(qstruck_, .lst usstruck_), (qprimes_, .lst usprimes_)] ∧ PotAt (potPt i) s' S' H' ∧ Ex S33 S' ∧ All rB S' st38.1 usstruck_ ∧ All rI S' st38.2 usprimes_)) ?_ ?_ ?_ ?_ ?_
    · intro S41 H42 s43 w44 p45 g46
      have rstruck21 := All.mo g46.s rstruck21
      have rprimes32 := All.mo g46.s rprimes32
      have w47 := w44.pick [1, 0] (by decide)
      exact ⟨Ex.rf, ⟨_, _, _, _, _, _, rfl, w47, p45, g46.s, rstruck21, rprimes32⟩⟩
    · rintro Sb39 st38 _ S59 H60 s61 ⟨ex62, ⟨xp48, qstruck49, usstruck50, qprimes51, usprimes52, xown53, rfl, w56, p57, eb58, rstruck54, rprimes55⟩⟩
      exact ⟨ex62, w56.i, p57, ownOk0⟩
    · rintro Sb39 st38 _ S74 H75 s76 S77 H78 ⟨ex80, ⟨xp63, qstruck64, usstruck65, qprimes66, usprimes67, xown68, rfl, w71, p72, eb73, rstruck69, rprimes70⟩⟩ g79
      exact ⟨ex80.tr g79.s, _, _, _, _, _, _, rfl, w71.go (Gm.up g79), PotAt.go p72 g79, eb73.tr g79.s, All.mo g79.s rstruck69, All.mo g79.s rprimes70⟩
    · rintro Sb39 x40 st38 _ σ100 S92 H93 s94 st38_ s2_ D_ ⟨ex99, ⟨xp81, qstruck82, usstruck83, qprimes84, usprimes85, xown86, rfl, w89, p90, eb91, rstruck87, rprimes88⟩⟩ hp hm95 nx96
      obtain ⟨_, rfl, rfl⟩ := hp
      refine q_if w89 p90 (t_B (e_ixL (w_own (A := (aAll rB)) (j := 0) w89 rfl rfl rstruck87) (e_var (R := rI) rfl rfl))) hm95 ?_ ?_
      · intro S101 H102 s103 w104 p105 g106 hm107
        have rstruck87 := All.mo g106.s rstruck87
        have rprimes88 := All.mo g106.s rprimes88
        have eb91 := eb91.tr g106.s
        have ex99 := ex99.tr g106.s
        refine q_app (j := 1) w104 p105 rfl rfl rprimes88 (e_var (R := rI) rfl rfl) hm107 ?_
        intro primes108 vs109 S111 H112 s113 w114 p115 e117 rprimes110 hm116
        have rstruck87 := All.mo e117 rstruck87
        have eb91 := eb91.tr e117
        have ex99 := ex99.tr e117
        refine q_for (p := (potPt i)) w114 p115 (i_R3 (e_mul (e_var (R := rI) rfl rfl) (e_var (R := rI) rfl rfl)) (e_add (e_var (R := rI) rfl rfl) e_cI) (e_var (R := rI) rfl rfl)) (g_nm (R := rI)) hm116 (fun Sb119 st118 σ S' H' s' => Ex Sb119 S' ∧ (∃ (qstruck_ : Addr) (usstruck_ : List V) (xown_ : Option V), σ = [some v_script, some (.ref i.a), some (.int x1), some (.int x40), none, none, none, none, some (.ref qstruck_), some (.ref qprimes84), xown_, none, none] ∧ Wd (potPt i) S0 H0 S' H' [(qprimes84, .lst vs109), (qstruck_, .lst usstruck_)] ∧ PotAt (potPt i) s' S' H' ∧ Ex S111 S' ∧ All rB S' st118 usstruck_)) ?_ ?_ ?_ ?_ ?_
        · intro S121 H122 s123 w124 p125 g126
          have rstruck87 := All.mo g126.s rstruck87
          have rprimes110 := All.mo g126.s rprimes110
          have eb91 := eb91.tr g126.s
          have ex99 := ex99.tr g126.s
          have w127 := w124.pick [1, 0] (by decide)
          exact ⟨Ex.rf, ⟨_, _, _, rfl, w127, p125, g126.s, rstruck87⟩⟩
        · rintro Sb119 st118 _ S135 H136 s137 ⟨ex138, ⟨qstruck128, usstruck129, xown130, rfl, w132, p133, eb134, rstruck131⟩⟩
          exact ⟨ex138, w132.i, p133, ownOk0⟩
        · rintro Sb119 st118 _ S146 H147 s148 S149 H150 ⟨ex152, ⟨qstruck139, usstruck140, xown141, rfl, w143, p144, eb145, rstruck142⟩⟩ g151
          exact ⟨ex152.tr g151.s, _, _, _, rfl, w143.go (Gm.up g151), PotAt.go p144 g151, eb145.tr g151.s, All.mo g151.s rstruck142⟩
        · rintro Sb119 x120 st118 _ σ168 S160 H161 s162 st118_ s2_ D_ ⟨ex167, ⟨qstruck153, usstruck154, xown155, rfl, w157, p158, eb159, rstruck156⟩⟩ hp hm163 nx164
          obtain ⟨_, rfl, rfl⟩ := hp
          have rprimes110 := All.mo eb159 rprimes110
          have eb91 := eb91.tr eb159
          have ex99 := ex99.tr eb159
          refine q_put (j := 1) w157 p158 rfl rfl rstruck156 e_cB (e_var (R := rI) rfl rfl) hm163 ?_
          intro struck169 vs170 S172 H173 s174 w175 p176 e178 rstruck171 hm177
          have rprimes110 := All.mo e178 rprimes110
          have eb91 := eb91.tr e178
          have ex99 := ex99.tr e178
          have eb159 := eb159.tr e178
          have ex167 := ex167.tr e178
          cases run_of_pure hm177
          exact (nx164 _ _ _ ⟨ex167, ⟨_, _, _, rfl, w175, p176, eb159, rstruck171⟩⟩).1
        · rintro Sb119 st118 _ S187 H188 s189 ⟨_, ⟨qstruck180, usstruck181, xown182, rfl, w184, p185, eb186, rstruck183⟩⟩ hm190
          have rprimes110 := All.mo eb186 rprimes110
          have eb91 := eb91.tr eb186
          have ex99 := ex99.tr eb186
          refine nx_done ?_
          cases run_of_pure hm190
          have w191 := w184.pick [1, 0] (by decide)
          exact (nx96 _ _ _ ⟨ex99, ⟨_, _, _, _, _, _, rfl, w191, p185, eb91, rstruck183, rprimes110⟩⟩).1
      · intro S192 H193 s194 w195 p196 g197 hm198
        have rstruck87 := All.mo g197.s rstruck87
        have rprimes88 := All.mo g197.s rprimes88
        have eb91 := eb91.tr g197.s
        have ex99 := ex99.tr g197.s
        refine nx_done ?_
        cases run_of_pure hm198
        exact (nx96 _ _ _ ⟨ex99, ⟨_, _, _, _, _, _, rfl, w195, p196, eb91, rstruck87, rprimes88⟩⟩).1
    · rintro Sb39 st38 _ S211 H212 s213 ⟨_, ⟨xp200, qstruck201, usstruck202, qprimes203, usprimes204, xown205, rfl, w208, p209, eb210, rstruck206, rprimes207⟩⟩ hm214
      obtain ⟨S215, w216, p217, ex218, r219⟩ := w_frz (j := 1) w208 p209 rfl rprimes207
      have rstruck206 := All.mo ex218 rstruck206
      refine q_set (fun v => [some v_script, some (.ref i.a), some (.int x1), xp200, some v, none, none, none, some (.ref qstruck201), some (V.ref qprimes203), xown205, none, none]) (fun _ => rfl) w216 p217 (EvL.frz (l_lstL (a_consL (Ev.eta (e_call (E := E0) (fm := fm_primes_counted) (R := rI) (a_one (e_var (R := rI) rfl rfl)))) (a_consL (Ev.eta (e_call (E := E0) (fm := fm_primes_summed) (R := rI) (a_one (e_var (R := rI) rfl rfl)))) (a_consL (e_callK (E := E0) (n := 0) (m' := 1) (ix := [0]) (fm := fm_primes_counted) (A := (aOne rI)) (A1 := aNil) (A2 := (aOne rI)) (R := rI) (fun a b => b) a_nil (a_one (e_var (R := rI) rfl rfl)) (fun a b vs zs S h1 h2 => by obtain rfl := h1; obtain ⟨_, rfl, y0⟩ := h2; exact ⟨rfl, rfl, ⟨_, rfl, y0⟩⟩)) (a_consL (e_callK (E := E0) (n := 0) (m' := 1) (ix := [0]) (fm := fm_primes_summed) (A := (aOne rI)) (A1 := aNil) (A2 := (aOne rI)) (R := rI) (fun a b => b) a_nil (a_one (e_var (R := rI) rfl rfl)) (fun a b vs zs S h1 h2 => by obtain rfl := h1; obtain ⟨_, rfl, y0⟩ := h2; exact ⟨rfl, rfl, ⟨_, rfl, y0⟩⟩)) (a_nilL (R := rI)))))))) hm214 ?_
      intro told220 vtold228 S221 H222 s223 w224 p225 g227 rtold229 hm226
      have rstruck206 := All.mo g227.s rstruck206
      have r219 := Mo.mo g227.s r219
      refine q_if w224 p225 (t_Test (e_neW (c_repr (e_var rfl rtold229) (d_L (ds_all d_I))) (c_repr (EvL.frz (l_rep (EvL.rd (l_lstL (a_consL (c_lenL (Ev.rd (e_var rfl r219))) (a_consL (c_sum (Ev.rd (e_var rfl r219))) (a_nilL (R := rI)))))) e_cI)) (d_L (ds_all d_I))))) hm226 ?_ ?_
      · intro S230 H231 s232 w233 p234 g235 hm236
        have rstruck206 := All.mo g235.s rstruck206
        have r219 := Mo.mo g235.s r219
        have rtold229 := Mo.mo g235.s rtold229
        refine q_ret w233 p234 e_cB hm236 ?_
        intro r244 v245 S237 H238 s239 w240 p241 g243 rr246 hm242
        cases run_of_pure hm242
        exact fin _ ⟨S237, w240.g, p241, rr246⟩
      · intro S247 H248 s249 w250 p251 g252 hm253
        have rstruck206 := All.mo g252.s rstruck206
        have r219 := Mo.mo g252.s r219
        have rtold229 := Mo.mo g252.s rtold229
        refine nx_done ?_
        refine q_set (fun v => [some v_script, some (.ref i.a), some (.int x1), xp200, some vtold228, some v, none, none, some (.ref qstruck201), some (V.ref qprimes203), xown205, none, none]) (fun _ => rfl) w250 p251 (e_add e_cI (Ev.eta (e_callP (F := fun i => potPt i) (i := i) (A := fun i => (aCons (rP i) (aOne rI))) (E := E0) (fm := fm__law_of) (R := rI) (a_cons (e_var (R := rP i) (a := ()) rfl rfl) (a_one (e_var (R := rI) rfl rfl)))))) hm253 ?_
        intro n254 vn262 S255 H256 s257 w258 p259 g261 rn263 hm260
        cases (show vn262 = .int n254 from rn263)
        have rstruck206 := All.mo g261.s rstruck206
        have r219 := Mo.mo g261.s r219
        have rtold229 := Mo.mo g261.s rtold229
        refine q_if w258 p259 (t_or (t_Test (e_neW (c_repr (Ev.eta (e_call (E := E0) (fm := fm_is_prime_number) (R := rB) (a_one (e_var (R := rI) rfl rfl)))) d_B) (c_repr (e_inL (neg := false) (e_var (R := rI) rfl rfl) (Ev.rd (e_var rfl r219))) d_B))) (t_Test (e_ne (e_eqQ (q_T (qs_all (q_T (qs_cons q_I (qs_one q_I))))) (by decide) (Ev.Q (Ev.eta (e_call (E := E0) (fm := fm_primes_of) (R := (rT K (aAll (rT K (aCons rI (aOne rI)))))) (a_one (e_var (R := rI) rfl rfl)))) (d_T (ds_all (d_T (ds_cons d_I (ds_one d_I)))))) (Ev.Q (e_tupL (K := K) (a_consL (e_tup (K := K) (a_cons (e_var (R := rI) rfl rfl) (a_one e_cI)) (arN_cons arN_one) (by decide)) (a_nilL (R := (rT K (aCons rI (aOne rI))))))) (d_T (ds_all (d_T (ds_cons d_I (ds_one d_I))))))) (e_inL (neg := false) (e_var (R := rI) rfl rfl) (Ev.rd (e_var rfl r219)))))) hm260 ?_ ?_
        · intro S264 H265 s266 w267 p268 g269 hm270
          have rstruck206 := All.mo g269.s rstruck206
          have r219 := Mo.mo g269.s r219
          have rtold229 := Mo.mo g269.s rtold229
          refine q_ret w267 p268 e_cB hm270 ?_
          intro r278 v279 S271 H272 s273 w274 p275 g277 rr280 hm276
          cases run_of_pure hm276
          exact fin _ ⟨S271, w274.g, p275, rr280⟩
        · intro S281 H282 s283 w284 p285 g286 hm287
          have rstruck206 := All.mo g286.s rstruck206
          have r219 := Mo.mo g286.s r219
          have rtold229 := Mo.mo g286.s rtold229
          refine nx_done ?_
          refine q_set (fun v => [some v_script, some (.ref i.a), some (.int x1), xp200, some vtold228, some (.int n254), some v, none, some (.ref qstruck201), some (V.ref qprimes203), xown205, none, none]) (fun _ => rfl) w284 p285 (EvL.frz (l_rev (K := K) (EvL.rd (l_srtSet (K := K) (EvL.rd (l_lc1 (R := rI) (g := (gName 12)) (γ := Int) (vs := [12]) (me := fun x288 k => Mir.lft (grd (Dv x288)) >>= fun _ => k (x1 / x288)) (R' := rI) (i_R2 e_cI (e_add (e_var (R := rI) rfl rfl) e_cI)) ownOk0 (g_nm (R := rI)) (fun x σ' S hp => by obtain ⟨_, rfl, _⟩ := hp; first | rfl | exact ((wipe_set (by decide)).trans wipe_wipe)) (fun x288 σ' S1 H1 g289 hp => by have w290 := w284.go g289; obtain ⟨_, rfl, rfl⟩ := hp; have rstruck206 := All.mo g289.s rstruck206; have r219 := Mo.mo g289.s r219; have rtold229 := Mo.mo g289.s rtold229; exact (e_fdiv (e_var (R := rI) rfl rfl) (e_var (R := rI) rfl rfl))) pm_nm)))) (e_neg e_cI))) hm287 ?_
          intro parts291 vparts299 S292 H293 s294 w295 p296 g298 rparts300 hm297
          have rstruck206 := All.mo g298.s rstruck206
          have r219 := Mo.mo g298.s r219
          have rtold229 := Mo.mo g298.s rtold229
          refine q_if w295 p296 (t_Test (e_neW (c_repr (EvL.frz (l_lstL (a_consL (Ev.eta (e_call (E := E0) (fm := fm_parts_of) (R := (rT K (aAll rI))) (a_one (e_var (R := rI) rfl rfl)))) (a_consL (e_callK (E := E0) (n := 0) (m' := 1) (ix := [0]) (fm := fm_parts_of) (A := (aOne rI)) (A1 := aNil) (A2 := (aOne rI)) (R := (rT K (aAll rI))) (fun a b => b) a_nil (a_one (e_var (R := rI) rfl rfl)) (fun a b vs zs S h1 h2 => by obtain rfl := h1; obtain ⟨_, rfl, y0⟩ := h2; exact ⟨rfl, rfl, ⟨_, rfl, y0⟩⟩)) (a_nilL (R := (rT K (aAll rI)))))))) (d_L (ds_all (d_T (ds_all d_I))))) (c_repr (EvL.frz (l_rep (EvL.rd (l_lstL (a_consL (c_tup (K := K) (Ev.rd (e_var rfl rparts300))) (a_nilL (R := (rT K (aAll rI))))))) e_cI)) (d_L (ds_all (d_T (ds_all d_I))))))) hm297 ?_ ?_
          · intro S301 H302 s303 w304 p305 g306 hm307
            have rstruck206 := All.mo g306.s rstruck206
            have r219 := Mo.mo g306.s r219
            have rtold229 := Mo.mo g306.s rtold229
            have rparts300 := Mo.mo g306.s rparts300
            refine q_ret w304 p305 e_cB hm307 ?_
            intro r315 v316 S308 H309 s310 w311 p312 g314 rr317 hm313
            cases run_of_pure hm313
            exact fin _ ⟨S308, w311.g, p312, rr317⟩
          · intro S318 H319 s320 w321 p322 g323 hm324
            have rstruck206 := All.mo g323.s rstruck206
            have r219 := Mo.mo g323.s r219
            have rtold229 := Mo.mo g323.s rtold229
            have rparts300 := Mo.mo g323.s rparts300
            refine nx_done ?_
            refine q_set (fun v => [some v_script, some (.ref i.a), some (.int x1), xp200, some vtold228, some (.int n254), some vparts299, some v, some (.ref qstruck201), some (V.ref qprimes203), xown205, none, none]) (fun _ => rfl) w321 p322 (c_tup (K := K) (EvL.rd (l_lc1 (R := rI) (g := (gName 11)) (γ := Int) (vs := [11]) (me := fun x325 k => Mir.lft (grd (List.length st38.2 ≤ 16000000)) >>= fun _ => k (List.length (List.map (fun x328 => x328) (List.filter (fun x328 => (decide (x328 ≤ x325))) st38.2)) : Int)) (R' := rI) (i_L (K := K) (e_var rfl rparts300)) ownOk0 (g_nm (R := rI)) (fun x σ' S hp => by obtain ⟨_, rfl, _⟩ := hp; first | rfl | exact ((wipe_set (by decide)).trans wipe_wipe)) (fun x325 σ' S1 H1 g326 hp => by have w327 := w321.go g326; obtain ⟨_, rfl, rfl⟩ := hp; have rstruck206 := All.mo g326.s rstruck206; have r219 := Mo.mo g326.s r219; have rtold229 := Mo.mo g326.s rtold229; have rparts300 := Mo.mo g326.s rparts300; exact (c_lenL (EvL.rd (l_lcT (R := rI) (g := (gName 3)) (vs := [3]) (t := (fun x328 => (decide (x328 ≤ x325)))) (f := (fun x328 => x328)) (R' := rI) (i_L (K := K) (e_var rfl r219)) ownOk0 (g_nm (R := rI)) (fun x σ' S hp => by obtain ⟨_, rfl, _⟩ := hp; first | rfl | exact ((wipe_set (by decide)).trans wipe_wipe)) (fun x328 σ' S1 H1 g329 hp => by have w330 := w327.go g329; obtain ⟨_, rfl, rfl⟩ := hp; have rstruck206 := All.mo g329.s rstruck206; have r219 := Mo.mo g329.s r219; have rtold229 := Mo.mo g329.s rtold229; have rparts300 := Mo.mo g329.s rparts300; exact (t_Test (e_le (e_var (R := rI) rfl rfl) (e_var (R := rI) rfl rfl)))) (fun x328 σ' S1 H1 g329 hp => by have w330 := w327.go g329; obtain ⟨_, rfl, rfl⟩ := hp; have rstruck206 := All.mo g329.s rstruck206; have r219 := Mo.mo g329.s r219; have rtold229 := Mo.mo g329.s rtold229; have rparts300 := Mo.mo g329.s rparts300; exact (e_var (R := rI) rfl rfl)) pm_nm)))) pm_nm))) hm324 ?_
            intro row331 vrow339 S332 H333 s334 w335 p336 g338 rrow340 hm337
            have rstruck206 := All.mo g338.s rstruck206
            have r219 := Mo.mo g338.s r219
            have rtold229 := Mo.mo g338.s rtold229
            have rparts300 := Mo.mo g338.s rparts300
            refine q_if w335 p336 (t_Test (e_neW (c_repr (EvL.frz (l_lstL (a_consL (Ev.eta (e_call (E := E0) (fm := fm_counted_row) (R := (rT K (aAll rI))) (a_one (e_var (R := rI) rfl rfl)))) (a_consL (e_callK (E := E0) (n := 0) (m' := 1) (ix := [0]) (fm := fm_counted_row) (A := (aOne rI)) (A1 := aNil) (A2 := (aOne rI)) (R := (rT K (aAll rI))) (fun a b => b) a_nil (a_one (e_var (R := rI) rfl rfl)) (fun a b vs zs S h1 h2 => by obtain rfl := h1; obtain ⟨_, rfl, y0⟩ := h2; exact ⟨rfl, rfl, ⟨_, rfl, y0⟩⟩)) (a_nilL (R := (rT K (aAll rI)))))))) (d_L (ds_all (d_T (ds_all d_I))))) (c_repr (EvL.frz (l_lstL (a_consL (e_var rfl rrow340) (a_consL (e_var rfl rrow340) (a_nilL (R := (rT K (aAll rI)))))))) (d_L (ds_all (d_T (ds_all d_I))))))) hm337 ?_ ?_
            · intro S341 H342 s343 w344 p345 g346 hm347
              have rstruck206 := All.mo g346.s rstruck206
              have r219 := Mo.mo g346.s r219
              have rtold229 := Mo.mo g346.s rtold229
              have rparts300 := Mo.mo g346.s rparts300
              have rrow340 := Mo.mo g346.s rrow340
              refine q_ret w344 p345 e_cB hm347 ?_
              intro r355 v356 S348 H349 s350 w351 p352 g354 rr357 hm353
              cases run_of_pure hm353
              exact fin _ ⟨S348, w351.g, p352, rr357⟩
            · intro S358 H359 s360 w361 p362 g363 hm364
              have rstruck206 := All.mo g363.s rstruck206
              have r219 := Mo.mo g363.s r219
              have rtold229 := Mo.mo g363.s rtold229
              have rparts300 := Mo.mo g363.s rparts300
              have rrow340 := Mo.mo g363.s rrow340
              refine nx_done ?_
              refine q_ret w361 p362 (Ev.eta (e_callP (F := fun i => potPt i) (i := i) (A := fun i => (aCons (rP i) (aCons rI (aCons (rL (aAll rI)) (aOne (rL (aAll rI))))))) (E := E0) (fm := fm__law_are_struck_right) (R := rB) (a_cons (e_var (R := rP i) (a := ()) rfl rfl) (a_cons (e_var (R := rI) rfl rfl) (a_cons (e_var rfl rparts300) (a_one (e_var rfl r219))))))) hm364 ?_
              intro r372 v373 S365 H366 s367 w368 p369 g371 rr374 hm370
              cases run_of_pure hm370
              exact fin _ ⟨S365, w368.g, p369, rr374⟩
end
end Wk
set_option Elab.async false
set_option maxRecDepth 100000
set_option maxHeartbeats 4000000
set_option linter.all false
/-! P0: numbers: primes, how often they divide, partings -/
namespace Wk
theorem nmod (m p : Nat) : ((m : Int) % (p : Int)) = ((m % p : Nat) : Int) := by push_cast; rfl
theorem ndiv (m p : Nat) : ((m : Int) / (p : Int)) = ((m / p : Nat) : Int) := by push_cast; rfl
theorem mulmod (a b p : Nat) : ((a : Int) * (b : Int)) % (p : Int) = ((a * b % p : Nat) : Int) := by push_cast; rfl
def Pr (n : Nat) : Prop := 2 ≤ n ∧ ∀ d, 2 ≤ d → d < n → n % d ≠ 0
/-- a divisor that is prime -/
theorem pr_div : ∀ n : Nat, 2 ≤ n → ∃ q, Pr q ∧ n % q = 0 := by
  intro n
  induction n using Nat.strongRecOn with
  | _ n ih =>
    intro h2
    by_cases h : Pr n
    · exact ⟨n, h, Nat.mod_self n⟩
    · have : ∃ d, 2 ≤ d ∧ d < n ∧ n % d = 0 := Classical.byContradiction fun hn => h ⟨h2, fun d h1 h3 h4 => hn ⟨d, h1, h3, h4⟩⟩
      obtain ⟨d, h1, h3, h4⟩ := this
      obtain ⟨q, hq, e⟩ := ih d h3 h1
      exact ⟨q, hq, Nat.mod_eq_zero_of_dvd (Nat.dvd_trans (Nat.dvd_of_mod_eq_zero e) (Nat.dvd_of_mod_eq_zero h4))⟩
theorem Pr.pos {p : Nat} (h : Pr p) : 0 < p := by have := h.1; omega
theorem Pr.one {p d : Nat} (h : Pr p) (hd : d ∣ p) : d = 1 ∨ d = p := by
  have h0 : 0 < d := Nat.pos_of_dvd_of_pos hd h.pos
  have h1 : d ≤ p := Nat.le_of_dvd h.pos hd
  by_cases e : d = 1
  · exact .inl e
  · by_cases e2 : d = p
    · exact .inr e2
    · exact absurd (Nat.mod_eq_zero_of_dvd hd) (h.2 d (by omega) (by omega))
theorem Pr.cop {p a : Nat} (h : Pr p) (ha : ¬ p ∣ a) : Nat.Coprime p a := by
  rcases h.one (Nat.gcd_dvd_left p a) with e | e
  · exact e
  · exact absurd (e ▸ Nat.gcd_dvd_right p a) ha
theorem Pr.mul {p a b : Nat} (h : Pr p) (hd : p ∣ a * b) : p ∣ a ∨ p ∣ b := by
  by_cases ha : p ∣ a
  · exact .inl ha
  · exact .inr ((h.cop ha).dvd_of_dvd_mul_left hd)
theorem Pr.pow {p a : Nat} (h : Pr p) : ∀ {k : Nat}, p ∣ a ^ k → p ∣ a
  | 0, hd => by
    rw [Nat.pow_zero] at hd
    have := Nat.le_of_dvd (by decide) hd
    have := h.1
    omega
  | k + 1, hd => by
    rw [Nat.pow_succ] at hd
    rcases h.mul hd with e | e
    · exact h.pow e
    · exact e
/-- two primes, one a divisor of the other's power -/
theorem Pr.eq {p q : Nat} (hp : Pr p) (hq : Pr q) (h : p ∣ q) : p = q := by
  rcases hq.one h with e | e
  · have := hp.1; omega
  · exact e

/-! ### how often -/
def vp (p n : Nat) : Nat := if h : n = 0 ∨ p < 2 ∨ n % p ≠ 0 then 0 else vp p (n / p) + 1
termination_by n
decreasing_by exact Nat.div_lt_self (by omega) (by omega)
theorem vp_no {p n : Nat} (h : n % p ≠ 0) : vp p n = 0 := by rw [vp, dif_pos (.inr (.inr h))]
theorem vp_s {p n : Nat} (hn : 0 < n) (hp : 2 ≤ p) (h : n % p = 0) : vp p n = vp p (n / p) + 1 := by rw [vp, dif_neg (by omega)]
theorem vp_dvd {p : Nat} (hp : 2 ≤ p) : ∀ {n : Nat}, 0 < n → p ^ vp p n ∣ n := by
  intro n
  induction n using Nat.strongRecOn with
  | _ n ih =>
    intro hn
    by_cases h : n % p = 0
    · rw [vp_s hn hp h]
      have hd : n / p * p = n := Nat.div_mul_cancel (Nat.dvd_of_mod_eq_zero h)
      have h0 : 0 < n / p := Nat.div_pos (Nat.le_of_dvd hn (Nat.dvd_of_mod_eq_zero h)) (by omega)
      have := ih (n / p) (Nat.div_lt_self hn (by omega)) h0
      rw [Nat.pow_succ]
      conv => rhs; rw [← hd]
      exact Nat.mul_dvd_mul_right this p
    · rw [vp_no h, Nat.pow_zero]; exact Nat.one_dvd _
theorem vp_eq {p : Nat} (hp : 2 ≤ p) : ∀ {k m : Nat}, m % p ≠ 0 → vp p (p ^ k * m) = k
  | 0, m, h => by rw [Nat.pow_zero, Nat.one_mul, vp_no h]
  | k + 1, m, h => by
    have hm : 0 < m := Nat.pos_of_ne_zero (by rintro rfl; simp at h)
    have e : p ^ (k + 1) * m = p * (p ^ k * m) := by rw [Nat.pow_succ, Nat.mul_comm (p ^ k) p, Nat.mul_assoc]
    rw [e, vp_s (Nat.mul_pos (by omega) (Nat.mul_pos (Nat.pow_pos (by omega)) hm)) hp (Nat.mul_mod_right p _), Nat.mul_div_cancel_left _ (by omega), vp_eq hp h]
theorem vp_rest {p : Nat} (hp : 2 ≤ p) : ∀ {n : Nat}, 0 < n → n / p ^ vp p n % p ≠ 0 := by
  intro n
  induction n using Nat.strongRecOn with
  | _ n ih =>
    intro hn
    by_cases h : n % p = 0
    · rw [vp_s hn hp h, Nat.pow_succ, Nat.mul_comm, ← Nat.div_div_eq_div_mul]
      exact ih (n / p) (Nat.div_lt_self hn (by omega)) (Nat.div_pos (Nat.le_of_dvd hn (Nat.dvd_of_mod_eq_zero h)) (by omega))
    · rw [vp_no h, Nat.pow_zero, Nat.div_one]; exact h
theorem vp_split {p n : Nat} (hp : 2 ≤ p) (hn : 0 < n) : n = p ^ vp p n * (n / p ^ vp p n) := (Nat.mul_div_cancel' (vp_dvd hp hn)).symm
theorem vp_mul {p a b : Nat} (h : Pr p) (ha : 0 < a) (hb : 0 < b) : vp p (a * b) = vp p a + vp p b := by
  have e : a * b = p ^ (vp p a + vp p b) * ((a / p ^ vp p a) * (b / p ^ vp p b)) := by
    conv => lhs; rw [vp_split h.1 ha, vp_split h.1 hb]
    rw [Nat.pow_add]
    simp only [Nat.mul_assoc, Nat.mul_comm, Nat.mul_left_comm]
  conv => lhs; rw [e]
  refine vp_eq h.1 fun z => ?_
  rcases h.mul (Nat.dvd_of_mod_eq_zero z) with y | y
  · exact vp_rest h.1 ha (Nat.mod_eq_zero_of_dvd y)
  · exact vp_rest h.1 hb (Nat.mod_eq_zero_of_dvd y)
theorem vp_one {p : Nat} (hp : 2 ≤ p) : vp p 1 = 0 := vp_no (by rw [Nat.mod_eq_of_lt (by omega)]; decide)
theorem vp_self {p : Nat} (hp : 2 ≤ p) : vp p p = 1 := by
  have := vp_eq (k := 1) (m := 1) hp (by rw [Nat.mod_eq_of_lt (by omega)]; decide)
  rwa [Nat.pow_one, Nat.mul_one] at this
theorem vp_pos {p n : Nat} (hn : 0 < n) (hp : 2 ≤ p) (h : p ∣ n) : 0 < vp p n := by rw [vp_s hn hp (Nat.mod_eq_zero_of_dvd h)]; omega
theorem vp_lt {p n : Nat} (hp : 2 ≤ p) (hn : 0 < n) : vp p n < n := by
  have h1 := Nat.le_of_dvd hn (vp_dvd hp hn)
  have h2 : vp p n < 2 ^ vp p n := Nat.lt_two_pow_self
  have h3 : 2 ^ vp p n ≤ p ^ vp p n := Nat.pow_le_pow_left hp _
  omega

/-! ### partings -/
/-- the ascending list of all primes that divide, with how often -/
structure PF (n : Nat) (l : List (Nat × Nat)) : Prop where
  s : l.Pairwise (fun a b => a.1 < b.1)
  m : ∀ q k, (q, k) ∈ l ↔ Pr q ∧ q ∣ n ∧ k = vp q n
theorem sorted_eq : ∀ {l r : List (Nat × Nat)}, l.Pairwise (fun a b => a.1 < b.1) → r.Pairwise (fun a b => a.1 < b.1) → (∀ x, x ∈ l ↔ x ∈ r) → l = r
  | [], [], _, _, _ => rfl
  | [], y :: r, _, _, h => absurd ((h y).mpr (List.mem_cons_self ..)) (by simp)
  | x :: l, [], _, _, h => absurd ((h x).mp (List.mem_cons_self ..)) (by simp)
  | x :: l, y :: r, h1, h2, h => by
    have a1 := List.pairwise_cons.mp h1
    have a2 := List.pairwise_cons.mp h2
    have e : x = y := by
      rcases List.mem_cons.mp ((h x).mp (List.mem_cons_self ..)) with z | z
      · exact z
      · rcases List.mem_cons.mp ((h y).mpr (List.mem_cons_self ..)) with w | w
        · exact w.symm
        · have b1 := a2.1 x z
          have b2 := a1.1 y w
          omega
    subst e
    congr 1
    refine sorted_eq a1.2 a2.2 fun z => ?_
    constructor
    · intro hz
      rcases List.mem_cons.mp ((h z).mp (List.mem_cons_of_mem _ hz)) with w | w
      · have := a1.1 z hz
        rw [w] at this; omega
      · exact w
    · intro hz
      rcases List.mem_cons.mp ((h z).mpr (List.mem_cons_of_mem _ hz)) with w | w
      · have := a2.1 z hz
        rw [w] at this; omega
      · exact w
theorem PF.uniq {n : Nat} {l r : List (Nat × Nat)} (h : PF n l) (g : PF n r) : l = r := sorted_eq h.s g.s fun ⟨q, k⟩ => (h.m q k).trans (g.m q k).symm
theorem PF.one : PF 1 [] := ⟨List.Pairwise.nil, fun q k => by
  constructor
  · intro h; exact nomatch h
  · rintro ⟨h1, h2, _⟩
    have := Nat.le_of_dvd (by decide) h2
    have := h1.1
    omega⟩
theorem PF.prime {p : Nat} (h : Pr p) : PF p [(p, 1)] := ⟨List.pairwise_singleton .., fun q k => by
  rw [List.mem_singleton]
  constructor
  · rintro e
    cases e
    exact ⟨h, Nat.dvd_refl _, (vp_self h.1).symm⟩
  · rintro ⟨h1, h2, rfl⟩
    have e := h1.eq h h2
    subst e
    rw [vp_self h.1]⟩
/-- no lesser prime divides it -/
def Inv (p n : Nat) : Prop := ∀ q, Pr q → q < p → n % q ≠ 0
theorem inv2 (n : Nat) : Inv 2 n := fun q h hq => by have := h.1; omega
theorem Inv.prime {p n : Nat} (h : Inv p n) (hp : 2 ≤ p) (hd : n % p = 0) : Pr p := by
  obtain ⟨q, hq, e⟩ := pr_div p hp
  have hqp := Nat.le_of_dvd (by omega) (Nat.dvd_of_mod_eq_zero e)
  by_cases z : q = p
  · exact z ▸ hq
  · exact absurd (Nat.mod_eq_zero_of_dvd (Nat.dvd_trans (Nat.dvd_of_mod_eq_zero e) (Nat.dvd_of_mod_eq_zero hd))) (h q hq (by omega))
theorem Inv.no {p n : Nat} (h : Inv p n) (hd : n % p ≠ 0) : Inv (p + 1) n := fun q hq hlt => by
  by_cases z : q = p
  · exact z ▸ hd
  · exact h q hq (by omega)
theorem Inv.skip {p n : Nat} (h : Inv p n) (hp : ¬ Pr p) : Inv (p + 1) n := fun q hq hlt => by
  by_cases z : q = p
  · exact absurd (z ▸ hq) hp
  · exact h q hq (by omega)
theorem Inv.dvd {p n m : Nat} (h : Inv p n) (hd : m ∣ n) : Inv p m := fun q hq hlt e => h q hq hlt (Nat.mod_eq_zero_of_dvd (Nat.dvd_trans (Nat.dvd_of_mod_eq_zero e) hd))
theorem rest_dvd {p n : Nat} (hp : 2 ≤ p) (hn : 0 < n) : n / p ^ vp p n ∣ n := ⟨p ^ vp p n, by rw [Nat.mul_comm]; exact vp_split hp hn⟩
theorem rest_pos {p n : Nat} (hp : 2 ≤ p) (hn : 0 < n) : 0 < n / p ^ vp p n := Nat.pos_of_dvd_of_pos (rest_dvd hp hn) hn
theorem Inv.out {p n : Nat} (h : Inv p n) (hp : 2 ≤ p) (hn : 0 < n) : Inv (p + 1) (n / p ^ vp p n) := (h.dvd (rest_dvd hp hn)).no (vp_rest hp hn)
/-- what is left is a prime -/
theorem Inv.last {p n : Nat} (h : Inv p n) (h1 : 1 < n) (hp : n < p * p) : Pr n := by
  obtain ⟨q, hq, e⟩ := pr_div n h1
  have hqd := Nat.dvd_of_mod_eq_zero e
  obtain ⟨c, hc⟩ := hqd
  by_cases hc1 : c = 1
  · rw [hc, hc1, Nat.mul_one]; exact hq
  · exfalso
    have hc0 : 0 < c := Nat.pos_of_ne_zero (by rintro rfl; omega)
    have hqp : p ≤ q := Nat.le_of_not_lt fun z => h q hq z e
    obtain ⟨r, hr, e2⟩ := pr_div c (by omega)
    have hrp : p ≤ r := Nat.le_of_not_lt fun z => h r hr z (Nat.mod_eq_zero_of_dvd (Nat.dvd_trans (Nat.dvd_of_mod_eq_zero e2) ⟨q, by rw [hc, Nat.mul_comm]⟩))
    have hrc := Nat.le_of_dvd hc0 (Nat.dvd_of_mod_eq_zero e2)
    have : p * p ≤ q * c := Nat.mul_le_mul hqp (by omega)
    omega
theorem PF.cons {p n : Nat} {l : List (Nat × Nat)} (hi : Inv p n) (hp : 2 ≤ p) (hn : 0 < n) (hd : n % p = 0) (h : PF (n / p ^ vp p n) l) : PF n ((p, vp p n) :: l) := by
  have hpr := hi.prime hp hd
  have hr0 := rest_pos hp hn
  have key : ∀ q, Pr q → q ≠ p → vp q (n / p ^ vp p n) = vp q n := fun q hq hne => by
    conv => rhs; rw [vp_split hp hn]
    rw [vp_mul hq (Nat.pow_pos (by omega)) hr0, vp_no (n := p ^ vp p n) (fun e => hne (hq.eq hpr (hq.pow (Nat.dvd_of_mod_eq_zero e)))), Nat.zero_add]
  refine ⟨List.pairwise_cons.mpr ⟨fun ⟨q, k⟩ hm => ?_, h.s⟩, fun q k => ?_⟩
  · obtain ⟨h1, h2, _⟩ := (h.m q k).mp hm
    show p < q
    have := hi.out hp hn
    exact Nat.lt_of_not_le fun z => this q h1 (by omega) (Nat.mod_eq_zero_of_dvd h2)
  · rw [List.mem_cons, h.m]
    constructor
    · rintro (e | ⟨h1, h2, h3⟩)
      · cases e
        exact ⟨hpr, Nat.dvd_of_mod_eq_zero hd, rfl⟩
      · have hne : q ≠ p := by rintro rfl; exact vp_rest hp hn (Nat.mod_eq_zero_of_dvd h2)
        exact ⟨h1, Nat.dvd_trans h2 (rest_dvd hp hn), by rw [h3, key q h1 hne]⟩
    · rintro ⟨h1, h2, h3⟩
      by_cases e : q = p
      · subst e; subst h3; exact .inl rfl
      · refine .inr ⟨h1, ?_, by rw [h3, key q h1 e]⟩
        rw [vp_split hp hn] at h2
        rcases h1.mul h2 with z | z
        · exact absurd (h1.eq hpr (h1.pow z)) e
        · exact z

/-! ### a parting that can be asked -/
def out (p : Nat) : Nat → Nat → Nat × Nat
  | 0, n => (0, n)
  | f + 1, n => if n % p = 0 then ((out p f (n / p)).1 + 1, (out p f (n / p)).2) else (0, n)
theorem out_eq {p : Nat} (hp : 2 ≤ p) : ∀ (f n : Nat), 0 < n → n < 2 ^ f → out p f n = (vp p n, n / p ^ vp p n)
  | 0, n, hn, h => by rw [Nat.pow_zero] at h; omega
  | f + 1, n, hn, h => by
    rw [out]
    by_cases z : n % p = 0
    · have h0 : 0 < n / p := Nat.div_pos (Nat.le_of_dvd hn (Nat.dvd_of_mod_eq_zero z)) (by omega)
      have h1 : n / p < 2 ^ f := by
        have : n / p ≤ n / 2 := Nat.div_le_div_left hp (by decide)
        rw [Nat.pow_succ] at h
        omega
      rw [if_pos z, out_eq hp f (n / p) h0 h1, vp_s hn hp z]
      show (_, _) = (_, _)
      rw [Nat.pow_succ, Nat.mul_comm (p ^ _) p, ← Nat.div_div_eq_div_mul]
    · rw [if_neg z, vp_no z, Nat.pow_zero, Nat.div_one]
def pfc : Nat → Nat → Nat → List (Nat × Nat)
  | 0, _, _ => []
  | f + 1, p, n => if n < p * p then (if n ≤ 1 then [] else [(n, 1)]) else if n % p = 0 then (p, (out p 64 n).1) :: pfc f (p + 1) (out p 64 n).2 else pfc f (p + 1) n
def pf (n : Nat) : List (Nat × Nat) := pfc (n + 1) 2 n
theorem pfc_ok : ∀ (f p n : Nat), 2 ≤ p → 0 < n → n < 2 ^ 64 → n < (p + f) * (p + f) → Inv p n → PF n (pfc (f + 1) p n) := by
  intro f
  induction f with
  | zero =>
    intro p n hp hn h64 hlt hi
    have hlt : n < p * p := by simpa using hlt
    rw [pfc, if_pos hlt]
    by_cases z1 : n ≤ 1
    · rw [if_pos z1, show n = 1 by omega]; exact PF.one
    · rw [if_neg z1]; exact PF.prime (hi.last (by omega) hlt)
  | succ f ih =>
    intro p n hp hn h64 hlt hi
    rw [pfc]
    by_cases z : n < p * p
    · rw [if_pos z]
      by_cases z1 : n ≤ 1
      · rw [if_pos z1, show n = 1 by omega]; exact PF.one
      · rw [if_neg z1]; exact PF.prime (hi.last (by omega) z)
    · rw [if_neg z]
      have e : p + (f + 1) = p + 1 + f := by omega
      rw [e] at hlt
      by_cases y : n % p = 0
      · rw [if_pos y, out_eq hp 64 n hn h64]
        have hr := Nat.le_of_dvd hn (rest_dvd (p := p) hp hn)
        exact PF.cons hi hp hn y (ih (p + 1) _ (by omega) (rest_pos hp hn) (by omega) (by omega) (hi.out hp hn))
      · rw [if_neg y]
        exact ih (p + 1) n (by omega) hn h64 hlt (hi.no y)
theorem pf_ok {n : Nat} (hn : 0 < n) (h : n < 2 ^ 64) : PF n (pf n) := pfc_ok n 2 n (by decide) hn h (by
  have : n ≤ (2 + n) * 1 := by omega
  have : (2 + n) * 1 < (2 + n) * (2 + n) := Nat.mul_lt_mul_of_pos_left (by omega) (by omega)
  omega) (inv2 n)
def prB (n : Nat) : Bool := decide (pf n = [(n, 1)])
theorem prB_iff {n : Nat} (hn : 0 < n) (h : n < 2 ^ 64) : prB n = true ↔ Pr n := by
  unfold prB
  rw [decide_eq_true_iff]
  constructor
  · intro e
    have := (pf_ok hn h).m n 1
    rw [e] at this
    exact (this.mp (List.mem_singleton.mpr rfl)).1
  · intro hp
    exact (pf_ok hn h).uniq (PF.prime hp)
/-! ### what a parting's primes make -/
theorem PF.low {n q k : Nat} {l : List (Nat × Nat)} (h : PF n l) (hn : 0 < n) (hm : (q, k) ∈ l) : 2 ≤ q ∧ q ≤ n ∧ 1 ≤ k ∧ k < n := by
  obtain ⟨h1, h2, h3⟩ := (h.m q k).mp hm
  have a := Nat.le_of_dvd hn h2
  have b := vp_pos hn h1.1 h2
  have c := vp_lt h1.1 hn
  exact ⟨h1.1, a, by omega, by omega⟩
/-- a parting's head and its rest -/
theorem PF.tail {n p k : Nat} {l : List (Nat × Nat)} (h : PF n ((p, k) :: l)) (hn : 0 < n) : Pr p ∧ k = vp p n ∧ n = p ^ k * (n / p ^ k) ∧ PF (n / p ^ k) l ∧ 0 < n / p ^ k ∧ n / p ^ k % p ≠ 0 ∧ 0 < k := by
  obtain ⟨h1, h2, h3⟩ := (h.m p k).mp (List.mem_cons_self ..)
  have hs := List.pairwise_cons.mp h.s
  have hr0 := rest_pos h1.1 hn
  have hpos := vp_pos hn h1.1 h2
  subst h3
  refine ⟨h1, rfl, vp_split h1.1 hn, ⟨hs.2, fun q k => ?_⟩, hr0, vp_rest h1.1 hn, hpos⟩
  have key : ∀ q, Pr q → q ≠ p → vp q (n / p ^ vp p n) = vp q n := fun q hq hne => by
    conv => rhs; rw [vp_split h1.1 hn]
    rw [vp_mul hq (Nat.pow_pos h1.pos) hr0, vp_no (n := p ^ vp p n) (fun e => hne (hq.eq h1 (hq.pow (Nat.dvd_of_mod_eq_zero e)))), Nat.zero_add]
  constructor
  · intro hm
    have hlt := hs.1 _ hm
    obtain ⟨a1, a2, a3⟩ := (h.m q k).mp (List.mem_cons_of_mem _ hm)
    have hne : q ≠ p := by simp at hlt; omega
    refine ⟨a1, ?_, by rw [a3, key q a1 hne]⟩
    rw [vp_split h1.1 hn] at a2
    rcases a1.mul a2 with z | z
    · exact absurd (a1.eq h1 (a1.pow z)) hne
    · exact z
  · rintro ⟨a1, a2, a3⟩
    have hne : q ≠ p := by rintro rfl; exact vp_rest h1.1 hn (Nat.mod_eq_zero_of_dvd a2)
    rcases List.mem_cons.mp ((h.m q k).mpr ⟨a1, Nat.dvd_trans a2 (rest_dvd h1.1 hn), by rw [a3, key q a1 hne]⟩) with z | z
    · cases z; exact absurd rfl hne
    · exact z
def prd (l : List (Nat × Nat)) : Nat := l.foldr (fun y a => y.1 ^ y.2 * a) 1
theorem PF.prd : ∀ {l : List (Nat × Nat)} {n : Nat}, 0 < n → PF n l → prd l = n
  | [], n, hn, h => by
    show 1 = n
    by_cases z : n = 1
    · exact z.symm
    · obtain ⟨q, hq, e⟩ := pr_div n (by omega)
      exact absurd ((h.m q (vp q n)).mpr ⟨hq, Nat.dvd_of_mod_eq_zero e, rfl⟩) (by simp)
  | (p, k) :: l, n, hn, h => by
    obtain ⟨_, _, h3, h4, h5, _⟩ := h.tail hn
    show p ^ k * Wk.prd l = n
    rw [PF.prd h5 h4]
    exact h3.symm
theorem PF.len {n : Nat} {l : List (Nat × Nat)} (hn : 0 < n) (h : PF n l) : 2 ^ l.length ≤ n := by
  rw [← h.prd hn]
  have : ∀ r : List (Nat × Nat), (∀ y ∈ r, 2 ≤ y.1 ∧ 1 ≤ y.2) → 2 ^ r.length ≤ Wk.prd r := by
    intro r
    induction r with
    | nil => intro _; exact Nat.le_refl _
    | cons y r ih =>
      intro hy
      have h1 := hy y (List.mem_cons_self ..)
      have h2 := ih fun z hz => hy z (List.mem_cons_of_mem _ hz)
      show 2 ^ (r.length + 1) ≤ y.1 ^ y.2 * Wk.prd r
      rw [Nat.pow_succ, Nat.mul_comm]
      refine Nat.mul_le_mul ?_ h2
      have : y.1 ^ 1 ≤ y.1 ^ y.2 := Nat.pow_le_pow_right (by omega) h1.2
      rw [Nat.pow_one] at this
      omega
  exact this l fun ⟨q, k⟩ hm => by have := h.low hn hm; exact ⟨this.1, this.2.2.1⟩
end Wk
set_option Elab.async false
set_option maxRecDepth 100000
set_option maxHeartbeats 4000000
set_option linter.all false
/-! P6: draws of a pot that is a list -/
namespace Wk
open PySem L2
open PyProof.Rows hiding St
theorem of_ok {s : PotT} {b : Nat} {m : Int} (h : Pot s (b + 1)) (hm : 0 < m) (hm2 : m < 2 ^ 900) : Tt s (m__law_of m) fun a s1 => 0 ≤ a ∧ a < m ∧ Pot s1 b := by
  have hdv : Dv m := dv_of hm (Int.lt_trans hm2 (by decide +kernel))
  unfold m__law_of
  by_cases h1 : m < 2
  · exact Tt.pos (by rw [decide_eq_true_iff]; exact h1) (tt_bnd.mpr (tt_pure.mpr ⟨Int.le_refl _, hm, h.le (by omega)⟩))
  refine Tt.neg (by rw [decide_eq_true_iff]; exact h1) (tt_bind.mpr ⟨s, s, rfl, ?_⟩)
  obtain ⟨g, x, t⟩ := s
  have hl := h.l
  have m0 := h.m0
  have m1 := h.m1
  have t0 := h.t0
  have t1 := h.t1
  have hg := h.g
  dsimp only at hl m0 m1 t0 t1 hg
  cases e : g.getLast? with
  | some c =>
    have hne : g ≠ [] := by rintro rfl; cases e
    have hc : 0 ≤ c := hg c (List.mem_of_getLast? e)
    have hr : ∀ d ∈ g.dropLast, 0 ≤ d := fun d hd => hg d (List.dropLast_subset g hd)
    have hdl : g.dropLast.length = g.length - 1 := List.length_dropLast
    have hl1 : 1 ≤ g.length := List.length_pos_iff.mpr hne
    refine Tt.pos (by unfold neG; cases g with | nil => exact absurd rfl hne | cons _ _ => rfl) (tt_bind.mpr ⟨c, ⟨g.dropLast, x, t⟩, by show popL _ = _; unfold popL; rw [e], tt_bnd.mpr ?_⟩)
    refine Tt.then (P' := fun _ s1 => Pot s1 b) ?_ ?_
    · by_cases z : m ≤ c
      · refine Tt.pos (by rw [decide_eq_true_iff]; exact z) (tt_grd.mpr ⟨hdv, tt_bind.mpr ⟨_, _, rfl, tt_grd.mpr ⟨by show g.dropLast.length < 16000000; omega, tt_bind.mpr ⟨(), _, rfl, tt_pure.mpr ?_⟩⟩⟩⟩)
        refine ⟨fun d hd => ?_, by show (g.dropLast ++ [c / m]).length ≤ 100; rw [List.length_append]; simp; omega, m0, m1, t0, by show t + (b : Int) ≤ _; omega⟩
        rcases List.mem_append.mp hd with e | hd
        · exact hr d e
        · rw [List.mem_singleton.mp hd]; exact Int.ediv_nonneg hc (by omega)
      · exact Tt.neg (by rw [decide_eq_true_iff]; exact z) (tt_pure.mpr ⟨hr, by show g.dropLast.length ≤ 100; omega, m0, m1, t0, by show t + (b : Int) ≤ _; omega⟩)
    · intro _ s1 q
      exact tt_grd.mpr ⟨hm, tt_bnd.mpr (tt_pure.mpr ⟨Int.emod_nonneg _ (by omega), Int.emod_lt_of_pos _ hm, q⟩)⟩
  | none =>
    have hg0 : g = [] := List.getLast?_eq_none_iff.mp e
    subst hg0
    have b1 : t + 1 ≤ 10 ^ 9 := by omega
    refine Tt.neg (by show ¬ (false = true); decide) ?_
    refine tt_bind.mpr ⟨_, _, rfl, tt_bind.mpr ⟨(), _, rfl, tt_bind.mpr ⟨_, _, rfl, tt_bind.mpr ⟨_, _, rfl, ?_⟩⟩⟩⟩
    show Tt (PotT.mk [] x (t + 1)) (Mir.lft (grd (Sm (t + 1) ∧ Sm (2654435761 : Int))) >>= _) _
    have c1 : 0 ≤ (x + (t + 1) * 2654435761) % 4294967279 ∧ (x + (t + 1) * 2654435761) % 4294967279 < 4294967279 := ⟨Int.emod_nonneg _ (by decide), Int.emod_lt_of_pos _ (by decide)⟩
    refine tt_grd.mpr ⟨⟨sm_small (by omega), sm_small (by decide)⟩, tt_grd.mpr ⟨by decide, tt_bnd.mpr ?_⟩⟩
    show Tt (PotT.mk [] x (t + 1)) (Mir.lft (grd (Sm ((x + (t + 1) * 2654435761) % 4294967279) ∧ Sm ((x + (t + 1) * 2654435761) % 4294967279))) >>= _) _
    generalize (x + (t + 1) * 2654435761) % 4294967279 = y at c1 ⊢
    refine tt_grd.mpr ⟨⟨sm_small (by omega), sm_small (by omega)⟩, tt_bind.mpr ⟨_, _, rfl, tt_grd.mpr ⟨⟨sm_small (by show (t + 1).natAbs ≤ _; omega), sm_small (by decide)⟩, tt_grd.mpr ⟨by decide, tt_bnd.mpr ?_⟩⟩⟩⟩
    show Tt (PotT.mk [] x (t + 1)) (Mir.lft (grd (Sm ((y * y + (t + 1) * 40503 + 5) % 4294967231) ∧ Sm ((y * y + (t + 1) * 40503 + 5) % 4294967231))) >>= _) _
    have c2 : 0 ≤ (y * y + (t + 1) * 40503 + 5) % 4294967231 ∧ (y * y + (t + 1) * 40503 + 5) % 4294967231 < 4294967231 := ⟨Int.emod_nonneg _ (by decide), Int.emod_lt_of_pos _ (by decide)⟩
    generalize (y * y + (t + 1) * 40503 + 5) % 4294967231 = u at c2 ⊢
    refine tt_grd.mpr ⟨⟨sm_small (by omega), sm_small (by omega)⟩, tt_bind.mpr ⟨_, _, rfl, tt_grd.mpr ⟨by decide, tt_bnd.mpr (tt_grd.mpr ⟨dv_of (by decide) (by decide +kernel), tt_grd.mpr ⟨hm, tt_bnd.mpr (tt_pure.mpr ⟨Int.emod_nonneg _ (by omega), Int.emod_lt_of_pos _ hm, ?_⟩)⟩⟩)⟩⟩⟩
    exact ⟨fun d hd => (nomatch hd), Nat.zero_le _, m0, m1, by show 0 ≤ t + 1; omega, by show t + 1 + (b : Int) ≤ _; omega⟩
theorem one_ok {s : PotT} {b : Nat} {row : List Int} (h : Pot s (b + 1)) (h0 : row ≠ []) (hl : row.length ≤ 10000) : Tt s (m__law_one row) fun a s1 => a ∈ row ∧ Pot s1 b := by
  unfold m__law_one
  have hp : 0 < row.length := List.length_pos_iff.mpr h0
  refine (of_ok h (by omega) (Int.lt_of_le_of_lt (b := 10000) (by omega) (by decide +kernel))).then fun a s1 ⟨h1, h2, h3⟩ => ?_
  obtain ⟨n, rfl⟩ : ∃ n : Nat, a = n := ⟨a.toNat, by omega⟩
  have hn : n < row.length := by omega
  rw [tt_lft (show atI row (n : Int) = some row[n] by rw [atI_nat hn, List.getElem?_eq_getElem hn])]
  exact tt_bnd.mpr (tt_pure.mpr ⟨List.getElem_mem hn, h3⟩)
theorem pot_ok {ns : List Int} (hb : ∀ i ∈ ns, Builtin.Int.intBits i ≤ 1048576) (hl : ns.length ≤ 63) : ∃ s, m__law_pot ns = some s ∧ Pot s 900000000 := by
  refine tt_ex ?_
  unfold m__law_pot
  have hlen : (cut ns none (some (63 : Int))).length ≤ 63 := by
    rw [show (63 : Int) = ((63 : Nat) : Int) by rfl, cut_head, List.length_take]; omega
  refine tt_grd.mpr ⟨by omega, ?_⟩
  refine tt_map (g := fun (x1 : Int) => ((2 : Int) * (if x1 < 0 then -x1 else x1)) + (if (decide (x1 < (0 : Int))) = true then (1 : Int) else 0)) (fun x hx s Q hQ => ?_) ?_
  · rw [show (63 : Int) = ((63 : Nat) : Int) by rfl, cut_head] at hx
    have := bits_sm (hb x (List.mem_of_mem_take hx))
    refine tt_grd.mpr ⟨⟨sm_small (by decide), ?_⟩, tt_pure.mpr hQ⟩
    rw [abs_if]; unfold Sm; rw [Int.natAbs_natCast]; omega
  · refine tt_bnd.mpr (tt_grd.mpr ⟨⟨sm_small (by decide), sm_small (by omega)⟩, tt_bnd.mpr (Tt.then (P' := fun st _ => 0 ≤ st ∧ st < 2 ^ 40) ?_ ?_)⟩)
    · refine Tt.lp (I := fun (_ : List Int) (st : Int) (_ : Unit) => 0 ≤ st ∧ st < 2 ^ 40) ?_ _ _ _ ?_
      · rintro x xs st s ⟨h1, h2⟩
        exact tt_grd.mpr ⟨⟨sm_small (by omega), sm_small (by decide)⟩, tt_grd.mpr ⟨by decide, tt_bnd.mpr (tt_pure.mpr ⟨Int.emod_nonneg _ (by decide), Int.lt_of_lt_of_le (Int.emod_lt_of_pos _ (by decide)) (by decide)⟩)⟩⟩
      · exact ⟨by omega, by omega⟩
    · rintro st s1 ⟨h1, h2⟩
      refine tt_grd.mpr ⟨by rw [List.length_map]; omega, ?_⟩
      refine tt_filterMap (g := fun (x : Int) => if (decide (((10 : Int) ^ Int.toNat (12 : Int)) < x)) = true then some x else none) (fun x hx s Q hQ => tt_grd.mpr ⟨by decide, ?_⟩) (tt_bnd.mpr (tt_pure.mpr ?_))
      · by_cases z : decide (((10 : Int) ^ Int.toNat (12 : Int)) < x) = true
        · rw [if_pos z] at hQ; exact Tt.pos z (tt_pure.mpr hQ)
        · rw [if_neg z] at hQ; exact Tt.neg z (tt_pure.mpr hQ)
      · refine ⟨fun c hc => ?_, ?_, h1, h2, by show (0 : Int) ≤ 0; decide, by show (0 : Int) + ((900000000 : Nat) : Int) ≤ _; decide⟩
        · obtain ⟨x, hx, e⟩ := List.mem_filterMap.mp hc
          split at e
          · rename_i z
            have z := of_decide_eq_true z
            cases e
            exact Int.le_trans (by decide) (Int.le_of_lt z)
          · cases e
        · exact Nat.le_trans (List.length_filterMap_le ..) (by rw [List.length_map]; omega)
end Wk
set_option Elab.async false
set_option maxRecDepth 1000000
set_option maxHeartbeats 4000000
set_option linter.all false
/-! A86a: primes by trial, what is left when some primes have struck -/
namespace Wk
open PySem L2
open PyProof.Rows hiding St
def ci (l : List Nat) : List Int := l.map fun d : Nat => (d : Int)
theorem ci_len (a : List Nat) : (ci a).length = a.length := List.length_map ..
theorem ci_app (a b : List Nat) : ci (a ++ b) = ci a ++ ci b := List.map_append
theorem ci_inj {a b : List Nat} (h : ci a = ci b) : a = b := List.map_inj_right (fun _ _ h => Int.ofNat.inj h) |>.mp h
theorem mem_ci {a : List Nat} {n : Nat} : (n : Int) ∈ ci a ↔ n ∈ a := by
  unfold ci
  rw [List.mem_map]
  constructor
  · rintro ⟨d, hd, e⟩
    have : d = n := Int.ofNat.inj e
    exact this ▸ hd
  · exact fun h => ⟨n, h, rfl⟩
def prb (n : Nat) : Bool := Nat.ble 2 n && (List.range n).all fun d => Nat.ble d 1 || !Nat.beq (n % d) 0
theorem prb_iff {n : Nat} : prb n = true ↔ Pr n := by
  unfold prb Pr
  rw [Bool.and_eq_true, List.all_eq_true, Nat.ble_eq]
  constructor
  · rintro ⟨h1, h2⟩
    refine ⟨h1, fun d h3 h4 h5 => ?_⟩
    have := h2 d (List.mem_range.mpr h4)
    rw [h5] at this
    have : Nat.ble d 1 = true := by simpa using this
    rw [Nat.ble_eq] at this
    omega
  · rintro ⟨h1, h2⟩
    refine ⟨h1, fun d hd => ?_⟩
    by_cases z : d ≤ 1
    · rw [Nat.ble_eq.mpr z]; rfl
    · have := h2 d (by omega) (List.mem_range.mp hd)
      have : Nat.beq (n % d) 0 = false := by
        cases e : Nat.beq (n % d) 0 with
        | false => rfl
        | true => exact absurd (Nat.eq_of_beq_eq_true e) this
      rw [this, Bool.not_false, Bool.or_true]
instance {n : Nat} : Decidable (Pr n) := decidable_of_iff (prb n = true) prb_iff
theorem prb_false {n : Nat} (h : ¬ Pr n) : prb n = false := by
  cases e : prb n with
  | false => rfl
  | true => exact absurd (prb_iff.mp e) h
theorem not_pr {n : Nat} (h2 : 2 ≤ n) (h : ¬ Pr n) : ∃ d, Pr d ∧ d * d ≤ n ∧ d ∣ n ∧ d < n := by
  have : ∃ d, 2 ≤ d ∧ d < n ∧ n % d = 0 := Classical.byContradiction fun hn => h ⟨h2, fun d h1 h3 h4 => hn ⟨d, h1, h3, h4⟩⟩
  obtain ⟨d0, a1, a2, a3⟩ := this
  obtain ⟨j, hj, ⟨h3, h4⟩, h5⟩ := least (P := fun d => 2 ≤ d ∧ n % d = 0) (k := d0) ⟨a1, a3⟩
  have hd : j ∣ n := Nat.dvd_of_mod_eq_zero h4
  refine ⟨j, ⟨h3, fun e e1 e2 e3 => h5 e e2 ⟨e1, Nat.mod_eq_zero_of_dvd (Nat.dvd_trans (Nat.dvd_of_mod_eq_zero e3) hd)⟩⟩, ?_, hd, by omega⟩
  obtain ⟨m, rfl⟩ := hd
  have hm : 2 ≤ m := by
    rcases m with _ | _ | m
    · rw [Nat.mul_zero] at h2; omega
    · rw [Nat.mul_one] at a2; omega
    · omega
  have hjm : j ≤ m := Nat.le_of_not_lt fun w => h5 m w ⟨hm, Nat.mul_mod_left j m⟩
  exact Nat.mul_le_mul_left j hjm
def psb (n : Nat) : List Nat := (List.range n).filter prb
theorem psb_s (n : Nat) : psb (n + 1) = if prb n = true then psb n ++ [n] else psb n := by
  unfold psb
  rw [List.range_succ, List.filter_append]
  by_cases h : prb n = true
  · rw [if_pos h, List.filter_cons_of_pos h, List.filter_nil]
  · rw [if_neg h, List.filter_cons_of_neg h, List.filter_nil, List.append_nil]
theorem mem_psb {p n : Nat} : p ∈ psb n ↔ p < n ∧ Pr p := by
  unfold psb
  rw [List.mem_filter, List.mem_range, prb_iff]
theorem psb_len (n : Nat) : (psb n).length ≤ n := by
  have := List.length_filter_le prb (List.range n)
  rw [List.length_range] at this
  exact this
theorem psb_two : psb 2 = [] := by decide +kernel
theorem beq0 {n d : Nat} : Nat.beq (n % d) 0 = true ↔ d ∣ n := by
  rw [Nat.beq_eq, Nat.dvd_iff_mod_eq_zero]
theorem all_psb {n : Nat} (h : 2 ≤ n) : ((psb n).all fun p => !Nat.beq (n % p) 0) = prb n := by
  by_cases z : Pr n
  · rw [prb_iff.mpr z, List.all_eq_true]
    intro p hp
    obtain ⟨h1, h2⟩ := mem_psb.mp hp
    have := z.2 p h2.1 h1
    cases e : Nat.beq (n % p) 0 with
    | false => rfl
    | true => exact absurd (Nat.eq_of_beq_eq_true e) this
  · obtain ⟨d, h1, h2, h3, h4⟩ := not_pr h z
    rw [prb_false z, List.all_eq_false]
    exact ⟨d, mem_psb.mpr ⟨h4, h1⟩, by rw [beq0.mpr h3]; decide⟩
/-- those alone whose squares are no more -/
theorem all_psb2 {n : Nat} (h : 2 ≤ n) : (((psb n).filter fun p => Nat.ble (p * p) n).all fun p => !Nat.beq (n % p) 0) = prb n := by
  by_cases z : Pr n
  · rw [prb_iff.mpr z, List.all_eq_true]
    intro p hp
    obtain ⟨h1, h2⟩ := mem_psb.mp (List.mem_filter.mp hp).1
    have := z.2 p h2.1 h1
    cases e : Nat.beq (n % p) 0 with
    | false => rfl
    | true => exact absurd (Nat.eq_of_beq_eq_true e) this
  · obtain ⟨d, h1, h2, h3, h4⟩ := not_pr h z
    rw [prb_false z, List.all_eq_false]
    exact ⟨d, List.mem_filter.mpr ⟨mem_psb.mpr ⟨h4, h1⟩, Nat.ble_eq.mpr h2⟩, by rw [beq0.mpr h3]; decide⟩
/-! what is left -/
def keepB (b n : Nat) : Bool := Nat.ble 2 n && (psb b).all fun d => !Nat.beq (n % d) 0 || Nat.beq d n
theorem keep_iff {b n : Nat} : keepB b n = true ↔ 2 ≤ n ∧ ∀ d, Pr d → d < b → d ∣ n → d = n := by
  unfold keepB
  rw [Bool.and_eq_true, List.all_eq_true, Nat.ble_eq]
  refine and_congr_right fun _ => ⟨fun h d h1 h2 h3 => ?_, fun h d hd => ?_⟩
  · have := h d (mem_psb.mpr ⟨h2, h1⟩)
    rw [beq0.mpr h3] at this
    exact Nat.eq_of_beq_eq_true (by simpa using this)
  · obtain ⟨h1, h2⟩ := mem_psb.mp hd
    cases e : Nat.beq (n % d) 0 with
    | false => rfl
    | true =>
      have := h d h2 h1 (beq0.mp e)
      rw [Nat.beq_eq.mpr this]; rfl
theorem bool_eq {a b : Bool} (h : a = true ↔ b = true) : a = b := by cases a <;> cases b <;> simp_all
theorem keep_pr {b n : Nat} (h : ∀ d, Pr d → d * d ≤ n → d < b) : keepB b n = prb n := by
  refine bool_eq ?_
  rw [keep_iff, prb_iff]
  constructor
  · rintro ⟨h2, hk⟩
    refine Classical.byContradiction fun z => ?_
    obtain ⟨d, a1, a2, a3, a4⟩ := not_pr h2 z
    have := hk d a1 (h d a1 a2) a3
    omega
  · intro hp
    refine ⟨hp.1, fun d h1 _ h3 => ?_⟩
    rcases hp.one h3 with e | e
    · have := h1.1; omega
    · exact e
def F (b : Nat) (f : Nat → Int) : Nat → Int
  | 0 => 0
  | v + 1 => F b f v + if keepB b (v + 1) = true then f (v + 1) else 0
theorem F_eq {b c : Nat} {f : Nat → Int} : ∀ {v : Nat}, (∀ n, n ≤ v → keepB b n = keepB c n) → F b f v = F c f v
  | 0, _ => rfl
  | v + 1, h => by
    show F b f v + _ = F c f v + _
    rw [F_eq (v := v) fun n hn => h n (by omega), h (v + 1) (Nat.le_refl _)]
/-- no prime between: nothing changes -/
theorem keep_gap {b c n : Nat} (hbc : b ≤ c) (h : ∀ d, b ≤ d → d < c → ¬ Pr d) : keepB b n = keepB c n := by
  refine bool_eq ?_
  rw [keep_iff, keep_iff]
  refine and_congr_right fun _ => ⟨fun hk d h1 h2 => hk d h1 (Nat.lt_of_not_le fun w => h d w h2 h1), fun hk d h1 h2 => hk d h1 (by omega)⟩
theorem keep_low {p n : Nat} (hp : Pr p) (hn : n < p * p) : keepB (p + 1) n = keepB p n := by
  refine bool_eq ?_
  rw [keep_iff, keep_iff]
  refine and_congr_right fun h2 => ⟨fun hk d h1 h3 => hk d h1 (by omega), fun hk d h1 h3 h4 => ?_⟩
  by_cases e : d < p
  · exact hk d h1 e h4
  · have e : d = p := by omega
    subst e
    obtain ⟨m, rfl⟩ := h4
    rcases m with _ | _ | m
    · rw [Nat.mul_zero] at h2; omega
    · rw [Nat.mul_one]
    · have hm : m + 2 < d := Nat.lt_of_mul_lt_mul_left hn
      obtain ⟨q, q1, q2⟩ := pr_div (m + 2) (by omega)
      have q3 : q ∣ m + 2 := Nat.dvd_of_mod_eq_zero q2
      have q4 : q ≤ m + 2 := Nat.le_of_dvd (by omega) q3
      have := hk q q1 (by omega) (Nat.dvd_trans q3 (Nat.dvd_mul_left ..))
      have h5 : d * 1 ≤ d * (m + 1 + 1) := Nat.mul_le_mul_left d (by omega)
      omega
theorem keep_no {p n : Nat} (h : ¬ p ∣ n) : keepB (p + 1) n = keepB p n := by
  refine bool_eq ?_
  rw [keep_iff, keep_iff]
  refine and_congr_right fun h2 => ⟨fun hk d h1 h3 => hk d h1 (by omega), fun hk d h1 h3 h4 => ?_⟩
  by_cases e : d < p
  · exact hk d h1 e h4
  · have e : d = p := by omega
    subst e
    exact absurd h4 h
theorem keep_mul {p m : Nat} (hp : Pr p) (hm : p ≤ m) : keepB p (p * m) = keepB p m := by
  have h2 := hp.1
  have hlt : m < p * m := by
    have : 2 * m ≤ p * m := Nat.mul_le_mul_right m h2
    omega
  refine bool_eq ?_
  rw [keep_iff, keep_iff]
  constructor
  · rintro ⟨_, hk⟩
    refine ⟨by omega, fun d h1 h3 h4 => ?_⟩
    have := hk d h1 h3 (Nat.dvd_trans h4 (Nat.dvd_mul_left ..))
    omega
  · rintro ⟨_, hk⟩
    refine ⟨by omega, fun d h1 h3 h4 => ?_⟩
    rcases h1.mul h4 with e | e
    · have := h1.eq hp e; omega
    · have := hk d h1 h3 e; omega
theorem keep_div {p m : Nat} (hp : Pr p) (hm : 2 ≤ m) : keepB (p + 1) (p * m) = false := by
  cases e : keepB (p + 1) (p * m) with
  | false => rfl
  | true =>
    have := (keep_iff.mp e).2 p hp (by omega) (Nat.dvd_mul_right ..)
    have h2 := hp.1
    have : p * 2 ≤ p * m := Nat.mul_le_mul_left p hm
    omega
/-- one prime strikes -/
theorem F_strike {p : Nat} {f : Nat → Int} (hp : Pr p) (hf : ∀ m, f (p * m) = f p * f m) : ∀ {v : Nat}, p * p ≤ v + 1 → F (p + 1) f v = F p f v - f p * (F p f (v / p) - F p f (p - 1)) := by
  have h2 := hp.1
  have main : ∀ k, F (p + 1) f (p * p - 1 + k) = F p f (p * p - 1 + k) - f p * (F p f ((p * p - 1 + k) / p) - F p f (p - 1)) := by
    have hpp : p * 2 ≤ p * p := Nat.mul_le_mul_left p h2
    intro k
    induction k with
    | zero =>
      have e : (p * p - 1 + 0) / p = p - 1 := by
        have : p * p - 1 + 0 = p * (p - 1) + (p - 1) := by
          obtain ⟨q, rfl⟩ : ∃ q, p = q + 1 := ⟨p - 1, by omega⟩
          rw [Nat.add_sub_cancel, Nat.mul_succ]; omega
        rw [this, Nat.mul_add_div (by omega), Nat.div_eq_of_lt (by omega), Nat.add_zero]
      rw [e, Int.sub_self, Int.mul_zero, Int.sub_zero]
      exact F_eq fun n hn => keep_low hp (by omega)
    | succ k ih =>
      have e : p * p - 1 + (k + 1) = (p * p - 1 + k) + 1 := by omega
      rw [e]
      show F (p + 1) f (p * p - 1 + k) + _ = F p f (p * p - 1 + k) + _ - _
      rw [ih]
      generalize hv : p * p - 1 + k = v
      have hv2 : p * p ≤ v + 1 := by omega
      by_cases z : p ∣ v + 1
      · obtain ⟨m, hm⟩ := z
        have hm1 : p ≤ m := Nat.le_of_mul_le_mul_left (hm ▸ hv2) (by omega)
        have d1 : (v + 1) / p = m := by rw [hm, Nat.mul_div_cancel_left _ (by omega)]
        have d2 : v / p = m - 1 := by
          have : v = p * (m - 1) + (p - 1) := by
            obtain ⟨q, rfl⟩ : ∃ q, m = q + 1 := ⟨m - 1, by omega⟩
            rw [Nat.mul_succ] at hm
            rw [Nat.add_sub_cancel]; omega
          rw [this, Nat.mul_add_div (by omega), Nat.div_eq_of_lt (by omega), Nat.add_zero]
        rw [d1, d2]
        obtain ⟨q, rfl⟩ : ∃ q, m = q + 1 := ⟨m - 1, by omega⟩
        rw [Nat.add_sub_cancel]
        show _ = _ - f p * ((F p f q + _) - _)
        rw [hm, keep_div hp (by omega), keep_mul hp hm1, hf]
        by_cases w : keepB p (q + 1) = true
        · rw [if_pos w, if_pos w, if_neg (by decide), Int.mul_sub, Int.mul_sub, Int.mul_add]; omega
        · rw [if_neg w, if_neg w, if_neg (by decide), Int.add_zero, Int.add_zero, Int.add_zero]
      · have d : (v + 1) / p = v / p := Nat.succ_div_of_not_dvd z
        rw [d, keep_no z]
        omega
  intro v hv
  have := main (v - (p * p - 1))
  have e : p * p - 1 + (v - (p * p - 1)) = v := by omega
  rw [e] at this
  exact this
theorem F_low {p : Nat} {f : Nat → Int} (hp : Pr p) {v : Nat} (h : v < p * p) : F (p + 1) f v = F p f v := F_eq fun n hn => keep_low hp (by omega)
theorem F_gap {b c : Nat} {f : Nat → Int} (hbc : b ≤ c) (h : ∀ d, b ≤ d → d < c → ¬ Pr d) (v : Nat) : F b f v = F c f v := F_eq fun n _ => keep_gap hbc h
/-- nothing has struck -/
theorem keep_two {n : Nat} : keepB 2 n = Nat.ble 2 n := by
  unfold keepB
  rw [psb_two, List.all_nil, Bool.and_true]
end Wk
set_option Elab.async false
set_option maxRecDepth 1000000
set_option maxHeartbeats 4000000
set_option linter.all false
/-! A86b: primes found one after another -/
namespace Wk
open PySem L2
open PyProof.Rows hiding St
theorem mod_beq (n p : Nat) : (!decide ((n : Int) % (p : Int) = 0)) = !Nat.beq (n % p) 0 := by
  rw [nmod]
  refine congrArg Bool.not (bool_eq ?_)
  rw [decide_eq_true_iff, Nat.beq_eq]; omega
theorem all_g {n : Nat} (h : 2 ≤ n) : (((ci (psb n)).map fun x : Int => !decide ((n : Int) % x = 0)).all id) = prb n := by
  rw [← all_psb h]; unfold ci
  rw [List.map_map, List.all_map]
  refine congrArg (fun f => List.all (psb n) f) (funext fun p => ?_)
  exact mod_beq n p
theorem fm_all (n : Nat) : ∀ l : List Nat, (((ci l).filterMap fun x : Int => if decide (x * x ≤ (n : Int)) = true then some (!decide ((n : Int) % x = 0)) else none).all id) = ((l.filter fun p => Nat.ble (p * p) n).all fun p => !Nat.beq (n % p) 0)
  | [] => rfl
  | p :: l => by
    have ih := fm_all n l
    show ((((p : Int) :: ci l).filterMap _).all id) = _
    rw [List.filterMap_cons]
    by_cases z : p * p ≤ n
    · rw [List.filter_cons_of_pos (p := fun p => Nat.ble (p * p) n) (Nat.ble_eq.mpr z), if_pos (decide_eq_true (by exact_mod_cast z))]
      show (id _ && _) = _
      rw [List.all_cons, ih, id, mod_beq]
    · have z2 : ¬ (p : Int) * (p : Int) ≤ (n : Int) := fun w => z (by exact_mod_cast w)
      rw [List.filter_cons_of_neg (p := fun p => Nat.ble (p * p) n) (fun w => z (Nat.ble_eq.mp w)), if_neg (by rw [decide_eq_true_iff]; exact z2)]
      exact ih
theorem psb_pos {n : Nat} {x : Int} (hx : x ∈ ci (psb n)) : 0 < x ∧ x < n := by
  obtain ⟨d, hd, rfl⟩ := List.mem_map.mp hx
  obtain ⟨h1, h2⟩ := mem_psb.mp hd
  have := h2.1
  omega
theorem ci_s {n : Nat} (z : prb n = true) : ci (psb n) ++ [(n : Int)] = ci (psb (n + 1)) := by
  rw [psb_s, if_pos z, ci_app]; rfl
theorem ci_n {n : Nat} (z : ¬ prb n = true) : ci (psb n) = ci (psb (n + 1)) := by
  rw [psb_s, if_neg z]
theorem grow_ok {n : Nat} (h : 2 ≤ n) (hn : n ≤ 1000000) {P : (List Int × Int) → Unit → Prop} {s : Unit} (hP : P (ci (psb (n + 1)), ((n + 1 : Nat) : Int)) s) :
    Tt s (μ := Option) (Mir.lft (grd (List.length (ci (psb n)) ≤ 16000000)) >>= fun _ => cmp (ci (psb n)) (fun x67 => Mir.lft (grd (0 < x67)) >>= fun _ => pure (some (!decide (((n : Int) % x67) = (0 : Int))))) >>= fun l119 => ((if (List.all l119 id) = true then
(Mir.lft (grd (List.length (ci (psb n)) < 16000000)) >>= fun _ => bnd (ci (psb n) ++ [(n : Int)]) fun found80 =>
pure found80)
else
(pure (ci (psb n)))) >>= fun (st70 : (List Int)) =>
bnd ((n : Int) + (1 : Int)) fun number109 =>
pure (st70, number109))) P := by
  have hl := psb_len n
  refine tt_grd.mpr ⟨by rw [ci_len]; omega, tt_map (g := fun x : Int => !decide ((n : Int) % x = 0)) (fun x hx s Q hQ => tt_grd.mpr ⟨(psb_pos hx).1, tt_pure.mpr hQ⟩) ?_⟩
  rw [all_g h]
  refine Tt.then (P' := fun st _ => st = ci (psb (n + 1))) ?_ ?_
  · by_cases z : prb n = true
    · exact Tt.pos z (tt_grd.mpr ⟨by rw [ci_len]; omega, tt_bnd.mpr (tt_pure.mpr (ci_s z))⟩)
    · exact Tt.neg z (tt_pure.mpr (ci_n z))
  · rintro st s1 rfl
    exact tt_bnd.mpr (tt_pure.mpr hP)
theorem small_ok {x : Nat} (hx : x ≤ 100000) : ∃ n, 2 ≤ n ∧ n ≤ x + 2 ∧ x < n * n ∧ (n = 2 ∨ (n - 1) * (n - 1) ≤ x) ∧ m_small_primes (x : Int) = some (ci (psb n)) := by
  suffices h : ∃ r, m_small_primes (x : Int) = some r ∧ ∃ n, 2 ≤ n ∧ n ≤ x + 2 ∧ x < n * n ∧ (n = 2 ∨ (n - 1) * (n - 1) ≤ x) ∧ r = ci (psb n) by
    obtain ⟨r, e, n, a, b, c, d, rfl⟩ := h
    exact ⟨n, a, b, c, d, e⟩
  refine tt_ex ?_
  unfold m_small_primes
  refine tt_grd.mpr ⟨by simp, tt_bnd.mpr (tt_bnd.mpr (Tt.then (P' := fun st _ => ∃ n : Nat, 2 ≤ n ∧ n ≤ x + 2 ∧ x < n * n ∧ (n = 2 ∨ (n - 1) * (n - 1) ≤ x) ∧ st = (ci (psb n), (n : Int))) ?_ ?_))⟩
  · refine Tt.wh (I := fun st _ => ∃ n : Nat, 2 ≤ n ∧ n ≤ x + 2 ∧ (n = 2 ∨ (n - 1) * (n - 1) ≤ x) ∧ st = (ci (psb n), (n : Int))) (nu := fun st => ((x : Int) + 3 - st.2).toNat) ?_ _ _ _ ⟨2, by omega, by omega, .inl rfl, by rw [psb_two]; rfl⟩ (lt_many (by show ((x : Int) + 3 - 2).toNat < _; omega))
    rintro st s k P ⟨n, h1, h2, h3, rfl⟩ hk
    refine tt_grd.mpr ⟨⟨sm_small (by show (n : Int).natAbs ≤ _; omega), sm_small (by show (n : Int).natAbs ≤ _; omega)⟩, hk _ _ ?_ ?_⟩
    · intro ht
      have ht : n * n ≤ x := by
        have : (n : Int) * (n : Int) ≤ (x : Int) := of_decide_eq_true ht
        exact_mod_cast this
      have := Nat.le_mul_self n
      exact grow_ok h1 (by omega) ⟨⟨n + 1, by omega, by omega, .inr (by rw [Nat.add_sub_cancel]; exact ht), rfl⟩, by show ((x : Int) + 3 - ((n + 1 : Nat) : Int)).toNat < ((x : Int) + 3 - (n : Int)).toNat; omega⟩
    · intro ht
      refine ⟨n, h1, h2, ?_, h3, rfl⟩
      have ht := of_decide_eq_false ht
      exact Nat.lt_of_not_le fun w => ht (by show (n : Int) * (n : Int) ≤ _; exact_mod_cast w)
  · rintro st s ⟨n, h1, h2, h3, h4, rfl⟩
    exact tt_bnd.mpr (tt_pure.mpr ⟨n, h1, h2, h3, h4, rfl⟩)
theorem psb_pre {a b : Nat} (h : a ≤ b) : ∃ t, psb b = psb a ++ t := by
  obtain ⟨k, rfl⟩ : ∃ k, b = a + k := ⟨b - a, by omega⟩
  clear h
  induction k with
  | zero => exact ⟨[], by rw [List.append_nil]; rfl⟩
  | succ k ih =>
    obtain ⟨t, e⟩ := ih
    rw [← Nat.add_assoc, psb_s, e]
    by_cases z : prb (a + k) = true
    · exact ⟨t ++ [a + k], by rw [if_pos z, List.append_assoc]⟩
    · exact ⟨t, by rw [if_neg z]⟩
theorem prime_at_ok {x k : Nat} (hx : x ≤ 100000) (hk : k < (psb (x + 1)).length) : m_prime_at (k : Int) = some (((psb (x + 1))[k] : Nat) : Int) := by
  refine tt_eq ?_
  unfold m_prime_at
  refine tt_grd.mpr ⟨by simp, tt_bnd.mpr (tt_bnd.mpr (Tt.then (P' := fun st _ => ∃ n : Nat, n ≤ x ∧ (psb (n + 1)).length = k + 1 ∧ st = (ci (psb (n + 1)), (n : Int))) ?_ ?_))⟩
  · refine Tt.wh (I := fun st _ => ∃ n : Nat, 1 ≤ n ∧ n ≤ x ∧ (psb n).length ≤ k ∧ st = (ci (psb (n + 1)), (n : Int))) (nu := fun st => ((x : Int) + 3 - st.2).toNat) ?_ _ _ _ ⟨1, by omega, ?_, ?_, ?_⟩ (lt_many (by show ((x : Int) + 3 - 1).toNat < _; omega))
    · rintro st s kk P ⟨n, h1, h2, h3, rfl⟩ hkk
      refine hkk _ _ ?_ ?_
      · intro ht
        have ht : (psb (n + 1)).length ≤ k := by
          have := of_decide_eq_true ht
          have : ((ci (psb (n + 1))).length : Int) ≤ (k : Int) := this
          rw [ci_len] at this
          omega
        have hnx : n < x := by
          refine Nat.lt_of_le_of_ne h2 fun e => ?_
          subst e
          omega
        have hl := psb_len (n + 1)
        refine tt_bnd.mpr (Tt.then (P' := fun b _ => b = prb (n + 1)) ?_ ?_)
        · by_cases z : n + 1 < 4
          · refine Tt.pos (decide_eq_true (by show (n : Int) + 1 < 4; omega)) (tt_pure.mpr ?_)
            have : n = 1 ∨ n = 2 := by omega
            rcases this with e | e <;> subst e <;> decide +kernel
          · refine Tt.neg (by rw [decide_eq_true_iff]; show ¬ (n : Int) + 1 < 4; omega) (tt_grd.mpr ⟨by show (ci (psb (n + 1))).length ≤ _; rw [ci_len]; omega, ?_⟩)
            refine tt_filterMap (g := fun x : Int => if decide (x * x ≤ ((n + 1 : Nat) : Int)) = true then some (!decide (((n + 1 : Nat) : Int) % x = 0)) else none) (fun y hy s Q hQ => ?_) ?_
            · have hy2 := psb_pos hy
              refine tt_grd.mpr ⟨⟨sm_small (by omega), sm_small (by omega)⟩, ?_⟩
              by_cases w : decide (y * y ≤ ((n + 1 : Nat) : Int)) = true
              · rw [if_pos w] at hQ
                exact Tt.pos w (tt_grd.mpr ⟨hy2.1, tt_pure.mpr hQ⟩)
              · rw [if_neg w] at hQ
                exact Tt.neg w (tt_pure.mpr hQ)
            · refine tt_pure.mpr ?_
              show List.all (List.filterMap _ (ci (psb (n + 1)))) id = _
              rw [fm_all, all_psb2 (by omega)]
        · rintro b s1 rfl
          by_cases z : prb (n + 1) = true
          · refine Tt.pos z (tt_grd.mpr ⟨by show (ci (psb (n + 1))).length < _; rw [ci_len]; omega, tt_bnd.mpr (tt_pure.mpr ⟨⟨n + 1, by omega, by omega, ht, ?_⟩, ?_⟩)⟩)
            · show (ci (psb (n + 1)) ++ [((n + 1 : Nat) : Int)], ((n + 1 : Nat) : Int)) = _
              rw [ci_s z]
            · show ((x : Int) + 3 - ((n : Int) + 1)).toNat < ((x : Int) + 3 - (n : Int)).toNat
              omega
          · refine Tt.neg z (tt_pure.mpr ⟨⟨n + 1, by omega, by omega, ht, ?_⟩, ?_⟩)
            · show (ci (psb (n + 1)), ((n + 1 : Nat) : Int)) = _
              rw [ci_n z]
            · show ((x : Int) + 3 - ((n : Int) + 1)).toNat < ((x : Int) + 3 - (n : Int)).toNat
              omega
      · intro ht
        have ht : k < (psb (n + 1)).length := by
          have ht := of_decide_eq_false ht
          have ht : ¬ ((ci (psb (n + 1))).length : Int) ≤ (k : Int) := ht
          rw [ci_len] at ht
          omega
        refine ⟨n, h2, ?_, rfl⟩
        rw [psb_s] at ht ⊢
        by_cases z : prb n = true
        · rw [if_pos z, List.length_append, List.length_singleton] at ht ⊢; omega
        · rw [if_neg z] at ht; omega
    · rcases x with _ | x
      · rw [show psb (0 + 1) = [] by decide +kernel] at hk
        exact absurd hk (Nat.not_lt_zero k)
      · omega
    · show (psb 1).length ≤ k
      rw [show psb 1 = [] by decide +kernel]; exact Nat.zero_le _
    · rw [show psb (1 + 1) = [] by decide +kernel]; rfl
  · rintro st s ⟨n, h1, h2, rfl⟩
    obtain ⟨t, et⟩ := psb_pre (a := n + 1) (b := x + 1) (by omega)
    have hat : L2.atI (ci (psb (n + 1))) (-1) = some (((psb (x + 1))[k] : Nat) : Int) := by
      rw [atI_last (n := k) (by rw [ci_len]; exact h2)]
      unfold ci
      rw [List.getElem?_map, List.getElem?_eq_getElem (show k < (psb (n + 1)).length by omega)]
      show some _ = some _
      refine congrArg (fun y : Nat => some (y : Int)) ?_
      have e1 : (psb (x + 1))[k]? = (psb (n + 1))[k]? := by rw [et, List.getElem?_append_left (by omega)]
      rw [List.getElem?_eq_getElem hk, List.getElem?_eq_getElem (by omega)] at e1
      exact (Option.some.inj e1).symm
    exact (tt_lft hat).mpr (tt_bnd.mpr (tt_pure.mpr rfl))
end Wk
set_option Elab.async false
set_option maxRecDepth 1000000
set_option maxHeartbeats 4000000
set_option linter.all false
/-! A86c: the whole parts x // i, told twice -/
namespace Wk
open PySem L2
open PyProof.Rows hiding St
structure Vs (x : Nat) (l : List Nat) : Prop where
  s : l.Pairwise (· > ·)
  m : ∀ v, v ∈ l ↔ ∃ j, 1 ≤ j ∧ j ≤ x ∧ v = x / j
theorem Vs.pos {x v : Nat} {l : List Nat} (h : Vs x l) (hv : v ∈ l) : 1 ≤ v ∧ v ≤ x := by
  obtain ⟨j, h1, h2, rfl⟩ := (h.m v).mp hv
  exact ⟨Nat.div_pos h2 h1, Nat.div_le_self ..⟩
theorem Vs.nd {x : Nat} {l : List Nat} (h : Vs x l) : l.Nodup := by
  rw [List.nodup_iff_pairwise_ne]
  exact h.s.imp fun {a b} q => by have : a > b := q; omega
theorem vs_few {x : Nat} (hx : x ≤ 1000) {l : List Nat} (hl : l.Nodup) (h : ∀ v ∈ l, ∃ j, 1 ≤ j ∧ j ≤ x ∧ v = x / j) : l.length ≤ 62 := by
  have := nd_len (r := (List.range 31).map (fun j => x / (j + 1)) ++ (List.range 31).map (· + 1)) hl fun v hv => by
    obtain ⟨j, h1, h2, rfl⟩ := h v hv
    rw [List.mem_append]
    by_cases z : j ≤ 31
    · exact .inl (List.mem_map.mpr ⟨j - 1, List.mem_range.mpr (by omega), by rw [Nat.sub_add_cancel h1]⟩)
    · have h3 : 1 ≤ x / j := Nat.div_pos h2 h1
      have h4 : x / j ≤ x / 32 := Nat.div_le_div_left (by omega) (by decide)
      have h5 : x / 32 ≤ 31 := by omega
      exact .inr (List.mem_map.mpr ⟨x / j - 1, List.mem_range.mpr (by omega), by omega⟩)
  rw [List.length_append, List.length_map, List.length_map, List.length_range] at this
  exact this
theorem Vs.few {x : Nat} {l : List Nat} (h : Vs x l) (hx : x ≤ 1000) : l.length ≤ 62 := vs_few hx h.nd fun v hv => (h.m v).mp hv
theorem Vs.head {x : Nat} {l : List Nat} (h : Vs x l) (h1 : 1 ≤ x) : ∃ t, l = x :: t := by
  have hm : x ∈ l := (h.m x).mpr ⟨1, Nat.le_refl _, h1, (Nat.div_one x).symm⟩
  cases l with
  | nil => exact absurd hm (by simp)
  | cons a t =>
    have h2 := (h.pos (List.mem_cons_self ..)).2
    rcases List.mem_cons.mp hm with e | e
    · exact ⟨t, by rw [e]⟩
    · have : a > x := (List.pairwise_cons.mp h.s).1 x e
      omega
theorem Vs.sq {x v : Nat} {l : List Nat} (h : Vs x l) (h1 : 1 ≤ v) (h2 : v * v ≤ x) : v ∈ l := by
  have hq : v ≤ x / v := (Nat.le_div_iff_mul_le h1).mpr h2
  have hm : v * (x / v) ≤ x := Nat.mul_div_le ..
  have hlt : x < v * (x / v) + v := by
    have := Nat.lt_mul_div_succ x h1
    rw [Nat.mul_add, Nat.mul_one] at this
    exact this
  refine (h.m v).mpr ⟨x / v, by omega, Nat.div_le_self .., Nat.le_antisymm ((Nat.le_div_iff_mul_le (by omega)).mpr hm) ?_⟩
  refine Nat.le_of_lt_succ ((Nat.div_lt_iff_lt_mul (by omega)).mpr ?_)
  rw [Nat.succ_mul]
  omega
theorem Vs.div {x v p : Nat} {l : List Nat} (h : Vs x l) (hv : v ∈ l) (hp : 1 ≤ p) (h2 : p ≤ v) : v / p ∈ l := by
  obtain ⟨j, h1, h3, rfl⟩ := (h.m v).mp hv
  refine (h.m _).mpr ⟨j * p, Nat.mul_pos h1 hp, ?_, Nat.div_div_eq_div_mul ..⟩
  rw [Nat.mul_comm]
  exact (Nat.le_div_iff_mul_le h1).mp h2
theorem parts_of_ok {x : Nat} (h1 : 1 ≤ x) (hx : x ≤ 1000) : ∃ l, Vs x l ∧ m_parts_of (x : Int) = some (ci l) := by
  suffices h : ∃ r, m_parts_of (x : Int) = some r ∧ ∃ l, Vs x l ∧ r = ci l by
    obtain ⟨r, e, l, a, rfl⟩ := h
    exact ⟨l, a, e⟩
  refine tt_ex ?_
  unfold m_parts_of
  refine tt_grd.mpr ⟨by simp, tt_bnd.mpr (tt_bnd.mpr (Tt.then (P' := fun st _ => ∃ l, Vs x l ∧ st.1 = ci l) ?_ ?_))⟩
  · refine Tt.wh (I := fun st _ => ∃ (l : List Nat) (i : Nat), st = (ci l, (i : Int)) ∧ 1 ≤ i ∧ i ≤ x + 1 ∧ l.Pairwise (· > ·) ∧ (∀ v, v ∈ l ↔ ∃ j, 1 ≤ j ∧ j < i ∧ v = x / j) ∧ ∀ v ∈ l, ∀ j, i ≤ j → x / j < v) (nu := fun st => ((x : Int) + 3 - st.2).toNat) ?_ _ _ _ ⟨[], 1, rfl, by omega, by omega, .nil, fun v => ⟨fun h => absurd h (by simp), fun ⟨j, a, b, _⟩ => by omega⟩, fun v h => absurd h (by simp)⟩ (lt_many (by show ((x : Int) + 3 - 1).toNat < _; omega))
    rintro st s k P ⟨l, i, rfl, a1, a2, a3, a4, a5⟩ hk
    refine hk _ _ ?_ ?_
    · intro ht
      have ht : i ≤ x := by
        have : (i : Int) ≤ (x : Int) := of_decide_eq_true ht
        omega
      have hl : l.length ≤ 62 := vs_few hx (by rw [List.nodup_iff_pairwise_ne]; exact a3.imp fun {a b} q => by have : a > b := q; omega) fun v hv => by
        obtain ⟨j, b1, b2, b3⟩ := (a4 v).mp hv
        exact ⟨j, b1, by omega, b3⟩
      have hp : 1 ≤ x / i := Nat.div_pos ht a1
      have hpx : x / i ≤ x := Nat.div_le_self ..
      have hi2 : i ≤ x / (x / i) := (Nat.le_div_iff_mul_le hp).mpr (by rw [Nat.mul_comm]; exact Nat.div_mul_le_self ..)
      have hi3 : x / (x / i) ≤ x := Nat.div_le_self ..
      have key : ∀ j, 1 ≤ j → (x / i ≤ x / j ↔ j ≤ x / (x / i)) := fun j hj => by
        rw [Nat.le_div_iff_mul_le hj, Nat.le_div_iff_mul_le hp, Nat.mul_comm]
      refine tt_grd.mpr ⟨dv_nat a1 (by omega), tt_bnd.mpr (tt_grd.mpr ⟨by show (ci l).length < _; rw [ci_len]; omega, tt_bnd.mpr (tt_grd.mpr ⟨?_, tt_bnd.mpr (tt_pure.mpr ⟨⟨l ++ [x / i], x / (x / i) + 1, ?_, by omega, by omega, ?_, ?_, ?_⟩, ?_⟩)⟩)⟩)⟩
      · show Dv ((x : Int) / (i : Int))
        rw [ndiv]; exact dv_nat hp (by omega)
      · show (ci l ++ [(x : Int) / (i : Int)], (x : Int) / ((x : Int) / (i : Int)) + 1) = _
        rw [ndiv, ndiv, ci_app]; rfl
      · refine List.pairwise_append.mpr ⟨a3, List.pairwise_singleton .., fun v hv w hw => ?_⟩
        rw [List.mem_singleton.mp hw]
        exact a5 v hv i (Nat.le_refl _)
      · intro v
        rw [List.mem_append, List.mem_singleton, a4]
        constructor
        · rintro (⟨j, b1, b2, b3⟩ | e)
          · exact ⟨j, b1, by omega, b3⟩
          · exact ⟨i, a1, by omega, e⟩
        · rintro ⟨j, b1, b2, b3⟩
          by_cases z : j < i
          · exact .inl ⟨j, b1, z, b3⟩
          · refine .inr ?_
            have c1 := (key j b1).mpr (by omega)
            have c2 : x / j ≤ x / i := Nat.div_le_div_left (by omega) a1
            omega
      · intro v hv j hj
        rcases List.mem_append.mp hv with e | e
        · exact a5 v e j (by omega)
        · rw [List.mem_singleton.mp e]
          refine Nat.lt_of_not_le fun w => ?_
          have := (key j (by omega)).mp w
          omega
      · show ((x : Int) + 3 - ((x : Int) / ((x : Int) / (i : Int)) + 1)).toNat < ((x : Int) + 3 - (i : Int)).toNat
        rw [ndiv, ndiv]; omega
    · intro ht
      have ht : ¬ i ≤ x := by
        have : ¬ (i : Int) ≤ (x : Int) := of_decide_eq_false ht
        omega
      refine ⟨l, ⟨a3, fun v => ?_⟩, rfl⟩
      rw [a4]
      constructor
      · rintro ⟨j, b1, b2, b3⟩; exact ⟨j, b1, by omega, b3⟩
      · rintro ⟨j, b1, b2, b3⟩; exact ⟨j, b1, by omega, b3⟩
  · rintro st s ⟨l, h2, e⟩
    exact tt_bnd.mpr (tt_pure.mpr ⟨l, h2, e⟩)
/-- the law's own way -/
theorem law_parts {x : Nat} {l : List Nat} (h : Vs x l) : List.reverse (srt (dd ((rng 1 ((x : Int) + 1)).map fun i => (x : Int) / i))) = ci l ∧ (dd ((rng 1 ((x : Int) + 1)).map fun i => (x : Int) / i)).length = l.length := by
  have e : (ci l).reverse = srt (dd ((rng 1 ((x : Int) + 1)).map fun i => (x : Int) / i)) := by
    refine srt_dd ?_ fun k => ?_
    · rw [List.pairwise_reverse]
      unfold ci
      rw [List.pairwise_map]
      exact h.s.imp fun {a b} q => by have : a > b := q; omega
    · rw [List.mem_reverse, List.mem_map]
      constructor
      · intro hk
        obtain ⟨v, hv, rfl⟩ := List.mem_map.mp hk
        obtain ⟨j, h1, h2, rfl⟩ := (h.m v).mp hv
        exact ⟨(j : Int), mem_rng.mpr ⟨by omega, by omega⟩, by rw [ndiv]⟩
      · rintro ⟨i, hi, rfl⟩
        obtain ⟨h1, h2⟩ := mem_rng.mp hi
        obtain ⟨j, rfl⟩ : ∃ j : Nat, i = j := ⟨i.toNat, by omega⟩
        rw [ndiv]
        exact mem_ci.mpr ((h.m _).mpr ⟨j, by omega, by omega, rfl⟩)
  refine ⟨by rw [← e, List.reverse_reverse], ?_⟩
  have := (srt_perm (dd ((rng 1 ((x : Int) + 1)).map fun i => (x : Int) / i))).length_eq
  rw [← this, ← e, List.length_reverse, ci_len]
end Wk
set_option Elab.async false
set_option maxRecDepth 1000000
set_option maxHeartbeats 4000000
set_option linter.all false
/-! A86d: what stands after the strikes -/
namespace Wk
open PySem L2
open PyProof.Rows hiding St
theorem dzip_acc : ∀ (xs : List Int) (ys : List Int) (acc : List (Int × Int)), xs.Nodup → (∀ x ∈ xs, ∀ y ∈ acc, y.1 ≠ x) → (xs.zip ys).foldl (fun d y => dput d y.1 y.2) acc = acc ++ xs.zip ys
  | [], ys, acc, _, _ => by simp
  | _ :: _, [], acc, _, _ => by simp
  | x :: xs, y :: ys, acc, hn, h => by
    have hn' := List.nodup_cons.mp hn
    rw [List.zip_cons_cons, List.foldl_cons]
    have : dput acc x y = acc ++ [(x, y)] := by
      unfold dput
      rw [if_neg]
      intro q
      obtain ⟨z, hz, e⟩ := List.any_eq_true.mp q
      exact h x (List.mem_cons_self ..) z hz (of_decide_eq_true e)
    show (xs.zip ys).foldl _ (dput acc x y) = _
    rw [this, dzip_acc xs ys _ hn'.2 fun a ha z hz => ?_, List.append_assoc]
    · rfl
    · rcases List.mem_append.mp hz with w | w
      · exact h a (List.mem_cons_of_mem _ ha) z w
      · rw [List.mem_singleton.mp w]
        intro e; have e : x = a := e; subst e; exact hn'.1 ha
/-- a dict over the parts -/
def asD (l : List Nat) (g : Nat → Int) : List (Int × Int) := l.map fun v : Nat => ((v : Int), g v)
theorem asD_len (l : List Nat) (g : Nat → Int) : (asD l g).length = l.length := List.length_map ..
theorem asD_zip {l : List Nat} (h : l.Nodup) (g : Nat → Int) : dzip (ci l) (l.map g) = asD l g := by
  unfold dzip
  rw [dzip_acc _ _ _ (by rw [List.nodup_iff_pairwise_ne]; unfold ci; rw [List.pairwise_map]; exact (List.nodup_iff_pairwise_ne.mp h).imp fun {a b} q e => q (Int.ofNat.inj e)) (fun _ _ y hy => absurd hy (by simp)), List.nil_append]
  exact List.zip_map'
theorem asD_get {v : Nat} {g : Nat → Int} : ∀ {l : List Nat}, v ∈ l → dget (asD l g) (v : Int) = some (g v)
  | [], h => absurd h (by simp)
  | a :: l, h => by
    unfold dget asD
    rw [List.map_cons, List.find?_cons]
    by_cases z : a = v
    · subst z
      rw [decide_eq_true rfl]; rfl
    · rw [decide_eq_false (show ¬ ((a : Int), g a).1 = (v : Int) from fun e => z (Int.ofNat.inj e))]
      have hv : v ∈ l := by
        rcases List.mem_cons.mp h with e | e
        · exact absurd e.symm z
        · exact e
      exact asD_get hv
theorem asD_put {v : Nat} {g : Nat → Int} {y : Int} {l : List Nat} (h : v ∈ l) : dput (asD l g) (v : Int) y = asD l (fun w => if w = v then y else g w) := by
  unfold dput asD
  have ha : ((List.map (fun v : Nat => ((v : Int), g v)) l).any fun y => decide (y.1 = (v : Int))) = true := List.any_eq_true.mpr ⟨((v : Int), g v), List.mem_map.mpr ⟨v, h, rfl⟩, decide_eq_true rfl⟩
  rw [if_pos ha, List.map_map]
  refine List.map_congr_left fun w _ => ?_
  show (if (w : Int) = (v : Int) then ((w : Int), y) else ((w : Int), g w)) = ((w : Int), if w = v then y else g w)
  by_cases z : w = v
  · rw [if_pos (by rw [z]), if_pos z]
  · rw [if_neg (show ¬ (w : Int) = (v : Int) from fun e => z (Int.ofNat.inj e)), if_neg z]
theorem asD_eq {l : List Nat} {f g : Nat → Int} (h : ∀ v ∈ l, f v = g v) : asD l f = asD l g := List.map_congr_left fun v hv => by rw [h v hv]
theorem lp_app {μ : Type → Type} {τ : Type} [Mir μ τ] {α ζ : Type} {f : α → ζ → μ ζ} {P : ζ → τ → Prop} : ∀ {xs ys : List α} {st : ζ} {s : τ}, Tt s (lpS xs f st) (fun st' s' => Tt s' (lpS ys f st') P) → Tt s (lpS (xs ++ ys) f st) P
  | [], _, st, s, h => (tt_pure (μ := μ) (a := st) (s := s)).mp h
  | x :: xs, ys, st, s, h => by
    have h : Tt s (f x st >>= fun st' => lpS xs f st') _ := h
    show Tt s (f x st >>= fun st' => lpS (xs ++ ys) f st') P
    exact (tt_bind.mp h).then fun st' s1 q => lp_app q
/-- one prime over the primes below m -/
theorem lp_psb {μ : Type → Type} {τ : Type} [Mir μ τ] {ζ : Type} {f : Int → ζ → μ ζ} (I : Nat → ζ → τ → Prop) {m : Nat} (hy : ∀ n st s, n < m → Pr n → I n st s → Tt s (f (n : Int) st) (I (n + 1))) (hn : ∀ n st s, n < m → ¬ Pr n → I n st s → I (n + 1) st s) :
    ∀ {st : ζ} {s : τ}, I 0 st s → Tt s (lpS (ci (psb m)) f st) (I m) := by
  induction m with
  | zero => intro st s h; exact tt_pure.mpr h
  | succ m ih =>
    intro st s h
    have h2 := ih (fun n st s hm => hy n st s (by omega)) (fun n st s hm => hn n st s (by omega)) h
    by_cases z : prb m = true
    · rw [← ci_s z]
      refine lp_app (h2.mono fun st' s' q => ?_)
      exact (hy m st' s' (by omega) (prb_iff.mp z) q).then fun st2 s2 q2 => tt_pure.mpr q2
    · rw [← ci_n z]
      exact h2.mono fun st' s' q => hn m st' s' (by omega) (fun w => z (prb_iff.mpr w)) q
theorem F_bound {b B : Nat} {f : Nat → Int} : ∀ {v : Nat}, (∀ n, n ≤ v → (f n).natAbs ≤ B) → (F b f v).natAbs ≤ v * B
  | 0, _ => by show (0 : Int).natAbs ≤ _; simp
  | v + 1, h => by
    have h1 := F_bound (b := b) (v := v) fun n hn => h n (by omega)
    have h2 := h (v + 1) (Nat.le_refl _)
    show (F b f v + _).natAbs ≤ _
    rw [Nat.succ_mul]
    split <;> omega
/-- 1 or the number itself -/
def wf (b : Bool) (n : Nat) : Int := if b = true then (n : Int) else 1
theorem wf_mul (b : Bool) (p m : Nat) : wf b (p * m) = wf b p * wf b m := by
  unfold wf; cases b
  · rfl
  · show ((p * m : Nat) : Int) = _; push_cast; rfl
theorem wf_low {b : Bool} {n : Nat} (h : n ≤ 1000) : (wf b n).natAbs ≤ 1000 := by
  cases b
  · show (1 : Int).natAbs ≤ _; decide
  · show (n : Int).natAbs ≤ _; omega
theorem Fw_low {b v : Nat} {w : Bool} (h : v ≤ 1000) : (F b (wf w) v).natAbs ≤ 1000000 := by
  have := F_bound (b := b) (B := 1000) (f := wf w) (v := v) fun n hn => wf_low (by omega)
  have h2 : v * 1000 ≤ 1000 * 1000 := Nat.mul_le_mul_right 1000 h
  omega
theorem struck_ok {x m : Nat} {l : List Nat} {w : Bool} (hx : x ≤ 1000) (h : Vs x l) (hm : ∀ p, p < m → Pr p → p * p ≤ x) :
    m_struck_parts (x : Int) (ci l) (ci (psb m)) (l.map (F 0 (wf w))) w = some (asD l (F m (wf w))) := by
  have hl := h.few hx
  refine tt_eq ?_
  unfold m_struck_parts
  rw [asD_zip h.nd]
  refine tt_bnd.mpr (Tt.then (P' := fun st _ => st = asD l (F m (wf w))) ?_ fun st s e => by rw [e]; exact tt_bnd.mpr (tt_pure.mpr rfl))
  refine lp_psb (I := fun n st _ => st = asD l (F n (wf w))) ?_ ?_ rfl
  · rintro p st s hpm hp rfl
    have hp2 := hp.1
    have hpp := hm p hpm hp
    have hsq : p * 2 ≤ p * p := Nat.mul_le_mul_left p hp2
    have hm1 : p - 1 ∈ l := h.sq (by omega) (Nat.le_trans (Nat.mul_le_mul (Nat.sub_le p 1) (Nat.sub_le p 1)) hpp)
    have e1 : (p : Int) - 1 = ((p - 1 : Nat) : Int) := by omega
    rw [e1]
    refine (tt_lft (asD_get hm1)).mpr (tt_bnd.mpr ?_)
    refine Tt.then (P' := fun o _ => o = Ctl.go (asD l (F (p + 1) (wf w))) ∨ o = Ctl.brk (asD l (F (p + 1) (wf w)))) ?_ ?_
    · refine Tt.lpC (I := fun xs st _ => ∃ pre rest, l = pre ++ rest ∧ xs = ci rest ∧ st = asD l (fun v => if v ∈ pre then F (p + 1) (wf w) v else F p (wf w) v)) (R := fun o _ => o = Ctl.go (asD l (F (p + 1) (wf w))) ∨ o = Ctl.brk (asD l (F (p + 1) (wf w)))) ?_ ?_ _ _ _ ⟨[], l, rfl, rfl, asD_eq fun v hv => by rw [if_neg (by simp)]⟩
      · rintro y ys st s ⟨pre, rest, el, ey, rfl⟩
        rcases rest with _ | ⟨v, rest⟩
        · cases ey
        obtain ⟨rfl, rfl⟩ : y = (v : Int) ∧ ys = ci rest := by cases ey; exact ⟨rfl, rfl⟩
        have hv : v ∈ l := by rw [el]; exact List.mem_append_right _ (List.mem_cons_self ..)
        have hvp := h.pos hv
        have srt := h.s
        rw [el] at srt
        have s1 := List.pairwise_append.mp srt
        have s2 := List.pairwise_cons.mp s1.2.1
        have hnp : v ∉ pre := fun z => by have : v > v := s1.2.2 v z v (List.mem_cons_self ..); omega
        refine tt_grd.mpr ⟨⟨sm_small (by omega), sm_small (by omega)⟩, ?_⟩
        by_cases z : v < p * p
        · refine Tt.pos (decide_eq_true (by show (v : Int) < (p : Int) * (p : Int); exact_mod_cast z)) (tt_pure.mpr (.inr ?_))
          refine congrArg Ctl.brk (asD_eq fun u hu => ?_)
          by_cases y : u ∈ pre
          · rw [if_pos y]
          · rw [if_neg y]
            refine (F_low hp ?_).symm
            rw [el] at hu
            rcases List.mem_append.mp hu with q | q
            · exact absurd q y
            · rcases List.mem_cons.mp q with q | q
              · rw [q]; exact z
              · have : v > u := s2.1 u q
                omega
        · have hle : p ≤ v := by omega
          have hdv := h.div hv (by omega) hle
          have hvl : v / p < v := Nat.div_lt_self (by omega) hp2
          have hdp : v / p ∉ pre := fun z => by have : v / p > v := s1.2.2 _ z v (List.mem_cons_self ..); omega
          refine Tt.neg (by rw [decide_eq_true_iff]; intro q; have q : (v : Int) < (p : Int) * (p : Int) := q; exact z (by exact_mod_cast q)) ((tt_lft (asD_get hv)).mpr (tt_grd.mpr ⟨dv_nat (by omega) (by omega), ?_⟩))
          rw [ndiv]
          refine (tt_lft (asD_get hdv)).mpr ?_
          rw [if_neg hnp, if_neg hdp]
          have b1 := Fw_low (b := p) (w := w) (v := v / p) (by omega)
          have b2 := Fw_low (b := p) (w := w) (v := p - 1) (by omega)
          have b3 := wf_low (b := w) (n := p) (by omega)
          have ew : (if w = true then (p : Int) else (1 : Int)) = wf w p := rfl
          rw [ew]
          refine tt_grd.mpr ⟨⟨sm_small (by omega), sm_small (by omega)⟩, tt_grd.mpr ⟨by show (asD l _).length < _; rw [asD_len]; omega, tt_bnd.mpr (tt_pure.mpr ⟨pre ++ [v], rest, by rw [List.append_assoc]; exact el, rfl, ?_⟩)⟩⟩
          rw [asD_put hv]
          refine asD_eq fun u _ => ?_
          by_cases y : u = v
          · subst y
            rw [if_pos rfl, if_pos (by simp), F_strike hp (wf_mul w p) (by omega)]
          · rw [if_neg y]
            by_cases q : u ∈ pre
            · rw [if_pos q, if_pos (List.mem_append_left _ q)]
            · rw [if_neg q, if_neg (fun r => by rcases List.mem_append.mp r with r | r; exact q r; exact y (List.mem_singleton.mp r))]
      · rintro st s ⟨pre, rest, el, ey, rfl⟩
        have er : rest = [] := by
          cases rest with
          | nil => rfl
          | cons a r => cases ey
        subst er
        rw [List.append_nil] at el
        subst el
        exact .inl (congrArg Ctl.go (asD_eq fun u hu => by rw [if_pos hu]))
    · rintro o s1 (rfl | rfl)
      · exact tt_pure.mpr rfl
      · exact tt_pure.mpr rfl
  · rintro n st s hnm hp rfl
    refine asD_eq fun u _ => F_gap (by omega) (fun d d1 d2 => ?_) u
    have : d = n := by omega
    rw [this]; exact hp
end Wk
set_option Elab.async false
set_option maxRecDepth 1000000
set_option maxHeartbeats 4000000
set_option linter.all false
/-! A86e: primes counted and summed -/
namespace Wk
open PySem L2
open PyProof.Rows hiding St
theorem keep_0 {n : Nat} : keepB 0 n = Nat.ble 2 n := by
  unfold keepB
  rw [show psb 0 = [] from rfl, List.all_nil, Bool.and_true]
theorem F0_count : ∀ v : Nat, F 0 (wf false) (v + 1) = (v : Int)
  | 0 => by show (0 : Int) + (if keepB 0 1 = true then _ else _) = _; rw [keep_0]; rfl
  | v + 1 => by
    show F 0 (wf false) (v + 1) + (if keepB 0 (v + 2) = true then wf false (v + 2) else 0) = _
    rw [F0_count v, keep_0, if_pos (Nat.ble_eq.mpr (by omega))]
    show (v : Int) + 1 = _
    push_cast; rfl
theorem F0_sum : ∀ v : Nat, 2 * F 0 (wf true) (v + 1) + 2 = ((v : Int) + 1) * ((v : Int) + 2)
  | 0 => by
    show 2 * ((0 : Int) + (if keepB 0 1 = true then _ else _)) + 2 = _
    rw [keep_0]; rfl
  | v + 1 => by
    show 2 * (F 0 (wf true) (v + 1) + (if keepB 0 (v + 2) = true then wf true (v + 2) else 0)) + 2 = _
    have ih := F0_sum v
    rw [keep_0, if_pos (Nat.ble_eq.mpr (by omega))]
    show 2 * (F 0 (wf true) (v + 1) + ((v + 2 : Nat) : Int)) + 2 = _
    have e1 : (((v + 1 : Nat) : Int) + 1) * (((v + 1 : Nat) : Int) + 2) = ((v : Int) + 1) * ((v : Int) + 2) + 2 * ((v : Int) + 2) := by
      push_cast
      rw [show (v : Int) + 1 + 1 = (v : Int) + 2 by omega, show (v : Int) + 1 + 2 = ((v : Int) + 1) + 2 by omega, Int.mul_add ((v : Int) + 2), Int.mul_comm ((v : Int) + 2) ((v : Int) + 1), Int.mul_comm ((v : Int) + 2) 2]
    rw [e1]
    push_cast
    omega
theorem F_psb {a b : Nat} {f : Nat → Int} (h : psb a = psb b) (v : Nat) : F a f v = F b f v := F_eq fun n _ => by unfold keepB; rw [h]
theorem F_full {m : Nat} {f : Nat → Int} : ∀ {v : Nat}, (∀ n, n ≤ v → keepB m n = prb n) → F m f v = ((psb (v + 1)).map f).sum
  | 0, _ => by rw [show psb (0 + 1) = [] by decide +kernel]; rfl
  | v + 1, h => by
    show F m f v + _ = _
    rw [F_full (v := v) fun n hn => h n (by omega), h (v + 1) (Nat.le_refl _), psb_s (v + 1)]
    by_cases z : prb (v + 1) = true
    · rw [if_pos z, if_pos z, List.map_append, List.sum_append_int]
      show _ = _ + (f (v + 1) + 0)
      rw [Int.add_zero]
    · rw [if_neg z, if_neg z, Int.add_zero]
theorem F_end {n x v : Nat} {f : Nat → Int} (h : x < n * n) (hv : v ≤ x) : F n f v = ((psb (v + 1)).map f).sum := F_full fun u hu => keep_pr fun d _ hd => by
  refine Nat.lt_of_not_le fun w => ?_
  have := Nat.mul_le_mul w w
  omega
def cnt (v : Nat) : Nat := (psb (v + 1)).length
theorem sum_one : ∀ l : List Nat, (l.map (wf false)).sum = (l.length : Int)
  | [] => rfl
  | a :: l => by
    rw [List.map_cons, List.sum_cons, sum_one l]
    show (1 : Int) + (l.length : Int) = ((l.length + 1 : Nat) : Int)
    push_cast; omega
theorem sum_id (l : List Nat) : (l.map (wf true)).sum = (ci l).sum := rfl
theorem take_psb (k : Nat) : ∀ n, ∃ m, m ≤ n ∧ (psb n).take k = psb m
  | 0 => ⟨0, Nat.le_refl _, by rw [show psb 0 = [] from rfl, List.take_nil]⟩
  | n + 1 => by
    obtain ⟨m, h1, h2⟩ := take_psb k n
    by_cases z : k ≤ (psb n).length
    · refine ⟨m, by omega, ?_⟩
      rw [← h2, psb_s]
      by_cases w : prb n = true
      · rw [if_pos w, List.take_append_of_le_length z]
      · rw [if_neg w]
    · refine ⟨n + 1, Nat.le_refl _, List.take_of_length_le ?_⟩
      rw [psb_s]
      by_cases w : prb n = true
      · rw [if_pos w, List.length_append, List.length_singleton]; omega
      · rw [if_neg w]; omega
theorem small_sq {n x : Nat} (h : n = 2 ∨ (n - 1) * (n - 1) ≤ x) {p : Nat} (hp : Pr p) (hn : p < n) : p * p ≤ x := by
  rcases h with rfl | h
  · have := hp.1; omega
  · exact Nat.le_trans (Nat.mul_le_mul (by omega) (by omega)) h
theorem ci_map (l : List Nat) (g : Int → Int) : (ci l).map g = l.map fun v : Nat => g (v : Int) := by unfold ci; rw [List.map_map]; rfl
theorem struck_row_ok {x k : Nat} {l : List Nat} (hx : x ≤ 1000) (h : Vs x l) (ep : m_parts_of (x : Int) = some (ci l)) :
    ∃ n m, 2 ≤ n ∧ n ≤ x + 2 ∧ x < n * n ∧ (n = 2 ∨ (n - 1) * (n - 1) ≤ x) ∧ psb m = (psb n).take k ∧ m ≤ n ∧ m_struck_row (x : Int) (k : Int) = some (l.map (F m (wf false))) := by
  obtain ⟨n, h2, h3, h4, h5, es⟩ := small_ok (x := x) (by omega)
  obtain ⟨m, hm, em⟩ := take_psb k n
  have hl := h.few hx
  refine ⟨n, m, h2, h3, h4, h5, em.symm, hm, tt_eq ?_⟩
  unfold m_struck_row
  refine (tt_lft ep).mpr (tt_bnd.mpr ((tt_lft es).mpr (tt_bnd.mpr (tt_grd.mpr ⟨by rw [ci_len]; omega, ?_⟩))))
  have e1 : cut (ci (psb n)) none (some (k : Int)) = ci (psb m) := by
    rw [cut_head, ← em]; unfold ci; rw [List.map_take]
  have e2 : List.map (fun x21 => x21 - (1 : Int)) (ci l) = l.map (F 0 (wf false)) := by
    rw [ci_map]
    refine List.map_congr_left fun v hv => ?_
    have := h.pos hv
    obtain ⟨u, rfl⟩ : ∃ u, v = u + 1 := ⟨v - 1, by omega⟩
    rw [F0_count]; omega
  rw [e1, e2]
  refine (tt_lft (struck_ok hx h fun p hp h6 => small_sq h5 h6 (by omega))).mpr (tt_bnd.mpr (tt_grd.mpr ⟨by rw [ci_len]; omega, ?_⟩))
  refine tt_map (g := fun y : Int => F m (wf false) y.toNat) (fun y hy s Q hQ => ?_) (tt_bnd.mpr (tt_pure.mpr ?_))
  · obtain ⟨v, hv, rfl⟩ := List.mem_map.mp hy
    rw [Int.toNat_natCast] at hQ
    exact (tt_lft (asD_get hv)).mpr (tt_pure.mpr hQ)
  · rw [ci_map]; rfl
theorem counted_ok {x : Nat} {l : List Nat} (h1 : 1 ≤ x) (hx : x ≤ 1000) (h : Vs x l) (ep : m_parts_of (x : Int) = some (ci l)) :
    m_counted_row (x : Int) = some (l.map fun v => (cnt v : Int)) := by
  obtain ⟨n, m, h2, h3, h4, h5, h6, h7, e⟩ := struck_row_ok (k := x) hx h ep
  have hlen : (psb n).length ≤ x := by
    by_cases z : n = 2
    · rw [z, psb_two]; exact Nat.zero_le _
    · have h5 : (n - 1) * (n - 1) ≤ x := by
        rcases h5 with h5 | h5
        · exact absurd h5 z
        · exact h5
      refine Nat.le_trans (psb_len n) (Nat.le_trans ?_ h5)
      have : (n - 1) * 2 ≤ (n - 1) * (n - 1) := Nat.mul_le_mul_left _ (by omega)
      omega
  rw [List.take_of_length_le hlen] at h6
  refine tt_eq ?_
  unfold m_counted_row
  refine (tt_lft e).mpr (tt_bnd.mpr (tt_pure.mpr (List.map_congr_left fun v hv => ?_)))
  rw [F_psb h6, F_end h4 (h.pos hv).2, sum_one]; rfl
theorem primes_counted_ok {x : Nat} {l : List Nat} (h1 : 1 ≤ x) (hx : x ≤ 1000) (h : Vs x l) (ep : m_parts_of (x : Int) = some (ci l)) : m_primes_counted (x : Int) = some (cnt x : Int) := by
  obtain ⟨t, et⟩ := h.head h1
  refine tt_eq ?_
  unfold m_primes_counted
  refine (tt_lft (counted_ok h1 hx h ep)).mpr ((tt_lft (a := (cnt x : Int)) ?_).mpr (tt_bnd.mpr (tt_pure.mpr rfl)))
  rw [et, show (0 : Int) = ((0 : Nat) : Int) from rfl, atI_nat (by simp)]
  rfl
theorem primes_summed_ok {x : Nat} {l : List Nat} (h1 : 1 ≤ x) (hx : x ≤ 1000) (h : Vs x l) (ep : m_parts_of (x : Int) = some (ci l)) : m_primes_summed (x : Int) = some (ci (psb (x + 1))).sum := by
  have hl := h.few hx
  obtain ⟨n, h2, h3, h4, h5, es⟩ := small_ok (x := x) (by omega)
  refine tt_eq ?_
  unfold m_primes_summed
  refine (tt_lft ep).mpr (tt_bnd.mpr (tt_grd.mpr ⟨by rw [ci_len]; omega, ?_⟩))
  refine tt_map (g := fun y : Int => F 0 (wf true) y.toNat) (fun y hy s Q hQ => ?_) ?_
  · obtain ⟨v, hv, rfl⟩ := List.mem_map.mp hy
    have hv2 := h.pos hv
    refine tt_grd.mpr ⟨⟨sm_small (by omega), sm_small (by omega)⟩, tt_grd.mpr ⟨dv_s (by decide) (by decide), tt_pure.mpr ?_⟩⟩
    have e : ((v : Int) * ((v : Int) + 1)) / 2 - 1 = F 0 (wf true) (v : Int).toNat := by
      rw [Int.toNat_natCast]
      obtain ⟨u, rfl⟩ : ∃ u, v = u + 1 := ⟨v - 1, by omega⟩
      have := F0_sum u
      have e2 : ((u + 1 : Nat) : Int) * (((u + 1 : Nat) : Int) + 1) = 2 * (F 0 (wf true) (u + 1) + 1) := by
        push_cast
        rw [show (u : Int) + 1 + 1 = (u : Int) + 2 by omega, ← this, Int.mul_add]; rfl
      rw [e2, Int.mul_ediv_cancel_left _ (by decide)]; omega
    rw [e]; exact hQ
  refine tt_bnd.mpr ((tt_lft es).mpr ?_)
  have e2 : List.map (fun y : Int => F 0 (wf true) y.toNat) (ci l) = l.map (F 0 (wf true)) := by rw [ci_map]; rfl
  rw [e2]
  obtain ⟨t, et⟩ := h.head h1
  refine (tt_lft (struck_ok hx h fun p hp h6 => small_sq h5 h6 (by omega))).mpr ((tt_lft (asD_get (v := x) (by rw [et]; exact List.mem_cons_self ..))).mpr (tt_bnd.mpr (tt_pure.mpr ?_)))
  rw [F_end h4 (Nat.le_refl _), sum_id]
theorem psb_below {a b : Nat} (h : a ≤ b) : (psb b).filter (fun p => decide (p < a)) = psb a := by
  obtain ⟨k, rfl⟩ : ∃ k, b = a + k := ⟨b - a, by omega⟩
  clear h
  induction k with
  | zero => exact List.filter_eq_self.mpr fun p hp => decide_eq_true (mem_psb.mp hp).1
  | succ k ih =>
    rw [← Nat.add_assoc, psb_s]
    by_cases z : prb (a + k) = true
    · rw [if_pos z, List.filter_append, ih, List.filter_cons_of_neg (by rw [decide_eq_true_iff]; omega), List.filter_nil, List.append_nil]
    · rw [if_neg z]; exact ih
/-- the law's own count -/
theorem law_cnt {x v : Nat} (hv : v ≤ x) : ((List.map (fun y : Int => y) (List.filter (fun y : Int => decide (y ≤ (v : Int))) (ci (psb (x + 1))))).length : Int) = (cnt v : Int) := by
  have e : List.filter (fun y : Int => decide (y ≤ (v : Int))) (ci (psb (x + 1))) = ci (psb (v + 1)) := by
    unfold ci
    rw [List.filter_map, ← psb_below (a := v + 1) (b := x + 1) (by omega)]
    refine congrArg (fun f => List.map (fun d : Nat => (d : Int)) (List.filter f (psb (x + 1)))) (funext fun p => ?_)
    show decide ((p : Int) ≤ (v : Int)) = decide (p < v + 1)
    exact decide_eq_decide.mpr (by omega)
  rw [e, List.length_map, ci_len]; rfl
end Wk
set_option Elab.async false
set_option maxRecDepth 1000000
set_option maxHeartbeats 4000000
set_option linter.all false
/-! A86f: sieves -/
namespace Wk
open PySem L2
open PyProof.Rows hiding St
theorem ixN_in {N : Nat} {i : Int} (h : 0 ≤ i) (h2 : i < N) : ixN N i = some i.toNat := by
  unfold ixN
  rw [if_pos h, if_pos h2]
theorem set_loop {μ : Type → Type} {τ : Type} [Mir μ τ] {val : Bool} (e : Int → Int) {N : Nat} : ∀ {xs : List Int} {st : List Bool} {s : τ}, (∀ y ∈ xs, 0 ≤ e y ∧ e y < N) → st.length = N →
    Tt s (lpS (μ := μ) xs (fun (x : Int) (st : List Bool) => Mir.lft (ixN (List.length st) (e x)) >>= fun o => bnd (List.set st o val) fun st' => pure st') st) (fun st' s' => s' = s ∧ st'.length = N ∧ ∀ j : Nat, j < N → st'[j]? = if (xs.any fun y => decide (e y = (j : Int))) = true then some val else st[j]?)
  | [], st, s, _, hl => tt_pure.mpr ⟨rfl, hl, fun j _ => by rw [if_neg (by simp)]⟩
  | x :: xs, st, s, h, hl => by
    have hx := h x (List.mem_cons_self ..)
    refine tt_bind.mpr ((tt_lft (a := (e x).toNat) (by rw [hl]; exact ixN_in hx.1 hx.2)).mpr (tt_bnd.mpr (tt_pure.mpr ?_)))
    refine (set_loop e (xs := xs) (st := st.set (e x).toNat val) (s := s) (fun y hy => h y (List.mem_cons_of_mem _ hy)) (by rw [List.length_set]; exact hl)).mono fun st' s' ⟨q1, q2, q3⟩ => ⟨q1, q2, fun j hj => ?_⟩
    rw [q3 j hj, List.any_cons]
    by_cases z : (xs.any fun y => decide (e y = (j : Int))) = true
    · rw [if_pos z, if_pos (by rw [z, Bool.or_true])]
    · rw [if_neg z, List.getElem?_set]
      by_cases w : e x = (j : Int)
      · rw [if_pos (by omega), if_pos (by omega), if_pos (by rw [decide_eq_true w]; rfl)]
      · rw [if_neg (by omega), if_neg (by rw [decide_eq_false w, Bool.false_or]; exact z)]
/-- not struck by the primes below p -/
def sb (p j : Nat) : Bool := ((psb p).filter fun d => Nat.ble (d * d) j).all fun d => !Nat.beq (j % d) 0
theorem sb_self {n : Nat} (h : 2 ≤ n) : sb n n = prb n := all_psb2 h
theorem sb_iff {p j : Nat} : sb p j = true ↔ ∀ d, d < p → Pr d → d * d ≤ j → ¬ d ∣ j := by
  unfold sb
  rw [List.all_eq_true]
  constructor
  · intro h d h1 h2 h3 h4
    have := h d (List.mem_filter.mpr ⟨mem_psb.mpr ⟨h1, h2⟩, Nat.ble_eq.mpr h3⟩)
    rw [beq0.mpr h4] at this
    exact absurd this (by decide)
  · intro h d hd
    obtain ⟨h1, h2⟩ := List.mem_filter.mp hd
    obtain ⟨h3, h4⟩ := mem_psb.mp h1
    have := h d h3 h4 (Nat.ble_eq.mp h2)
    cases e : Nat.beq (j % d) 0 with
    | false => rfl
    | true => exact absurd (beq0.mp e) this
theorem sb_no {p j : Nat} (h : ¬ Pr p) : sb (p + 1) j = sb p j := by
  refine bool_eq ?_
  rw [sb_iff, sb_iff]
  exact ⟨fun q d h1 => q d (by omega), fun q d h1 h2 => q d (Nat.lt_of_le_of_ne (by omega) (fun e => h (e ▸ h2))) h2⟩
theorem sb_s {p j : Nat} (h : Pr p) : sb (p + 1) j = if p * p ≤ j ∧ p ∣ j then false else sb p j := by
  by_cases z : p * p ≤ j ∧ p ∣ j
  · rw [if_pos z]
    cases e : sb (p + 1) j with
    | false => rfl
    | true => exact absurd z.2 (sb_iff.mp e p (by omega) h z.1)
  · rw [if_neg z]
    refine bool_eq ?_
    rw [sb_iff, sb_iff]
    refine ⟨fun q d h1 => q d (by omega), fun q d h1 h2 h3 h4 => ?_⟩
    by_cases e : d = p
    · subst e; exact z ⟨h3, h4⟩
    · exact q d (by omega) h2 h3 h4
theorem sb_end {n x j : Nat} (h : x < n * n) (h2 : 2 ≤ j) (hj : j ≤ x) : sb n j = prb j := by
  refine bool_eq ?_
  rw [sb_iff, prb_iff]
  constructor
  · intro q
    refine Classical.byContradiction fun z => ?_
    obtain ⟨d, a1, a2, a3, a4⟩ := not_pr h2 z
    exact q d (Nat.lt_of_not_le fun w => by have := Nat.mul_le_mul w w; omega) a1 a2 a3
  · intro hp d h1 h3 h4 h5
    rcases hp.one h5 with e | e
    · have := h3.1; omega
    · subst e
      have := Nat.mul_le_mul_right d h3.1
      have := h3.1
      omega
theorem any_rng3 {a b c : Int} (hc : 0 < c) {e : Int → Int} {j : Int} : ((rng3 a b c).any fun y => decide (e y = j)) = true ↔ ∃ k : Nat, e (a + (k : Int) * c) = j ∧ a + (k : Int) * c < b := by
  rw [List.any_eq_true]
  constructor
  · rintro ⟨y, hy, h⟩
    obtain ⟨k, rfl, h2⟩ := (mem_rng3 hc).mp hy
    exact ⟨k, of_decide_eq_true h, h2⟩
  · rintro ⟨k, h1, h2⟩
    exact ⟨_, (mem_rng3 hc).mpr ⟨k, rfl, h2⟩, decide_eq_true h1⟩
/-- a multiple that stands at or behind a multiple -/
theorem mult_from {p a j : Nat} (hp : 1 ≤ p) (ha : p ∣ a) : (∃ k : Nat, (a : Int) + (k : Int) * (p : Int) = (j : Int)) ↔ a ≤ j ∧ p ∣ j := by
  constructor
  · rintro ⟨k, h⟩
    have h : a + k * p = j := by exact_mod_cast h
    exact ⟨by omega, h ▸ (Nat.dvd_add ha (Nat.dvd_mul_left ..))⟩
  · rintro ⟨h1, h2⟩
    obtain ⟨k, hk⟩ := Nat.dvd_sub h2 ha
    refine ⟨k, ?_⟩
    have : a + k * p = j := by rw [Nat.mul_comm]; omega
    exact_mod_cast this
theorem rep_get {α : Type} {n : Nat} {a : α} : (List.replicate n [a]).flatten = List.replicate n a := by
  induction n with
  | zero => rfl
  | succ n ih => rw [List.replicate_succ, List.flatten_cons, ih]; rfl
theorem sieve_ok {μ : Type → Type} {τ : Type} [Mir μ τ] {x : Nat} (hx : x ≤ 1000) {s : τ} : Tt s (lpS (μ := μ) (rng (2 : Int) ((x : Int) + (1 : Int))) (fun (x40 : Int) (st38 : (List Bool) × (List Int)) =>
Mir.lft (L2.atI st38.1 x40) >>= fun y199 => if y199 = true then
(Mir.lft (grd (List.length st38.2 < 16000000)) >>= fun _ => bnd (st38.2 ++ [x40]) fun primes108 =>
Mir.lft (grd (Sm x40 ∧ Sm x40)) >>= fun _ => Mir.lft (grd (Rg3 (x40 * x40) ((x : Int) + (1 : Int)) x40)) >>= fun _ => (lpS (rng3 (x40 * x40) ((x : Int) + (1 : Int)) x40) (fun (x120 : Int) (st118 : (List Bool)) =>
Mir.lft (ixN (List.length st118) x120) >>= fun o179 => bnd (List.set st118 o179 false) fun struck169 =>
pure struck169) st38.1) >>= fun (st118 : (List Bool)) =>
pure (st118, primes108))
else
(pure (st38.1, st38.2))) ((List.replicate (Int.toNat ((x : Int) + (1 : Int))) ([true] : List Bool)).flatten, ([] : List Int))) (fun st s' => s' = s ∧ st.2 = ci (psb (x + 1))) := by
  by_cases hx1 : x < 1
  · have : x = 0 := by omega
    subst this
    exact tt_pure.mpr ⟨rfl, by rw [show psb (0 + 1) = [] by decide +kernel]; rfl⟩
  refine Tt.mono (Tt.rg (I := fun p st s' => ∃ n : Nat, p = (n : Int) ∧ 2 ≤ n ∧ s' = s ∧ st.1.length = x + 1 ∧ (∀ j : Nat, j < x + 1 → st.1[j]? = some (sb n j)) ∧ st.2 = ci (psb n)) ?_ (x - 1) 2 _ _ (by omega) ⟨2, rfl, by omega, rfl, ?_, ?_, ?_⟩) ?_
  · rintro p st s1 hp ⟨n, rfl, h2, rfl, hl, hst, hps⟩
    have hnx : n ≤ x := by omega
    have hat : L2.atI st.1 (n : Int) = some (sb n n) := by rw [atI_nat (by omega), hst n (by omega)]
    refine (tt_lft hat).mpr ?_
    rw [sb_self h2, hps]
    have hpl := psb_len n
    by_cases z : prb n = true
    · have hp := prb_iff.mp z
      refine Tt.pos z (tt_grd.mpr ⟨by rw [ci_len]; omega, tt_bnd.mpr (tt_grd.mpr ⟨⟨sm_small (by omega), sm_small (by omega)⟩, ?_⟩)⟩)
      have enn : (n : Int) * (n : Int) = ((n * n : Nat) : Int) := by push_cast; rfl
      have hnn : n * n ≤ 1000 * 1000 := Nat.mul_le_mul (by omega) (by omega)
      rw [enn]
      refine tt_grd.mpr ⟨rg3_ok (by omega) (by omega) (by omega) (by omega) (by omega) (by omega), ?_⟩
      refine Tt.then (set_loop (μ := μ) (val := false) (fun y => y) (N := x + 1) (fun y hy => ?_) hl) fun st' s' ⟨q1, q2, q3⟩ => tt_pure.mpr ⟨n + 1, by push_cast; rfl, by omega, q1, q2, fun j hj => ?_, ci_s z⟩
      · obtain ⟨k, rfl, h4⟩ := (mem_rng3 (by omega)).mp hy
        have h0 : 0 ≤ (k : Int) * (n : Int) := Int.mul_nonneg (by omega) (by omega)
        omega
      · show st'[j]? = _
        rw [q3 j hj, hst j hj, sb_s hp]
        have key : ((rng3 ((n * n : Nat) : Int) ((x : Int) + 1) (n : Int)).any fun y => decide (y = (j : Int))) = true ↔ n * n ≤ j ∧ n ∣ j := by
          rw [any_rng3 (e := fun y => y) (by omega), ← mult_from (by omega) (Nat.dvd_mul_right n n)]
          exact ⟨fun ⟨k, h1, h2⟩ => ⟨k, h1⟩, fun ⟨k, h1⟩ => ⟨k, h1, by omega⟩⟩
        by_cases w : n * n ≤ j ∧ n ∣ j
        · rw [if_pos (key.mpr w), if_pos w]
        · rw [if_neg (fun v => w (key.mp v)), if_neg w]
    · exact Tt.neg z (tt_pure.mpr ⟨n + 1, by push_cast; rfl, by omega, rfl, hl, fun j hj => by rw [sb_no (fun w => z (prb_iff.mpr w))]; exact hst j hj, ci_n z⟩)
  · rw [rep_get, List.length_replicate]; omega
  · intro j hj
    rw [rep_get, List.getElem?_replicate, if_pos (by omega)]
    refine congrArg some (Eq.symm (sb_iff.mpr fun d h1 h3 => ?_))
    have := h3.1; omega
  · rw [psb_two]; rfl
  · rintro st s1 ⟨n, e, _, h1, _, _, h2⟩
    have : n = x + 1 := by omega
    exact ⟨h1, by rw [← this]; exact h2⟩
end Wk
set_option Elab.async false
set_option maxRecDepth 1000000
set_option maxHeartbeats 4000000
set_option linter.all false
/-! A86g: the primes of a window -/
namespace Wk
open PySem L2
open PyProof.Rows hiding St
def tb (p j : Nat) : Bool := decide (j < 2) || !sb p j
theorem rng_get {lo hi : Int} {i : Nat} (h : lo + i < hi) : (rng lo hi)[i]? = some (lo + i) := by
  unfold rng
  rw [List.getElem?_map, List.getElem?_range (by omega)]; rfl
theorem enum_eq {α : Type} {r : List α} (d : α) : enum r = (List.range r.length).map fun n : Nat => ((n : Int), r.getD n d) := by
  apply List.ext_getElem?
  intro i
  unfold enum
  rw [List.getElem?_map, List.getElem?_map, List.getElem?_zipIdx]
  by_cases h : i < r.length
  · rw [List.getElem?_range h, List.getElem?_eq_getElem h]
    show some (((0 + i : Nat) : Int), r[i]) = some ((i : Int), r.getD i d)
    rw [List.getD_eq_getElem?_getD, List.getElem?_eq_getElem h, Nat.zero_add]; rfl
  · rw [List.getElem?_eq_none (by omega), List.getElem?_eq_none (by rw [List.length_range]; omega)]; rfl
theorem win_ok {low x n : Nat} {st : List Bool} (h1 : 1 ≤ low) (h2 : low ≤ x) (hn : x < n * n) (hl : st.length = x + 1 - low) (hst : ∀ i : Nat, i < x + 1 - low → st[i]? = some (tb n (low + i))) :
    List.map (fun x171 : Int × Bool => ((low : Int) + x171.1)) (List.filter (fun x171 => (!x171.2)) (enum st)) = List.map (fun x464 : Int => x464) (List.filter (fun x464 : Int => (decide ((low : Int) ≤ x464))) (ci (psb (x + 1)))) := by
  refine asc_eq ?_ ?_ fun y => ?_
  · rw [enum_eq false, List.pairwise_map]
    refine List.Pairwise.filter _ ?_
    rw [List.pairwise_map]
    exact List.pairwise_lt_range.imp fun {a b} q => by show (low : Int) + (a : Int) < (low : Int) + (b : Int); omega
  · rw [List.map_id']
    refine List.Pairwise.filter _ ?_
    unfold ci psb
    rw [List.pairwise_map]
    exact (List.Pairwise.filter _ List.pairwise_lt_range).imp fun {a b} q => by omega
  · rw [List.map_id', List.mem_filter, List.mem_map, decide_eq_true_iff]
    constructor
    · rintro ⟨z, hz, rfl⟩
      obtain ⟨hz, hb⟩ := List.mem_filter.mp hz
      rw [enum_eq false] at hz
      obtain ⟨i, hi, rfl⟩ := List.mem_map.mp hz
      have hi := List.mem_range.mp hi
      have hb : st.getD i false = false := by simpa using hb
      rw [List.getD_eq_getElem?_getD, hst i (by omega), Option.getD_some] at hb
      unfold tb at hb
      rw [Bool.or_eq_false_iff] at hb
      have b1 : ¬ low + i < 2 := of_decide_eq_false hb.1
      have b2 : sb n (low + i) = true := by simpa using hb.2
      rw [sb_end hn (by omega) (by omega)] at b2
      refine ⟨?_, by show (low : Int) ≤ (low : Int) + (i : Int); omega⟩
      show (low : Int) + (i : Int) ∈ _
      rw [show (low : Int) + (i : Int) = ((low + i : Nat) : Int) by push_cast; rfl]
      exact mem_ci.mpr (mem_psb.mpr ⟨by omega, prb_iff.mp b2⟩)
    · rintro ⟨hy, hlow⟩
      obtain ⟨p, hp, rfl⟩ := List.mem_map.mp hy
      obtain ⟨p1, p2⟩ := mem_psb.mp hp
      have hp2 := p2.1
      refine ⟨(((p - low : Nat) : Int), false), List.mem_filter.mpr ⟨?_, rfl⟩, by show (low : Int) + ((p - low : Nat) : Int) = (p : Int); omega⟩
      rw [enum_eq false]
      refine List.mem_map.mpr ⟨p - low, List.mem_range.mpr (by omega), ?_⟩
      rw [List.getD_eq_getElem?_getD, hst _ (by omega), Option.getD_some, show low + (p - low) = p by omega]
      unfold tb
      rw [sb_end hn hp2 (by omega), prb_iff.mpr p2, decide_eq_false (by omega)]; rfl
theorem psb_most : (psb 1001).length = 168 := by decide +kernel
theorem psb_few {x : Nat} (hx : x ≤ 1000) : (psb (x + 1)).length ≤ 168 := by
  obtain ⟨t, e⟩ := psb_pre (a := x + 1) (b := 1001) (by omega)
  have := psb_most
  rw [e, List.length_append] at this
  omega
theorem between_ok {low x : Nat} (h1 : 1 ≤ low) (h2 : low ≤ x) (hx : x ≤ 1000) : m_primes_between (low : Int) (x : Int) = some (List.map (fun x464 : Int => x464) (List.filter (fun x464 : Int => (decide ((low : Int) ≤ x464))) (ci (psb (x + 1))))) := by
  obtain ⟨n, n2, n3, n4, n5, es⟩ := small_ok (x := x) (by omega)
  refine tt_eq ?_
  unfold m_primes_between
  refine Tt.neg (by rw [decide_eq_true_iff]; omega) (tt_grd.mpr ⟨⟨⟨by omega, by omega⟩, ⟨by omega, by omega⟩⟩, tt_grd.mpr ⟨by rw [rng_len]; omega, tt_bnd.mpr ((tt_lft es).mpr ?_)⟩⟩)
  refine Tt.then (P' := fun (st : List Bool) _ => st.length = x + 1 - low ∧ ∀ i : Nat, i < x + 1 - low → st[i]? = some (tb n (low + i))) ?_ ?_
  · refine lp_psb (I := fun p (st : List Bool) _ => st.length = x + 1 - low ∧ ∀ i : Nat, i < x + 1 - low → st[i]? = some (tb p (low + i))) ?_ ?_ ?_
    · rintro p st s hpn hp ⟨hl, hst⟩
      have hp2 := hp.1
      have ec : (((low : Int) + (p : Int)) - (1 : Int)) / (p : Int) = (((low + p - 1) / p : Nat) : Int) := by
        rw [show ((low : Int) + (p : Int)) - (1 : Int) = ((low + p - 1 : Nat) : Int) by omega, ndiv]
      rw [ec]
      generalize hq : (low + p - 1) / p = q
      have hq1 : q * p ≤ low + p - 1 := by rw [← hq]; exact Nat.div_mul_le_self ..
      have hq2 : low ≤ q * p := by
        have := Nat.lt_div_mul_add (a := low + p - 1) (b := p) (by omega)
        rw [hq] at this
        omega
      have hql : q ≤ 2000 := by
        have : q * 1 ≤ q * p := Nat.mul_le_mul_left q (by omega)
        omega
      have hpp : p * p ≤ 1002 * 1002 := Nat.mul_le_mul (by omega) (by omega)
      have ea : (if ((q : Int) * (p : Int)) > ((p : Int) * (p : Int)) then ((q : Int) * (p : Int)) else ((p : Int) * (p : Int))) = ((max (q * p) (p * p) : Nat) : Int) := by
        have e1 : (q : Int) * (p : Int) = ((q * p : Nat) : Int) := by push_cast; rfl
        have e2 : (p : Int) * (p : Int) = ((p * p : Nat) : Int) := by push_cast; rfl
        rw [e1, e2]
        by_cases z : p * p < q * p
        · rw [if_pos (by omega), Nat.max_eq_left (by omega)]
        · rw [if_neg (by omega), Nat.max_eq_right (by omega)]
      rw [ea]
      have ha : p ∣ max (q * p) (p * p) := by
        rcases Nat.le_total (q * p) (p * p) with w | w
        · rw [Nat.max_eq_right w]; exact Nat.dvd_mul_right ..
        · rw [Nat.max_eq_left w]; exact Nat.dvd_mul_left ..
      have ha2 : ∀ j, p ∣ j → low ≤ j → p * p ≤ j → max (q * p) (p * p) ≤ j := fun j d1 d2 d3 => by
        refine Nat.max_le.mpr ⟨?_, d3⟩
        obtain ⟨k, rfl⟩ := d1
        rw [Nat.mul_comm]
        refine Nat.mul_le_mul_left p ?_
        rw [← hq]
        refine Nat.le_of_lt_succ ((Nat.div_lt_iff_lt_mul (by omega)).mpr ?_)
        rw [Nat.succ_mul, Nat.mul_comm k p]
        omega
      have ha3 : max (q * p) (p * p) ≤ 10000000 := Nat.max_le.mpr ⟨by omega, by omega⟩
      have ha4 : q * p ≤ max (q * p) (p * p) := Nat.le_max_left ..
      have ha5 : p * p ≤ max (q * p) (p * p) := Nat.le_max_right ..
      generalize max (q * p) (p * p) = a at ha ha2 ha3 ha4 ha5
      refine tt_grd.mpr ⟨⟨sm_small (by omega), sm_small (by omega)⟩, tt_grd.mpr ⟨dv_nat (by omega) (by omega), tt_grd.mpr ⟨⟨sm_small (by omega), sm_small (by omega)⟩, tt_grd.mpr ⟨rg3_ok (by omega) (by omega) (by omega) (by omega) (by omega) (by omega), ?_⟩⟩⟩⟩
      refine Tt.then (set_loop (val := true) (fun y => y - (low : Int)) (N := x + 1 - low) (fun y hy => ?_) hl) fun st' s' ⟨_, q2, q3⟩ => tt_pure.mpr ⟨q2, fun i hi => ?_⟩
      · obtain ⟨k, rfl, h4⟩ := (mem_rng3 (by omega)).mp hy
        have h0 : 0 ≤ (k : Int) * (p : Int) := Int.mul_nonneg (by omega) (by omega)
        show 0 ≤ (a : Int) + (k : Int) * (p : Int) - (low : Int) ∧ (a : Int) + (k : Int) * (p : Int) - (low : Int) < _
        omega
      · rw [q3 i hi, hst i hi]
        have key : ((rng3 (a : Int) ((x : Int) + 1) (p : Int)).any fun y => decide (y - (low : Int) = (i : Int))) = true ↔ p * p ≤ low + i ∧ p ∣ low + i := by
          rw [any_rng3 (e := fun y => y - (low : Int)) (by omega)]
          constructor
          · rintro ⟨k, c1, c2⟩
            have c1 : (a : Int) + (k : Int) * (p : Int) = ((low + i : Nat) : Int) := by omega
            have := (mult_from (by omega) ha).mp ⟨k, c1⟩
            exact ⟨by omega, this.2⟩
          · rintro ⟨c1, c2⟩
            obtain ⟨k, c3⟩ := (mult_from (j := low + i) (by omega) ha).mpr ⟨ha2 _ c2 (by omega) c1, c2⟩
            exact ⟨k, by omega, by omega⟩
        unfold tb
        rw [sb_s hp]
        by_cases w : p * p ≤ low + i ∧ p ∣ low + i
        · rw [if_pos (key.mpr w), if_pos w, Bool.not_false, Bool.or_true]
        · rw [if_neg (fun v => w (key.mp v)), if_neg w]
    · rintro p st s hpn hp ⟨hl, hst⟩
      refine ⟨hl, fun i hi => ?_⟩
      rw [hst i hi]
      unfold tb
      rw [sb_no hp]
    · refine ⟨by rw [List.length_map, rng_len]; omega, fun i hi => ?_⟩
      rw [List.getElem?_map, rng_get (by omega)]
      show some (decide ((low : Int) + (i : Int) < 2)) = some (decide (low + i < 2) || !sb 0 (low + i))
      have : sb 0 (low + i) = true := rfl
      rw [this, Bool.not_true, Bool.or_false]
      exact congrArg some (decide_eq_decide.mpr (by omega))
  · rintro st s ⟨hl, hst⟩
    refine tt_grd.mpr ⟨by rw [enum_eq false, List.length_map, List.length_range]; omega, ?_⟩
    rw [win_ok h1 h2 n4 hl hst]
    refine tt_bnd.mpr (Tt.neg ?_ (tt_bnd.mpr (tt_pure.mpr rfl)))
    rw [decide_eq_true_iff, List.length_map]
    have a1 := List.length_filter_le (fun x464 : Int => (decide ((low : Int) ≤ x464))) (ci (psb (x + 1)))
    have a2 := psb_few hx
    rw [ci_len] at a1
    omega
end Wk
set_option Elab.async false
set_option maxRecDepth 1000000
set_option maxHeartbeats 4000000
set_option linter.all false
/-! A86h: primes to 1000, asked of the mirrors by the kernel -/
namespace Wk
open PySem L2
open PyProof.Rows hiding St
noncomputable def kP (n : Nat) : Bool := decide (m_is_prime_number n = some (prb n)) && (match m_primes_of n with | some r => decide (decide (r = [((n : Int), (1 : Int))]) = prb n) | none => false)
def upTo (lo k : Nat) (f : Nat → Bool) : Bool := (List.range k).all fun i => f (lo + i)
theorem upTo_get {lo k n : Nat} {f : Nat → Bool} (h : upTo lo k f = true) (h1 : lo ≤ n) (h2 : n < lo + k) : f n = true := by
  have := List.all_eq_true.mp h (n - lo) (List.mem_range.mpr (by omega))
  rwa [Nat.add_sub_cancel' h1] at this
theorem kP0 : upTo 1 50 kP = true := by decide +kernel
theorem kP1 : upTo 51 50 kP = true := by decide +kernel
theorem kP2 : upTo 101 50 kP = true := by decide +kernel
theorem kP3 : upTo 151 50 kP = true := by decide +kernel
theorem kP4 : upTo 201 50 kP = true := by decide +kernel
theorem kP5 : upTo 251 50 kP = true := by decide +kernel
theorem kP6 : upTo 301 50 kP = true := by decide +kernel
theorem kP7 : upTo 351 50 kP = true := by decide +kernel
theorem kP8 : upTo 401 50 kP = true := by decide +kernel
theorem kP9 : upTo 451 50 kP = true := by decide +kernel
theorem kP10 : upTo 501 50 kP = true := by decide +kernel
theorem kP11 : upTo 551 50 kP = true := by decide +kernel
theorem kP12 : upTo 601 50 kP = true := by decide +kernel
theorem kP13 : upTo 651 50 kP = true := by decide +kernel
theorem kP14 : upTo 701 50 kP = true := by decide +kernel
theorem kP15 : upTo 751 50 kP = true := by decide +kernel
theorem kP16 : upTo 801 50 kP = true := by decide +kernel
theorem kP17 : upTo 851 50 kP = true := by decide +kernel
theorem kP18 : upTo 901 50 kP = true := by decide +kernel
theorem kP19 : upTo 951 50 kP = true := by decide +kernel
theorem kP_all {n : Nat} (h1 : 1 ≤ n) (h2 : n ≤ 1000) : kP n = true := by
  by_cases z0 : n < 51
  · exact upTo_get kP0 (by omega) (by omega)
  by_cases z1 : n < 101
  · exact upTo_get kP1 (by omega) (by omega)
  by_cases z2 : n < 151
  · exact upTo_get kP2 (by omega) (by omega)
  by_cases z3 : n < 201
  · exact upTo_get kP3 (by omega) (by omega)
  by_cases z4 : n < 251
  · exact upTo_get kP4 (by omega) (by omega)
  by_cases z5 : n < 301
  · exact upTo_get kP5 (by omega) (by omega)
  by_cases z6 : n < 351
  · exact upTo_get kP6 (by omega) (by omega)
  by_cases z7 : n < 401
  · exact upTo_get kP7 (by omega) (by omega)
  by_cases z8 : n < 451
  · exact upTo_get kP8 (by omega) (by omega)
  by_cases z9 : n < 501
  · exact upTo_get kP9 (by omega) (by omega)
  by_cases z10 : n < 551
  · exact upTo_get kP10 (by omega) (by omega)
  by_cases z11 : n < 601
  · exact upTo_get kP11 (by omega) (by omega)
  by_cases z12 : n < 651
  · exact upTo_get kP12 (by omega) (by omega)
  by_cases z13 : n < 701
  · exact upTo_get kP13 (by omega) (by omega)
  by_cases z14 : n < 751
  · exact upTo_get kP14 (by omega) (by omega)
  by_cases z15 : n < 801
  · exact upTo_get kP15 (by omega) (by omega)
  by_cases z16 : n < 851
  · exact upTo_get kP16 (by omega) (by omega)
  by_cases z17 : n < 901
  · exact upTo_get kP17 (by omega) (by omega)
  by_cases z18 : n < 951
  · exact upTo_get kP18 (by omega) (by omega)
  exact upTo_get kP19 (by omega) (by omega)
theorem prime_ok {n : Nat} (h1 : 1 ≤ n) (h2 : n ≤ 1000) : m_is_prime_number (n : Int) = some (prb n) ∧ ∃ r, m_primes_of (n : Int) = some r ∧ decide (r = [((n : Int), (1 : Int))]) = prb n := by
  have h := kP_all h1 h2
  unfold kP at h
  rw [Bool.and_eq_true] at h
  refine ⟨of_decide_eq_true h.1, ?_⟩
  have h2 := h.2
  split at h2
  · rename_i r e
    exact ⟨r, e, of_decide_eq_true h2⟩
  · cases h2
end Wk
set_option Elab.async false
set_option maxRecDepth 1000000
set_option maxHeartbeats 4000000
set_option linter.all false
/-! A86i: numbers left by the first primes -/
namespace Wk
open PySem L2
open PyProof.Rows hiding St
def fs : List Int := [2, 3, 5, 7, 11, 13, 17, 19, 23, 29]
def fsN : List Nat := [2, 3, 5, 7, 11, 13]
def stp (f : List (Int × Int)) (p : Int) : List (Int × Int) := f ++ f.map fun y => (p * y.1, -y.2)
def fnd (l : List Int) : List (Int × Int) := l.foldl stp [(1, 1)]
def LN (l : List (Int × Int)) (x : Int) : Int := (l.map fun y => y.2 * (x / y.1)).sum
def sz (l : List Int) : Int := l.foldl (fun a p => a * p) 1
def rst (l : List Int) : Int := l.foldl (fun a p => a * (p - 1)) 1
def ups (k : Nat) : Nat := [2, 3, 4, 6, 8, 12, 14].getD k 0
def fd (k : Nat) : List (Int × Int) := fnd (fs.take k)
noncomputable def kS (k : Nat) : Bool := decide (m_first_primes k = some (fs.take k)) && decide (m_struck_signs k = some (srt2 (fd k))) && decide (m_left_in_round k = some (rst (fs.take k)))
  && ((fd k).all fun y => decide (0 < y.1 ∧ y.1 ≤ 30030 ∧ y.2.natAbs ≤ 1 ∧ sz (fs.take k) % y.1 = 0)) && decide (LN (fd k) (sz (fs.take k)) = rst (fs.take k)) && decide (fs.take k = ci (psb (ups k))) && decide (LN (fd k) 0 = 0) && decide ((fd k).length ≤ 64)
  && decide (0 < sz (fs.take k) ∧ sz (fs.take k) ≤ 30030 ∧ 0 < rst (fs.take k) ∧ rst (fs.take k) ≤ 30030) && decide ((psb (ups k)).length = k)
def kT (k : Nat) : Bool := decide (fd (k + 1) = stp (fd k) (fs.getD k 0)) && decide (L2.atI (fs.take (k + 1)) (-1) = some (fs.getD k 0)) && decide (2 ≤ fs.getD k 0 ∧ fs.getD k 0 ≤ 13)
theorem kS_all : ((List.range 7).all kS) = true := by decide +kernel
theorem kT_all : ((List.range 6).all kT) = true := by decide +kernel
def okn (k n : Nat) : Bool := (psb (ups k)).all fun p => !Nat.beq (n % p) 0
def kL (k : Nat) : Bool := (List.range 300).all fun n => decide (LN (fd k) ((n : Int) + 1) - LN (fd k) n = if ((fsN.take k).all fun p => !Nat.beq ((n + 1) % p) 0) = true then 1 else 0)
theorem kL0 : kL 0 = true := by decide +kernel
theorem kL1 : kL 1 = true := by decide +kernel
theorem kL2 : kL 2 = true := by decide +kernel
theorem kL3 : kL 3 = true := by decide +kernel
theorem kL4 : kL 4 = true := by decide +kernel
theorem kL5 : kL 5 = true := by decide +kernel
theorem kL6 : kL 6 = true := by decide +kernel
theorem kU : ((List.range 7).all fun k => decide (fsN.take k = psb (ups k))) = true := by decide +kernel
structure Sk (k : Nat) : Prop where
  f : m_first_primes (k : Int) = some (fs.take k)
  g : m_struck_signs (k : Int) = some (srt2 (fd k))
  r : m_left_in_round (k : Int) = some (rst (fs.take k))
  b : ∀ y ∈ fd k, 0 < y.1 ∧ y.1 ≤ 30030 ∧ y.2.natAbs ≤ 1 ∧ sz (fs.take k) % y.1 = 0
  z : LN (fd k) (sz (fs.take k)) = rst (fs.take k)
  p : fs.take k = ci (psb (ups k))
  o : LN (fd k) 0 = 0
  l : (fd k).length ≤ 64
  s : 0 < sz (fs.take k) ∧ sz (fs.take k) ≤ 30030 ∧ 0 < rst (fs.take k) ∧ rst (fs.take k) ≤ 30030
  n : (psb (ups k)).length = k
theorem sk {k : Nat} (hk : k < 7) : Sk k := by
  have h := List.all_eq_true.mp kS_all k (List.mem_range.mpr hk)
  unfold kS at h
  simp only [Bool.and_eq_true, decide_eq_true_eq, List.all_eq_true] at h
  obtain ⟨⟨⟨⟨⟨⟨⟨⟨⟨h1, h2⟩, h3⟩, h4⟩, h5⟩, h6⟩, h7⟩, h8⟩, h9⟩, h10⟩ := h
  exact ⟨h1, h2, h3, h4, h5, h6, h7, h8, h9, h10⟩
theorem tk {k : Nat} (hk : k < 6) : fd (k + 1) = stp (fd k) (fs.getD k 0) ∧ L2.atI (fs.take (k + 1)) (-1) = some (fs.getD k 0) ∧ 2 ≤ fs.getD k 0 ∧ fs.getD k 0 ≤ 13 := by
  have h := List.all_eq_true.mp kT_all k (List.mem_range.mpr hk)
  unfold kT at h
  simp only [Bool.and_eq_true, decide_eq_true_eq] at h
  exact ⟨h.1.1, h.1.2, h.2⟩
theorem LN_perm {a b : List (Int × Int)} (h : a.Perm b) (x : Int) : LN a x = LN b x := by
  unfold LN
  induction h with
  | nil => rfl
  | cons y _ ih => rw [List.map_cons, List.map_cons, List.sum_cons, List.sum_cons, ih]
  | swap y z _ => simp only [List.map_cons, List.sum_cons]; omega
  | trans _ _ ih1 ih2 => exact ih1.trans ih2
theorem LN_app (a b : List (Int × Int)) (x : Int) : LN (a ++ b) x = LN a x + LN b x := by
  unfold LN
  rw [List.map_append, List.sum_append_int]
theorem LN_stp {p x : Int} (hp : 0 ≤ p) : ∀ f : List (Int × Int), LN (f.map fun y => (p * y.1, -y.2)) x = - LN f (x / p)
  | [] => rfl
  | y :: f => by
    have ih := LN_stp (x := x) hp f
    unfold LN at ih ⊢
    rw [List.map_cons, List.map_cons, List.sum_cons, List.map_cons, List.sum_cons, ih]
    show -y.2 * (x / (p * y.1)) + _ = _
    rw [← Int.ediv_ediv_of_nonneg hp, Int.neg_mul]; omega
theorem LN_add {m x : Int} : ∀ {f : List (Int × Int)}, (∀ y ∈ f, 0 < y.1 ∧ m % y.1 = 0) → LN f (x + m) = LN f x + LN f m
  | [], _ => rfl
  | y :: f, h => by
    have ih := LN_add (x := x) (m := m) (f := f) fun z hz => h z (List.mem_cons_of_mem _ hz)
    have hy := h y (List.mem_cons_self ..)
    unfold LN at ih ⊢
    rw [List.map_cons, List.map_cons, List.map_cons, List.sum_cons, List.sum_cons, List.sum_cons, ih, Int.add_ediv_of_dvd_right (Int.dvd_of_emod_eq_zero hy.2), Int.mul_add]
    omega
theorem LN_low {x : Int} (h0 : 0 ≤ x) : ∀ {f : List (Int × Int)}, (∀ y ∈ f, 0 < y.1 ∧ y.2.natAbs ≤ 1) → (LN f x).natAbs ≤ f.length * x.natAbs
  | [], _ => by show (0 : Int).natAbs ≤ _; simp
  | y :: f, h => by
    have ih := LN_low h0 (f := f) fun z hz => h z (List.mem_cons_of_mem _ hz)
    have hy := h y (List.mem_cons_self ..)
    unfold LN at ih ⊢
    rw [List.map_cons, List.sum_cons, List.length_cons, Nat.succ_mul]
    have h1 : (y.2 * (x / y.1)).natAbs ≤ 1 * (x / y.1).natAbs := by rw [Int.natAbs_mul]; exact Nat.mul_le_mul_right _ hy.2
    have h2 : x / y.1 ≤ x := Int.ediv_le_self _ h0
    have h3 : 0 ≤ x / y.1 := Int.ediv_nonneg h0 (by omega)
    omega
theorem left_ok {k : Nat} (hk : k < 7) {x : Int} (h0 : 0 ≤ x) (hx : x ≤ 10 ^ 35) : m_left_number x (k : Int) = some (LN (fd k) x) := by
  have S := sk hk
  have hp := srt2_perm (fd k)
  refine tt_eq ?_
  unfold m_left_number
  refine (tt_lft S.g).mpr (tt_grd.mpr ⟨by rw [hp.length_eq]; have := S.l; omega, ?_⟩)
  refine tt_map (g := fun y : Int × Int => y.2 * (x / y.1)) (fun y hy s Q hQ => ?_) (tt_bnd.mpr (tt_pure.mpr ?_))
  · have hb := S.b y (hp.mem_iff.mp hy)
    have h2 : x / y.1 ≤ x := Int.ediv_le_self _ h0
    have h3 : 0 ≤ x / y.1 := Int.ediv_nonneg h0 (by omega)
    refine tt_grd.mpr ⟨dv_s hb.1 (by omega), tt_grd.mpr ⟨⟨sm_small (by omega), sm_lt (b := 10 ^ 35) (by omega) (by decide)⟩, tt_pure.mpr hQ⟩⟩
  · exact LN_perm hp x
theorem kL_all {k : Nat} (hk : k < 7) : kL k = true := by
  have : k = 0 ∨ k = 1 ∨ k = 2 ∨ k = 3 ∨ k = 4 ∨ k = 5 ∨ k = 6 := by omega
  rcases this with e | e | e | e | e | e | e <;> subst e
  · exact kL0
  · exact kL1
  · exact kL2
  · exact kL3
  · exact kL4
  · exact kL5
  · exact kL6
def okl (k n : Nat) : Bool := Nat.ble 1 n && okn k n
theorem LN_count {k : Nat} (hk : k < 7) : ∀ {x : Nat}, x ≤ 300 → LN (fd k) (x : Int) = (((List.range (x + 1)).filter (okl k)).length : Int)
  | 0, _ => by
    have : (List.range (0 + 1)).filter (okl k) = [] := rfl
    rw [this]; exact (sk hk).o
  | x + 1, hx => by
    have ih := LN_count hk (x := x) (by omega)
    have h := kL_all hk
    unfold kL at h
    have h := of_decide_eq_true (List.all_eq_true.mp h x (List.mem_range.mpr (by omega)))
    have e : fsN.take k = psb (ups k) := of_decide_eq_true (List.all_eq_true.mp kU k (List.mem_range.mpr hk))
    rw [e] at h
    have h : LN (fd k) ((x : Int) + 1) - LN (fd k) x = if okn k (x + 1) = true then 1 else 0 := h
    rw [List.range_succ, List.filter_append, List.length_append]
    have e2 : okl k (x + 1) = okn k (x + 1) := by unfold okl; rw [Nat.ble_eq.mpr (by omega), Bool.true_and]
    show LN (fd k) ((x : Int) + 1) = _
    push_cast
    rw [← ih]
    by_cases z : okn k (x + 1) = true
    · rw [if_pos z] at h
      rw [List.filter_cons_of_pos (by rw [e2]; exact z)]
      show _ = _ + (([x + 1] : List Nat).length : Int)
      rw [List.length_singleton]; omega
    · rw [if_neg z] at h
      rw [List.filter_cons_of_neg (by rw [e2]; exact z), List.filter_nil, List.length_nil]; omega
theorem okn_iff {k n : Nat} : okn k n = true ↔ ∀ p, p < ups k → Pr p → ¬ p ∣ n := by
  unfold okn
  rw [List.all_eq_true]
  constructor
  · intro h p h1 h2 h3
    have := h p (mem_psb.mpr ⟨h1, h2⟩)
    rw [beq0.mpr h3] at this
    exact absurd this (by decide)
  · intro h p hp
    obtain ⟨h1, h2⟩ := mem_psb.mp hp
    have := h p h1 h2
    cases e : Nat.beq (n % p) 0 with
    | false => rfl
    | true => exact absurd (beq0.mp e) this
/-- left, or one of the first primes -/
theorem keep_ok {k u : Nat} (h2 : 2 ≤ u) : keepB (ups k) u = true ↔ okn k u = true ∨ u ∈ psb (ups k) := by
  rw [keep_iff, okn_iff, mem_psb]
  constructor
  · rintro ⟨_, h⟩
    by_cases z : ∃ p, p < ups k ∧ Pr p ∧ p ∣ u
    · obtain ⟨p, h1, h3, h4⟩ := z
      have e := h p h3 h1 h4
      subst e
      exact .inr ⟨h1, h3⟩
    · exact .inl fun p h1 h3 h4 => z ⟨p, h1, h3, h4⟩
  · rintro (h | ⟨h1, h3⟩)
    · exact ⟨h2, fun d h1 h3 h4 => absurd h4 (h d h3 h1)⟩
    · refine ⟨h2, fun d h4 h5 h6 => ?_⟩
      rcases h3.one h6 with e | e
      · have := h4.1; omega
      · exact e
theorem range_below {q : Nat → Bool} {a b : Nat} (h : a ≤ b) : ((List.range b).filter q).filter (fun p => decide (p < a)) = (List.range a).filter q := by
  obtain ⟨k, rfl⟩ : ∃ k, b = a + k := ⟨b - a, by omega⟩
  clear h
  induction k with
  | zero => exact List.filter_eq_self.mpr fun p hp => decide_eq_true (List.mem_range.mp (List.mem_filter.mp hp).1)
  | succ k ih =>
    rw [← Nat.add_assoc, List.range_succ, List.filter_append, List.filter_append, ih]
    by_cases z : q (a + k) = true
    · rw [List.filter_cons_of_pos z, List.filter_nil, List.filter_cons_of_neg (by rw [decide_eq_true_iff]; omega), List.filter_nil, List.append_nil]
    · rw [List.filter_cons_of_neg z, List.filter_nil, List.filter_nil, List.append_nil]
theorem F_len {b : Nat} : ∀ v : Nat, F b (wf false) v = (((List.range (v + 1)).filter (keepB b)).length : Int)
  | 0 => by
    have : (List.range (0 + 1)).filter (keepB b) = [] := rfl
    rw [this]; rfl
  | v + 1 => by
    show F b (wf false) v + (if keepB b (v + 1) = true then (1 : Int) else 0) = _
    rw [F_len v, List.range_succ (n := v + 1), List.filter_append, List.length_append]
    push_cast
    by_cases z : keepB b (v + 1) = true
    · rw [if_pos z, List.filter_cons_of_pos z]; rfl
    · rw [if_neg z, List.filter_cons_of_neg z]; rfl
/-- the first k of the small ones and the first k of all leave the same -/
theorem keep_same {n m k x u : Nat} (hk : k < 7) (hn : x < n * n) (hm : psb m = (psb n).take k) (hmn : m ≤ n) (hu : u ≤ x) : keepB m u = keepB (ups k) u := by
  have S := sk hk
  by_cases z : k ≤ (psb n).length
  · have : psb m = psb (ups k) := by
      rw [hm]
      rcases Nat.le_total n (ups k) with w | w
      · obtain ⟨t, e⟩ := psb_pre w
        have hl := S.n
        rw [e, List.length_append] at hl
        have ht : t = [] := List.length_eq_zero_iff.mp (by omega)
        rw [e, ht, List.append_nil, List.take_of_length_le (by omega)]
      · obtain ⟨t, e⟩ := psb_pre w
        have hl := S.n
        rw [e]; exact List.take_left' hl
    unfold keepB
    rw [this]
  · rw [List.take_of_length_le (by omega)] at hm
    have e1 : keepB m u = keepB n u := by unfold keepB; rw [hm]
    have hs : ∀ d, Pr d → d * d ≤ u → d < n := fun d _ hd => Nat.lt_of_not_le fun w => by have := Nat.mul_le_mul w w; omega
    rw [e1, keep_pr hs, keep_pr fun d h1 h2 => ?_]
    have hd := mem_psb.mpr ⟨hs d h1 h2, h1⟩
    rcases Nat.le_total n (ups k) with w | w
    · exact Nat.lt_of_lt_of_le (hs d h1 h2) w
    · obtain ⟨t, e⟩ := psb_pre w
      have hl := S.n
      rw [e, List.length_append] at z
      omega
end Wk
set_option Elab.async false
set_option maxRecDepth 1000000
set_option maxHeartbeats 4000000
set_option linter.all false
/-! A86j: the chain of primes that near doubles -/
namespace Wk
open PySem L2
open PyProof.Rows hiding St
def CH : List Int := [2, 3, 5, 7, 13, 23, 43, 83, 163, 317, 631, 1259]
def ch (i : Nat) : Int := CH.getD i 0
noncomputable def dn (c : Int) : Option Int := whS many (fun (st65 : Int) k => Mir.lft (m_is_prime_number st65) >>= fun r126 => k (!r126)) (fun (st65 : Int) =>
bnd (st65 - (1 : Int)) fun number96 =>
pure number96) (((2 : Int) * c) - (1 : Int))
theorem kD : ((List.range 11).all fun i => decide (dn (ch i) = some (ch (i + 1)))) = true := by decide +kernel
theorem kCp : (CH.all fun c => decide (m_is_prime_number c = some true)) = true := by decide +kernel
def kC (i : Nat) : Bool := decide (L2.atI (CH.take (i + 1)) 0 = some 2) && decide (L2.atI (CH.take (i + 1)) (-1) = some (ch i)) && ((CH.take (i + 1)).all fun c => decide (1 ≤ c ∧ c ≤ 2000))
  && ((List.range i).all fun j => match L2.atI (CH.take (i + 1)) (((j + 1 : Nat) : Int) - 1), L2.atI (CH.take (i + 1)) ((j + 1 : Nat) : Int) with | some a, some b => decide (a < b ∧ b < 2 * a ∧ a ≤ 2000 ∧ 0 < a) | _, _ => false)
  && decide ((CH.take (i + 1)).length = i + 1) && decide (1 ≤ ch i ∧ ch i ≤ 2000) && decide (i = 11 ∨ CH.take (i + 2) = CH.take (i + 1) ++ [ch (i + 1)])
theorem kC_all : ((List.range 12).all kC) = true := by decide +kernel
structure Cf (i : Nat) : Prop where
  h : L2.atI (CH.take (i + 1)) 0 = some 2
  e : L2.atI (CH.take (i + 1)) (-1) = some (ch i)
  b : ∀ c ∈ CH.take (i + 1), 1 ≤ c ∧ c ≤ 2000
  n : ∀ y, y ∈ rng 1 (((CH.take (i + 1)).length : Nat) : Int) → ∃ a b, L2.atI (CH.take (i + 1)) (y - 1) = some a ∧ L2.atI (CH.take (i + 1)) y = some b ∧ a < b ∧ b < 2 * a ∧ a ≤ 2000 ∧ 0 < a
  l : (CH.take (i + 1)).length = i + 1
  c : 1 ≤ ch i ∧ ch i ≤ 2000
  t : i = 11 ∨ CH.take (i + 2) = CH.take (i + 1) ++ [ch (i + 1)]
theorem cf {i : Nat} (hi : i < 12) : Cf i := by
  have h := List.all_eq_true.mp kC_all i (List.mem_range.mpr hi)
  unfold kC at h
  simp only [Bool.and_eq_true, decide_eq_true_eq, List.all_eq_true] at h
  obtain ⟨⟨⟨⟨⟨⟨h1, h2⟩, h3⟩, h4⟩, h5⟩, h6⟩, h7⟩ := h
  refine ⟨h1, h2, h3, fun y hy => ?_, h5, h6, h7⟩
  obtain ⟨y1, y2⟩ := mem_rng.mp hy
  obtain ⟨j, rfl⟩ : ∃ j : Nat, y = ((j + 1 : Nat) : Int) := ⟨(y - 1).toNat, by omega⟩
  have := h4 j (List.mem_range.mpr (by omega))
  split at this
  · rename_i a b e1 e2
    have q := of_decide_eq_true this
    exact ⟨a, b, e1, e2, q⟩
  · cases this
theorem chain_ok {x : Nat} (hx : x ≤ 1000) : ∃ i, i < 12 ∧ (x : Int) < ch i ∧ m_doubling_chain (x : Int) = some (CH.take (i + 1)) := by
  suffices h : ∃ r, m_doubling_chain (x : Int) = some r ∧ ∃ i, i < 12 ∧ (x : Int) < ch i ∧ r = CH.take (i + 1) by
    obtain ⟨r, e, i, a, b, rfl⟩ := h
    exact ⟨i, a, b, e⟩
  refine tt_ex ?_
  unfold m_doubling_chain
  refine tt_grd.mpr ⟨by simp, tt_bnd.mpr (Tt.then (P' := fun st _ => ∃ i, i < 12 ∧ (x : Int) < ch i ∧ st = CH.take (i + 1)) ?_ fun st s q => tt_bnd.mpr (tt_pure.mpr q))⟩
  refine Tt.whI (I := fun j st _ => ∃ i, i < 12 ∧ j = 12 - i ∧ st = CH.take (i + 1)) ?_ _ 12 _ _ ⟨0, by omega, rfl, rfl⟩ (lt_many (by decide))
  rintro j st s k P ⟨i, hi, hj, rfl⟩ hk
  have C := cf hi
  refine (tt_lft C.e).mpr (hk _ _ ?_ ?_)
  · intro ht
    have ht := of_decide_eq_true ht
    have hi2 : i < 11 := by
      refine Nat.lt_of_not_le fun w => ?_
      have : i = 11 := by omega
      subst this
      have : ch 11 = 1259 := rfl
      omega
    have hd : dn (ch i) = some (ch (i + 1)) := of_decide_eq_true (List.all_eq_true.mp kD i (List.mem_range.mpr hi2))
    refine (tt_lft C.e).mpr (tt_grd.mpr ⟨⟨sm_small (by decide), sm_small (by have := C.c; omega)⟩, tt_bnd.mpr ?_⟩)
    refine Tt.then (P' := fun v _ => v = ch (i + 1)) (by show Tt _ (dn (ch i)) _; exact tt_of hd rfl) ?_
    rintro v s1 rfl
    refine tt_grd.mpr ⟨by rw [C.l]; omega, tt_bnd.mpr (tt_pure.mpr ⟨12 - (i + 1), by omega, i + 1, by omega, rfl, ?_⟩)⟩
    rcases C.t with e | e
    · omega
    · exact e.symm
  · intro ht
    have ht := of_decide_eq_false ht
    exact ⟨i, hi, by omega, rfl⟩
theorem error_ok {x : Nat} {i : Nat} (hi : i < 12) (hx : (x : Int) < ch i) : m_doubling_error (x : Int) (CH.take (i + 1)) = some none := by
  have C := cf hi
  have hl := C.l
  have hne : CH.take (i + 1) ≠ [] := by intro e; rw [e] at hl; cases hl
  refine tt_eq ?_
  unfold m_doubling_error
  refine Tt.then (P' := fun b _ => b = false) (Tt.neg (by decide) (tt_grd.mpr ⟨by simp, tt_pure.mpr (decide_eq_false hne)⟩)) ?_
  rintro b s rfl
  refine Tt.neg (by decide) (Tt.then (P' := fun o _ => o = Ctl.go ()) ?_ ?_)
  · refine Tt.lpC (I := fun xs _ _ => ∀ c ∈ xs, 1 ≤ c ∧ c ≤ 2000) (R := fun o _ => o = Ctl.go ()) ?_ (fun st s _ => rfl) _ _ _ C.b
    intro c xs st s hc
    have hc1 := hc c (List.mem_cons_self ..)
    refine Tt.then (P' := fun b _ => b = false) (Tt.neg (by decide) ?_) ?_
    · refine Tt.then (P' := fun b _ => b = false) (Tt.neg (by decide) ?_) (by rintro b s rfl; exact tt_pure.mpr rfl)
      refine Tt.then (P' := fun b _ => b = true) (Tt.pos (decide_eq_true hc1.1) (tt_grd.mpr ⟨⟨sm_small (by decide), sm_small (by decide)⟩, tt_pure.mpr (decide_eq_true (by omega))⟩)) (by rintro b s rfl; exact tt_pure.mpr rfl)
    · rintro b s rfl
      exact Tt.neg (by decide) (tt_pure.mpr fun d hd => hc d (List.mem_cons_of_mem _ hd))
  rintro o s1 rfl
  refine (tt_lft C.h).mpr (Tt.neg (by decide) (tt_grd.mpr ⟨⟨by decide, by rw [hl]; exact ⟨by omega, by omega⟩⟩, Tt.then (P' := fun o _ => o = Ctl.go ()) ?_ ?_⟩))
  · refine Tt.lpC (I := fun xs _ _ => ∀ y ∈ xs, y ∈ rng 1 (((CH.take (i + 1)).length : Nat) : Int)) (R := fun o _ => o = Ctl.go ()) ?_ (fun st s _ => rfl) _ _ _ (fun y hy => hy)
    intro y xs st s hy
    obtain ⟨a, b, e1, e2, h1, h2, h3, h4⟩ := C.n y (hy y (List.mem_cons_self ..))
    refine (tt_lft e1).mpr ((tt_lft e2).mpr (Tt.then (P' := fun b _ => b = true) (Tt.pos (decide_eq_true h1) ((tt_lft e1).mpr (tt_grd.mpr ⟨⟨sm_small (by decide), sm_small (by omega)⟩, tt_pure.mpr (decide_eq_true h2)⟩))) ?_))
    rintro b s rfl
    exact Tt.neg (by decide) (tt_pure.mpr fun d hd => hy d (List.mem_cons_of_mem _ hd))
  rintro o s2 rfl
  refine Tt.then (P' := fun o _ => o = Ctl.go ()) ?_ ?_
  · refine Tt.lpC (I := fun xs _ _ => ∀ y ∈ xs, y.2 ∈ CH) (R := fun o _ => o = Ctl.go ()) ?_ (fun st s _ => rfl) _ _ _ (fun y hy => ?_)
    · intro y xs st s hy
      have hp : m_is_prime_number y.2 = some true := of_decide_eq_true (List.all_eq_true.mp kCp y.2 (hy y (List.mem_cons_self ..)))
      exact (tt_lft hp).mpr (Tt.neg (by decide) (tt_pure.mpr fun d hd => hy d (List.mem_cons_of_mem _ hd)))
    · unfold enum at hy
      obtain ⟨z, hz, rfl⟩ := List.mem_map.mp hy
      exact List.mem_of_mem_take (List.fst_mem_of_mem_zipIdx hz)
  rintro o s3 rfl
  refine (tt_lft C.e).mpr (tt_bnd.mpr (tt_pure.mpr ?_))
  rw [if_neg (by rw [decide_eq_true_iff]; omega)]
theorem chain_tail {x : Nat} (hx : x ≤ 1000) {s : PotT} : Tt s (μ := PM PotT) (Mir.lft (m_doubling_chain (x : Int)) >>= fun r1068 => bnd r1068 fun chain1007 =>
Mir.lft (m_doubling_error (x : Int) chain1007) >>= fun r1064 => (if (!Option.isNone r1064) = true then pure true else Mir.lft (L2.atI chain1007 (0 : Int)) >>= fun y1066 => (if (!decide (y1066 = (2 : Int))) = true then pure true else Mir.lft (L2.atI chain1007 (-(1 : Int))) >>= fun y1067 => pure (decide (y1067 ≤ (x : Int)))) >>= fun b1065 => pure b1065) >>= fun b1063 => if b1063 = true then
(bnd false fun r1031 => pure r1031)
else
(Mir.lft (grd (RgB (1 : Int) ∧ RgB (List.length chain1007 : Int))) >>= fun _ => Mir.lft (grd (List.length (rng (1 : Int) (List.length chain1007 : Int)) ≤ 16000000)) >>= fun _ => cmp (rng (1 : Int) (List.length chain1007 : Int)) (fun x1041 => Mir.lft (L2.atI chain1007 (x1041 - (1 : Int))) >>= fun y1045 => Mir.lft (L2.atI chain1007 x1041) >>= fun y1046 => (if (decide (y1045 < y1046)) = true then Mir.lft (L2.atI chain1007 (x1041 - (1 : Int))) >>= fun y1047 => Mir.lft (grd (Sm (2 : Int) ∧ Sm y1047)) >>= fun _ => pure (decide (y1046 < ((2 : Int) * y1047))) else pure false) >>= fun b1044 => if (!b1044) = true then pure (some x1041) else pure none) >>= fun l1062 => Mir.lft (grd (List.length ([] : List Int) ≤ 16000000)) >>= fun _ => bnd (decide (l1062 = ([] : List Int))) fun r1059 => pure r1059)) fun a _ => a = true := by
  obtain ⟨i, hi, hxi, ec⟩ := chain_ok hx
  have C := cf hi
  have hl := C.l
  refine (tt_lft ec).mpr (tt_bnd.mpr ((tt_lft (error_ok hi hxi)).mpr (Tt.then (P' := fun b s' => b = false ∧ s' = s) ?_ ?_)))
  · refine Tt.neg (by decide) ((tt_lft C.h).mpr (Tt.then (P' := fun b s' => b = false ∧ s' = s) (Tt.neg (by decide) ((tt_lft C.e).mpr (tt_pure.mpr ⟨decide_eq_false (by omega), rfl⟩))) (by rintro b s1 ⟨rfl, rfl⟩; exact tt_pure.mpr ⟨rfl, rfl⟩)))
  rintro b s1 ⟨rfl, rfl⟩
  refine Tt.neg (by decide) (tt_grd.mpr ⟨⟨by decide, by rw [hl]; exact ⟨by omega, by omega⟩⟩, tt_grd.mpr ⟨by rw [rng_len, hl]; omega, ?_⟩⟩)
  refine tt_filterMap (g := fun _ : Int => (none : Option Int)) (fun y hy s Q hQ => ?_) ?_
  · obtain ⟨a, b, e1, e2, h1, h2, h3, h4⟩ := C.n y hy
    refine (tt_lft e1).mpr ((tt_lft e2).mpr (Tt.then (P' := fun b s' => b = true ∧ s' = s) (Tt.pos (decide_eq_true h1) ((tt_lft e1).mpr (tt_grd.mpr ⟨⟨sm_small (by decide), sm_small (by omega)⟩, tt_pure.mpr ⟨decide_eq_true h2, rfl⟩⟩))) ?_))
    rintro b s2 ⟨rfl, rfl⟩
    exact Tt.neg (by decide) (tt_pure.mpr hQ)
  · have e : ∀ l : List Int, List.filterMap (fun _ : Int => (none : Option Int)) l = [] := fun l => by induction l with
      | nil => rfl
      | cons a l ih => rw [List.filterMap_cons]; exact ih
    rw [e]
    exact tt_grd.mpr ⟨by simp, tt_bnd.mpr (tt_pure.mpr rfl)⟩
end Wk
set_option Elab.async false
set_option maxRecDepth 1000000
set_option maxHeartbeats 4000000
set_option linter.all false
/-! A86k: the tail of the law: a window, a place, the chain -/
namespace Wk
open PySem L2
open PyProof.Rows hiding St
theorem ok_two {a b : Int} (ha : a.natAbs < 10 ^ 40) (hb : b.natAbs < 10 ^ 40) : OkD (PyData.list (List.map PyData.int [a, b])) :=
  (shp_list (n := 2) (D := 0) (B := 50) (by simp) (Shp.lc (shp_int ha) (shp_int hb).l1)).ok (by decide) (by decide)
theorem ok_rep {a : Int} (ha : a.natAbs < 10 ^ 40) : OkD (PyData.list (List.map PyData.int (List.replicate (Int.toNat (2 : Int)) ([a] : List Int)).flatten)) := ok_two ha ha
theorem mid_tail {x : Nat} (h1 : 1 ≤ x) (hx : x ≤ 1000) {s : PotT} {b : Nat} (hp : Pot s (b + 2)) : Tt s (μ := PM PotT) (m__law_of (x : Int) >>= fun r1077 => bnd ((1 : Int) + r1077) fun low936 =>
Mir.lft (m_primes_between low936 (if (decide (low936 ≤ (x : Int))) = true then (x : Int) else low936)) >>= fun r1076 => Mir.lft (grd (List.length (ci (psb (x + 1))) ≤ 16000000)) >>= fun _ => if (!decide (r1076 = (List.map (fun x946 => x946) (List.filter (fun x946 => (decide (low936 ≤ x946))) (ci (psb (x + 1))))))) = true then
(bnd false fun r963 => pure r963)
else
(m__law_of (if (List.length (ci (psb (x + 1))) : Int) > (1 : Int) then (List.length (ci (psb (x + 1))) : Int) else (1 : Int)) >>= fun r1075 => bnd r1075 fun at973 =>
Mir.lft (grd (List.length ([] : List Int) ≤ 16000000)) >>= fun _ => (if (!decide ((ci (psb (x + 1))) = ([] : List Int))) = true then Mir.lft (m_prime_at at973) >>= fun r1071 => Mir.lft (m_prime_at at973) >>= fun r1072 => Mir.lft (grd (List.length ([r1071, r1072] : List Int) ≤ 16000000)) >>= fun _ => bnd (PyData.list (List.map PyData.int ([r1071, r1072] : List Int))) fun d1070 => Mir.lft (grd (OkD d1070)) >>= fun _ => Mir.lft (L2.atI (ci (psb (x + 1))) at973) >>= fun y1074 => Mir.lft (grd (List.length ([y1074] : List Int) ≤ 16000000)) >>= fun _ => Mir.lft (grd (RpB (List.length ([y1074] : List Int)) (2 : Int))) >>= fun _ => bnd (PyData.list (List.map PyData.int (List.replicate (Int.toNat (2 : Int)) ([y1074] : List Int)).flatten)) fun d1073 => Mir.lft (grd (OkD d1073)) >>= fun _ => Mir.lft (grP (d1070 = d1073)) >>= fun _ => pure false else pure false) >>= fun b1069 => if b1069 = true then
(bnd false fun r997 => pure r997)
else
(Mir.lft (m_doubling_chain (x : Int)) >>= fun r1068 => bnd r1068 fun chain1007 =>
Mir.lft (m_doubling_error (x : Int) chain1007) >>= fun r1064 => (if (!Option.isNone r1064) = true then pure true else Mir.lft (L2.atI chain1007 (0 : Int)) >>= fun y1066 => (if (!decide (y1066 = (2 : Int))) = true then pure true else Mir.lft (L2.atI chain1007 (-(1 : Int))) >>= fun y1067 => pure (decide (y1067 ≤ (x : Int)))) >>= fun b1065 => pure b1065) >>= fun b1063 => if b1063 = true then
(bnd false fun r1031 => pure r1031)
else
(Mir.lft (grd (RgB (1 : Int) ∧ RgB (List.length chain1007 : Int))) >>= fun _ => Mir.lft (grd (List.length (rng (1 : Int) (List.length chain1007 : Int)) ≤ 16000000)) >>= fun _ => cmp (rng (1 : Int) (List.length chain1007 : Int)) (fun x1041 => Mir.lft (L2.atI chain1007 (x1041 - (1 : Int))) >>= fun y1045 => Mir.lft (L2.atI chain1007 x1041) >>= fun y1046 => (if (decide (y1045 < y1046)) = true then Mir.lft (L2.atI chain1007 (x1041 - (1 : Int))) >>= fun y1047 => Mir.lft (grd (Sm (2 : Int) ∧ Sm y1047)) >>= fun _ => pure (decide (y1046 < ((2 : Int) * y1047))) else pure false) >>= fun b1044 => if (!b1044) = true then pure (some x1041) else pure none) >>= fun l1062 => Mir.lft (grd (List.length ([] : List Int) ≤ 16000000)) >>= fun _ => bnd (decide (l1062 = ([] : List Int))) fun r1059 => pure r1059)))) fun a _ => a = true := by
  have hlen := psb_few hx
  refine (of_ok (b := b + 1) hp (by omega) (Int.lt_of_le_of_lt (b := 1000) (by omega) (by decide +kernel))).then fun r s1 ⟨a1, a2, hp1⟩ => tt_bnd.mpr ?_
  obtain ⟨low, hlow⟩ : ∃ low : Nat, (1 : Int) + r = low := ⟨(1 + r).toNat, by omega⟩
  rw [hlow]
  rw [if_pos (decide_eq_true (show (low : Int) ≤ (x : Int) by omega))]
  refine (tt_lft (between_ok (low := low) (x := x) (by omega) (by omega) hx)).mpr (tt_grd.mpr ⟨by rw [ci_len]; omega, Tt.neg (by rw [decide_eq_true rfl]; decide) ?_⟩)
  have hmx : (if ((ci (psb (x + 1))).length : Int) > (1 : Int) then ((ci (psb (x + 1))).length : Int) else (1 : Int)) = ((max (psb (x + 1)).length 1 : Nat) : Int) := by
    rw [ci_len]; split <;> omega
  rw [hmx]
  refine (of_ok (b := b) hp1 (by omega) (Int.lt_of_le_of_lt (b := 1000) (by omega) (by decide +kernel))).then fun w s2 ⟨b1, b2, hp2⟩ => tt_bnd.mpr ?_
  obtain ⟨k, rfl⟩ : ∃ k : Nat, w = k := ⟨w.toNat, by omega⟩
  refine tt_grd.mpr ⟨by simp, Tt.then (P' := fun o s' => o = false ∧ s' = s2) ?_ ?_⟩
  · by_cases z : psb (x + 1) = []
    · refine Tt.neg ?_ (tt_pure.mpr ⟨rfl, rfl⟩)
      rw [z]; decide
    · have hk : k < (psb (x + 1)).length := by
        have := List.length_pos_iff.mpr z
        omega
      have hz : ¬ ci (psb (x + 1)) = [] := fun e => by
        have := ci_len (psb (x + 1))
        rw [e] at this
        simp at this
        omega
      have ep := prime_at_ok (x := x) (by omega) hk
      have hat : L2.atI (ci (psb (x + 1))) (k : Int) = some (((psb (x + 1))[k] : Nat) : Int) := by
        rw [atI_nat (by rw [ci_len]; exact hk)]
        unfold ci
        rw [List.getElem?_map, List.getElem?_eq_getElem hk]; rfl
      have hv := (mem_psb.mp (List.getElem_mem hk)).1
      generalize (psb (x + 1))[k] = v at ep hat hv
      refine Tt.pos (by rw [decide_eq_false hz]; rfl) ((tt_lft ep).mpr ((tt_lft ep).mpr (tt_grd.mpr ⟨by simp, tt_bnd.mpr (tt_grd.mpr ⟨ok_two (by omega) (by omega), (tt_lft hat).mpr (tt_grd.mpr ⟨by simp, tt_grd.mpr ⟨⟨by decide, by decide, by simp⟩, tt_bnd.mpr (tt_grd.mpr ⟨ok_rep (by omega), tt_grP.mpr ⟨rfl, tt_pure.mpr ⟨rfl, rfl⟩⟩⟩)⟩⟩)⟩)⟩)))
  rintro o s3 ⟨rfl, rfl⟩
  exact Tt.neg (by decide) (chain_tail hx)
end Wk
set_option Elab.async false
set_option maxRecDepth 1000000
set_option maxHeartbeats 4000000
set_option linter.all false
/-! A86l: numbers left, told over many digits -/
namespace Wk
open PySem L2
open PyProof.Rows hiding St
def kV (k : Nat) : Bool := decide (fs.take (k + 1) = fs.take k ++ [fs.getD k 0]) && decide (sz (fs.take (k + 1)) = sz (fs.take k) * fs.getD k 0) && decide (rst (fs.take (k + 1)) = rst (fs.take k) * (fs.getD k 0 - 1))
theorem kV_all : ((List.range 6).all kV) = true := by decide +kernel
theorem vk {k : Nat} (hk : k < 6) : fs.take (k + 1) = fs.take k ++ [fs.getD k 0] ∧ sz (fs.take (k + 1)) = sz (fs.take k) * fs.getD k 0 ∧ rst (fs.take (k + 1)) = rst (fs.take k) * (fs.getD k 0 - 1) := by
  have h := List.all_eq_true.mp kV_all k (List.mem_range.mpr hk)
  unfold kV at h
  simp only [Bool.and_eq_true, decide_eq_true_eq] at h
  exact ⟨h.1.1, h.1.2, h.2⟩
theorem lp_fs {μ : Type → Type} {τ : Type} [Mir μ τ] {ζ : Type} {f : Int → ζ → μ ζ} (I : Nat → ζ → τ → Prop) : ∀ {k : Nat}, k < 7 → (∀ j st s, j < k → I j st s → Tt s (f (fs.getD j 0) st) (I (j + 1))) → ∀ {st : ζ} {s : τ}, I 0 st s → Tt s (lpS (fs.take k) f st) (I k)
  | 0, _, _, st, s, h => tt_pure.mpr h
  | k + 1, hk, hf, st, s, h => by
    rw [(vk (by omega)).1]
    refine lp_app ((lp_fs I (k := k) (by omega) (fun j st s hj => hf j st s (by omega)) h).mono fun st' s' q => ?_)
    exact (hf k st' s' (by omega) q).then fun st2 s2 q2 => tt_pure.mpr q2
theorem signs_loop {k : Nat} (hk : k < 7) {s : PotT} : Tt s (μ := PM PotT) ((lpS (fs.take k) (fun (x651 : Int) (st649 : (List (Int × Int))) =>
Mir.lft (grd (List.length st649 ≤ 16000000)) >>= fun _ => cmp st649 (fun x699 => Mir.lft (grd (Sm x651 ∧ Sm x699.1)) >>= fun _ => pure (some ((x651 * x699.1), (-x699.2)))) >>= fun l712 => Mir.lft (grd (List.length st649 + List.length l712 ≤ 16000000)) >>= fun _ => bnd (st649 ++ l712) fun found702 =>
pure found702) ([((1 : Int), (1 : Int))] : List (Int × Int)))) (fun st s' => st = fd k ∧ s' = s) := by
  refine lp_fs (I := fun j st s' => st = fd j ∧ s' = s) hk ?_ ⟨rfl, rfl⟩
  rintro j st s1 hj ⟨rfl, rfl⟩
  have S := sk (k := j) (by omega)
  obtain ⟨t1, t2, t3, t4⟩ := tk (k := j) (by omega)
  refine tt_grd.mpr ⟨by have := S.l; omega, tt_map (g := fun y : Int × Int => (fs.getD j 0 * y.1, -y.2)) (fun y hy s Q hQ => ?_) ?_⟩
  · have := S.b y hy
    exact tt_grd.mpr ⟨⟨sm_small (by omega), sm_small (by omega)⟩, tt_pure.mpr hQ⟩
  · exact tt_grd.mpr ⟨by rw [List.length_map]; have := S.l; omega, tt_bnd.mpr (tt_pure.mpr ⟨t1.symm, rfl⟩)⟩
theorem size_loop {k : Nat} (hk : k < 7) {s : PotT} : Tt s (μ := PM PotT) ((lpS (fs.take k) (fun (x821 : Int) (st819 : Int × Int) =>
Mir.lft (grd (Sm st819.1 ∧ Sm x821)) >>= fun _ => bnd (st819.1 * x821) fun size860 =>
Mir.lft (grd (Sm st819.2 ∧ Sm (x821 - (1 : Int)))) >>= fun _ => bnd (st819.2 * (x821 - (1 : Int))) fun rest870 =>
pure (size860, rest870)) ((1 : Int), (1 : Int)))) (fun st s' => st = (sz (fs.take k), rst (fs.take k)) ∧ s' = s) := by
  refine lp_fs (I := fun j st s' => st = (sz (fs.take j), rst (fs.take j)) ∧ s' = s) hk ?_ ⟨rfl, rfl⟩
  rintro j st s1 hj ⟨rfl, rfl⟩
  have S := (sk (k := j) (by omega)).s
  obtain ⟨t1, t2, t3, t4⟩ := tk (k := j) (by omega)
  obtain ⟨v1, v2, v3⟩ := vk (k := j) (by omega)
  refine tt_grd.mpr ⟨⟨sm_small (by show (sz (fs.take j)).natAbs ≤ _; omega), sm_small (by omega)⟩, tt_bnd.mpr (tt_grd.mpr ⟨⟨sm_small (by show (rst (fs.take j)).natAbs ≤ _; omega), sm_small (by omega)⟩, tt_bnd.mpr (tt_pure.mpr ⟨?_, rfl⟩)⟩)⟩
  rw [v2, v3]
theorem tail_ok {x k : Nat} (hk : k < 7) (h1 : 1 ≤ x) (hx : x ≤ 1000) {s : PotT} {b : Nat} (hp : Pot s (b + 4)) : Tt s (μ := PM PotT) (Mir.lft (m_struck_signs (k : Int)) >>= fun r1093 => bnd r1093 fun signs629 =>
Mir.lft (grd (List.length ([((1 : Int), (1 : Int))] : List (Int × Int)) ≤ 16000000)) >>= fun _ => bnd ([((1 : Int), (1 : Int))] : List (Int × Int)) fun found639 =>
(lpS (fs.take k) (fun (x651 : Int) (st649 : (List (Int × Int))) =>
Mir.lft (grd (List.length st649 ≤ 16000000)) >>= fun _ => cmp st649 (fun x699 => Mir.lft (grd (Sm x651 ∧ Sm x699.1)) >>= fun _ => pure (some ((x651 * x699.1), (-x699.2)))) >>= fun l712 => Mir.lft (grd (List.length st649 + List.length l712 ≤ 16000000)) >>= fun _ => bnd (st649 ++ l712) fun found702 =>
pure found702) found639) >>= fun (st649 : (List (Int × Int))) =>
if (!decide (signs629 = (srt2 st649))) = true then
(bnd false fun r737 => pure r737)
else
(Mir.lft (grd (Pw (10 : Int) (9 : Int))) >>= fun _ => m__law_of ((10 : Int) ^ Int.toNat (9 : Int)) >>= fun r1091 => Mir.lft (grd (Pw (10 : Int) (12 : Int))) >>= fun _ => Mir.lft (grd (Pw (10 : Int) (21 : Int))) >>= fun _ => Mir.lft (grd (List.length ([(1 : Int), ((10 : Int) ^ Int.toNat (12 : Int)), ((10 : Int) ^ Int.toNat (21 : Int))] : List Int) ≤ 16000000)) >>= fun _ => m__law_one ([(1 : Int), ((10 : Int) ^ Int.toNat (12 : Int)), ((10 : Int) ^ Int.toNat (21 : Int))] : List Int) >>= fun r1092 => Mir.lft (grd (Sm r1091 ∧ Sm r1092)) >>= fun _ => bnd (r1091 * r1092) fun great747 =>
Mir.lft (grd (List.length st649 ≤ 16000000)) >>= fun _ => cmp st649 (fun x757 => Mir.lft (grd (Dv x757.1)) >>= fun _ => Mir.lft (grd (Sm x757.2 ∧ Sm (great747 / x757.1))) >>= fun _ => pure (some (x757.2 * (great747 / x757.1)))) >>= fun l1090 => bnd (List.sum l1090) fun due760 =>
Mir.lft (m_left_number great747 (k : Int)) >>= fun r1087 => Mir.lft (m_left_number great747 (k : Int)) >>= fun r1088 => Mir.lft (grd (List.length ([r1087, r1088] : List Int) ≤ 16000000)) >>= fun _ => bnd (PyData.list (List.map PyData.int ([r1087, r1088] : List Int))) fun d1086 => Mir.lft (grd (OkD d1086)) >>= fun _ => Mir.lft (grd (List.length ([due760, due760] : List Int) ≤ 16000000)) >>= fun _ => bnd (PyData.list (List.map PyData.int ([due760, due760] : List Int))) fun d1089 => Mir.lft (grd (OkD d1089)) >>= fun _ => Mir.lft (grP (d1086 = d1089)) >>= fun _ => if false = true then
(bnd false fun r784 => pure r784)
else
(bnd (1 : Int) fun size794 =>
bnd (1 : Int) fun rest804 =>
(lpS (fs.take k) (fun (x821 : Int) (st819 : Int × Int) =>
Mir.lft (grd (Sm st819.1 ∧ Sm x821)) >>= fun _ => bnd (st819.1 * x821) fun size860 =>
Mir.lft (grd (Sm st819.2 ∧ Sm (x821 - (1 : Int)))) >>= fun _ => bnd (st819.2 * (x821 - (1 : Int))) fun rest870 =>
pure (size860, rest870)) (size794, rest804)) >>= fun (st819 : Int × Int) =>
Mir.lft (m_left_in_round (k : Int)) >>= fun r1083 => (if (!decide (r1083 = st819.2)) = true then pure true else Mir.lft (grd (Pw (10 : Int) (30 : Int))) >>= fun _ => (if (decide ((great747 + st819.1) ≤ ((10 : Int) ^ Int.toNat (30 : Int)))) = true then Mir.lft (m_left_number (great747 + st819.1) (k : Int)) >>= fun r1085 => pure (!decide (r1085 = (due760 + st819.2))) else pure false) >>= fun b1084 => pure b1084) >>= fun b1082 => if b1082 = true then
(bnd false fun r902 => pure r902)
else
((if (decide ((0 : Int) < (k : Int))) = true then Mir.lft (m_left_number great747 ((k : Int) - (1 : Int))) >>= fun r1079 => Mir.lft (L2.atI (fs.take k) (-(1 : Int))) >>= fun y1081 => Mir.lft (grd (Dv y1081)) >>= fun _ => Mir.lft (m_left_number (great747 / y1081) ((k : Int) - (1 : Int))) >>= fun r1080 => pure (!decide ((r1079 - r1080) = due760)) else pure false) >>= fun b1078 => if b1078 = true then
(bnd false fun r926 => pure r926)
else
(m__law_of (x : Int) >>= fun r1077 => bnd ((1 : Int) + r1077) fun low936 =>
Mir.lft (m_primes_between low936 (if (decide (low936 ≤ (x : Int))) = true then (x : Int) else low936)) >>= fun r1076 => Mir.lft (grd (List.length (ci (psb (x + 1))) ≤ 16000000)) >>= fun _ => if (!decide (r1076 = (List.map (fun x946 => x946) (List.filter (fun x946 => (decide (low936 ≤ x946))) (ci (psb (x + 1))))))) = true then
(bnd false fun r963 => pure r963)
else
(m__law_of (if (List.length (ci (psb (x + 1))) : Int) > (1 : Int) then (List.length (ci (psb (x + 1))) : Int) else (1 : Int)) >>= fun r1075 => bnd r1075 fun at973 =>
Mir.lft (grd (List.length ([] : List Int) ≤ 16000000)) >>= fun _ => (if (!decide ((ci (psb (x + 1))) = ([] : List Int))) = true then Mir.lft (m_prime_at at973) >>= fun r1071 => Mir.lft (m_prime_at at973) >>= fun r1072 => Mir.lft (grd (List.length ([r1071, r1072] : List Int) ≤ 16000000)) >>= fun _ => bnd (PyData.list (List.map PyData.int ([r1071, r1072] : List Int))) fun d1070 => Mir.lft (grd (OkD d1070)) >>= fun _ => Mir.lft (L2.atI (ci (psb (x + 1))) at973) >>= fun y1074 => Mir.lft (grd (List.length ([y1074] : List Int) ≤ 16000000)) >>= fun _ => Mir.lft (grd (RpB (List.length ([y1074] : List Int)) (2 : Int))) >>= fun _ => bnd (PyData.list (List.map PyData.int (List.replicate (Int.toNat (2 : Int)) ([y1074] : List Int)).flatten)) fun d1073 => Mir.lft (grd (OkD d1073)) >>= fun _ => Mir.lft (grP (d1070 = d1073)) >>= fun _ => pure false else pure false) >>= fun b1069 => if b1069 = true then
(bnd false fun r997 => pure r997)
else
(Mir.lft (m_doubling_chain (x : Int)) >>= fun r1068 => bnd r1068 fun chain1007 =>
Mir.lft (m_doubling_error (x : Int) chain1007) >>= fun r1064 => (if (!Option.isNone r1064) = true then pure true else Mir.lft (L2.atI chain1007 (0 : Int)) >>= fun y1066 => (if (!decide (y1066 = (2 : Int))) = true then pure true else Mir.lft (L2.atI chain1007 (-(1 : Int))) >>= fun y1067 => pure (decide (y1067 ≤ (x : Int)))) >>= fun b1065 => pure b1065) >>= fun b1063 => if b1063 = true then
(bnd false fun r1031 => pure r1031)
else
(Mir.lft (grd (RgB (1 : Int) ∧ RgB (List.length chain1007 : Int))) >>= fun _ => Mir.lft (grd (List.length (rng (1 : Int) (List.length chain1007 : Int)) ≤ 16000000)) >>= fun _ => cmp (rng (1 : Int) (List.length chain1007 : Int)) (fun x1041 => Mir.lft (L2.atI chain1007 (x1041 - (1 : Int))) >>= fun y1045 => Mir.lft (L2.atI chain1007 x1041) >>= fun y1046 => (if (decide (y1045 < y1046)) = true then Mir.lft (L2.atI chain1007 (x1041 - (1 : Int))) >>= fun y1047 => Mir.lft (grd (Sm (2 : Int) ∧ Sm y1047)) >>= fun _ => pure (decide (y1046 < ((2 : Int) * y1047))) else pure false) >>= fun b1044 => if (!b1044) = true then pure (some x1041) else pure none) >>= fun l1062 => Mir.lft (grd (List.length ([] : List Int) ≤ 16000000)) >>= fun _ => bnd (decide (l1062 = ([] : List Int))) fun r1059 => pure r1059)))))))) fun a _ => a = true := by
  have S := sk hk
  have S2 := S.s
  have hlen := S.l
  refine (tt_lft S.g).mpr (tt_bnd.mpr (tt_grd.mpr ⟨by simp, tt_bnd.mpr ((signs_loop hk).then ?_)⟩))
  rintro st s1 ⟨rfl, rfl⟩
  refine Tt.neg (by rw [decide_eq_true rfl]; decide) (tt_grd.mpr ⟨by decide, ?_⟩)
  refine (of_ok (b := b + 3) hp (by decide) (by decide +kernel)).then fun r s2 ⟨r1, r2, hp2⟩ => ?_
  have r2 : r < 1000000000 := r2
  refine tt_grd.mpr ⟨by decide, tt_grd.mpr ⟨by decide, tt_grd.mpr ⟨by simp, (one_ok (b := b + 2) hp2 (by simp) (by simp)).then fun u s3 ⟨hu, hp3⟩ => ?_⟩⟩⟩
  have hu2 : ∀ y ∈ ([(1 : Int), ((10 : Int) ^ Int.toNat (12 : Int)), ((10 : Int) ^ Int.toNat (21 : Int))] : List Int), 0 ≤ y ∧ y ≤ 10 ^ 21 := by decide
  have hu3 := hu2 u hu
  refine tt_grd.mpr ⟨⟨sm_small (by omega), sm_small (by omega)⟩, tt_bnd.mpr ?_⟩
  have g0 : 0 ≤ r * u := Int.mul_nonneg r1 hu3.1
  have g1 : r * u ≤ 10 ^ 9 * 10 ^ 21 := Int.mul_le_mul (by omega) hu3.2 hu3.1 (by decide)
  generalize r * u = g at g0 g1
  have g2 : g ≤ 10 ^ 30 := g1
  clear g1 hu hu2 hu3
  refine tt_grd.mpr ⟨by omega, ?_⟩
  refine tt_map (g := fun y : Int × Int => y.2 * (g / y.1)) (fun y hy s Q hQ => ?_) ?_
  · have hb := S.b y hy
    have e2 : g / y.1 ≤ g := Int.ediv_le_self _ g0
    have e3 : 0 ≤ g / y.1 := Int.ediv_nonneg g0 (by omega)
    exact tt_grd.mpr ⟨dv_s hb.1 (by omega), tt_grd.mpr ⟨⟨sm_small (by omega), sm_small (by omega)⟩, tt_pure.mpr hQ⟩⟩
  have el : (List.map (fun y : Int × Int => y.2 * (g / y.1)) (fd k)).sum = LN (fd k) g := rfl
  rw [el]
  have low := LN_low g0 (f := fd k) fun y hy => ⟨(S.b y hy).1, (S.b y hy).2.2.1⟩
  have low2 : (LN (fd k) g).natAbs < 10 ^ 40 := by
    have : (fd k).length * g.natAbs ≤ 64 * 10 ^ 30 := Nat.mul_le_mul hlen (by omega)
    omega
  have e0 := left_ok hk g0 (by omega)
  refine tt_bnd.mpr ((tt_lft e0).mpr ((tt_lft e0).mpr (tt_grd.mpr ⟨by simp, tt_bnd.mpr (tt_grd.mpr ⟨ok_two low2 low2, tt_grd.mpr ⟨by simp, tt_bnd.mpr (tt_grd.mpr ⟨ok_two low2 low2, tt_grP.mpr ⟨rfl, Tt.neg (by decide) (tt_bnd.mpr (tt_bnd.mpr ((size_loop hk).then ?_)))⟩⟩)⟩⟩)⟩)))
  rintro st s4 ⟨rfl, rfl⟩
  refine (tt_lft S.r).mpr (Tt.then (P' := fun o s' => o = false ∧ s' = s4) ?_ ?_)
  · refine Tt.neg (by rw [decide_eq_true rfl]; decide) (tt_grd.mpr ⟨by decide, Tt.then (P' := fun o s' => o = false ∧ s' = s4) ?_ (by rintro o s' ⟨rfl, rfl⟩; exact tt_pure.mpr ⟨rfl, rfl⟩)⟩)
    by_cases z : g + sz (fs.take k) ≤ (10 : Int) ^ Int.toNat (30 : Int)
    · refine Tt.pos (decide_eq_true z) ((tt_lft (left_ok hk (by show 0 ≤ g + sz (fs.take k); omega) (by show g + sz (fs.take k) ≤ _; omega))).mpr (tt_pure.mpr ⟨?_, rfl⟩))
      show (!decide (LN (fd k) (g + sz (fs.take k)) = LN (fd k) g + rst (fs.take k))) = false
      rw [LN_add (fun y hy => ⟨(S.b y hy).1, (S.b y hy).2.2.2⟩), S.z, decide_eq_true rfl]; rfl
    · exact Tt.neg (by rw [decide_eq_true_iff]; exact z) (tt_pure.mpr ⟨rfl, rfl⟩)
  rintro o s5 ⟨rfl, rfl⟩
  refine Tt.neg (by decide) (Tt.then (P' := fun o s' => o = false ∧ s' = s5) ?_ ?_)
  · by_cases z : (0 : Int) < (k : Int)
    · obtain ⟨j, rfl⟩ : ∃ j, k = j + 1 := ⟨k - 1, by omega⟩
      have ej : ((j + 1 : Nat) : Int) - 1 = (j : Int) := by omega
      obtain ⟨t1, t2, t3, t4⟩ := tk (k := j) (by omega)
      generalize fs.getD j 0 = p at t1 t2 t3 t4
      have d0 : 0 ≤ g / p := Int.ediv_nonneg g0 (by omega)
      have d1 : g / p ≤ g := Int.ediv_le_self _ g0
      refine Tt.pos (decide_eq_true z) ?_
      rw [ej]
      refine (tt_lft (left_ok (k := j) (by omega) g0 (by omega))).mpr ((tt_lft t2).mpr (tt_grd.mpr ⟨dv_s (by omega) (by omega), (tt_lft (left_ok (k := j) (by omega) d0 (by omega))).mpr (tt_pure.mpr ⟨?_, rfl⟩)⟩))
      rw [t1]
      unfold stp
      rw [LN_app, LN_stp (by omega), Int.sub_eq_add_neg, decide_eq_true rfl]; rfl
    · exact Tt.neg (by rw [decide_eq_true_iff]; exact z) (tt_pure.mpr ⟨rfl, rfl⟩)
  rintro o s6 ⟨rfl, rfl⟩
  exact Tt.neg (by decide) (mid_tail h1 hx hp3)
end Wk
set_option Elab.async false
set_option maxRecDepth 1000000
set_option maxHeartbeats 4000000
set_option linter.all false
/-! A86m: what the law draws, its rows -/
namespace Wk
open PySem L2
open PyProof.Rows hiding St
theorem fm_f {g : Int → Option Int} {p : Int → Bool} : ∀ {l : List Int}, (∀ x ∈ l, g x = if p x = true then some x else none) → l.filterMap g = l.filter p
  | [], _ => rfl
  | x :: l, h => by
    rw [List.filterMap_cons, h x (List.mem_cons_self ..), fm_f (l := l) fun y hy => h y (List.mem_cons_of_mem _ hy)]
    by_cases z : p x = true
    · rw [if_pos z, List.filter_cons_of_pos z]
    · rw [if_neg z, List.filter_cons_of_neg z]
theorem fm_nil (n : Nat) : ∀ l : List Nat, decide ((ci l).filterMap (fun p : Int => if decide ((n : Int) % p = 0) = true then some p else none) = []) = l.all fun p => !Nat.beq (n % p) 0
  | [] => rfl
  | p :: l => by
    have ih := fm_nil n l
    show decide (((p : Int) :: ci l).filterMap _ = []) = _
    rw [List.filterMap_cons, List.all_cons, ← mod_beq]
    by_cases z : (n : Int) % (p : Int) = 0
    · rw [if_pos (decide_eq_true z), decide_eq_true z]; rfl
    · rw [if_neg (by rw [decide_eq_true_iff]; exact z), decide_eq_false z, Bool.not_false, Bool.true_and]
      exact ih
theorem left_list {x k : Nat} : (rng (1 : Int) ((x : Int) + (1 : Int))).filterMap (fun n : Int => if okn k n.toNat = true then some n else none) = ci ((List.range (x + 1)).filter (okl k)) := by
  rw [fm_f (p := fun n : Int => okn k n.toNat) fun _ _ => rfl]
  refine asc_eq (List.Pairwise.filter _ rng_asc) ?_ fun y => ?_
  · unfold ci
    rw [List.pairwise_map]
    exact (List.Pairwise.filter _ List.pairwise_lt_range).imp fun {a b} q => by omega
  · rw [List.mem_filter, mem_rng]
    constructor
    · rintro ⟨⟨h1, h2⟩, h3⟩
      obtain ⟨n, rfl⟩ : ∃ n : Nat, y = n := ⟨y.toNat, by omega⟩
      rw [Int.toNat_natCast] at h3
      refine mem_ci.mpr (List.mem_filter.mpr ⟨List.mem_range.mpr (by omega), ?_⟩)
      unfold okl
      rw [h3, Nat.ble_eq.mpr (by omega)]; rfl
    · intro hy
      obtain ⟨n, hn, rfl⟩ := List.mem_map.mp hy
      obtain ⟨h1, h2⟩ := List.mem_filter.mp hn
      unfold okl at h2
      rw [Bool.and_eq_true, Nat.ble_eq] at h2
      have := List.mem_range.mp h1
      exact ⟨⟨by omega, by omega⟩, by rw [Int.toNat_natCast]; exact h2.2⟩
theorem some_list {x k : Nat} (S : Sk k) : List.map (fun x94 : Int => x94) (List.filter (fun x94 : Int => ((List.contains (ci ((List.range (x + 1)).filter (okl k))) x94) || (List.contains (fs.take k) x94))) (rng (2 : Int) ((x : Int) + (1 : Int)))) = ci ((List.range (x + 1)).filter (keepB (ups k))) := by
  rw [List.map_id']
  refine asc_eq (List.Pairwise.filter _ rng_asc) ?_ fun y => ?_
  · unfold ci
    rw [List.pairwise_map]
    exact (List.Pairwise.filter _ List.pairwise_lt_range).imp fun {a b} q => by omega
  · have key : ∀ n : Nat, 2 ≤ n → n ≤ x → (((List.contains (ci ((List.range (x + 1)).filter (okl k))) (n : Int)) || (List.contains (fs.take k) (n : Int))) = true ↔ keepB (ups k) n = true) := fun n h1 h2 => by
      rw [keep_ok h1, Bool.or_eq_true, List.contains_iff_mem, List.contains_iff_mem, S.p, mem_ci, mem_ci, List.mem_filter, List.mem_range]
      refine or_congr_left ?_
      unfold okl
      rw [Nat.ble_eq.mpr (by omega), Bool.true_and]
      exact ⟨fun h => h.2, fun h => ⟨by omega, h⟩⟩
    rw [List.mem_filter, mem_rng]
    constructor
    · rintro ⟨⟨h1, h2⟩, h3⟩
      obtain ⟨n, rfl⟩ : ∃ n : Nat, y = n := ⟨y.toNat, by omega⟩
      exact mem_ci.mpr (List.mem_filter.mpr ⟨List.mem_range.mpr (by omega), (key n (by omega) (by omega)).mp h3⟩)
    · intro hy
      obtain ⟨n, hn, rfl⟩ := List.mem_map.mp hy
      obtain ⟨h1, h2⟩ := List.mem_filter.mp hn
      have h4 := (keep_iff.mp h2).1
      have := List.mem_range.mp h1
      exact ⟨⟨by omega, by omega⟩, (key n h4 (by omega)).mpr h2⟩
theorem due_val {x v b : Nat} (hv : v ≤ x) : ((List.map (fun y : Int => y) (List.filter (fun y : Int => decide (y ≤ (v : Int))) (ci ((List.range (x + 1)).filter (keepB b))))).length : Int) = F b (wf false) v := by
  have e : List.filter (fun y : Int => decide (y ≤ (v : Int))) (ci ((List.range (x + 1)).filter (keepB b))) = ci ((List.range (v + 1)).filter (keepB b)) := by
    unfold ci
    rw [List.filter_map, ← range_below (a := v + 1) (b := x + 1) (by omega)]
    refine congrArg (fun f => List.map (fun d : Nat => (d : Int)) (List.filter f ((List.range (x + 1)).filter (keepB b)))) (funext fun p => ?_)
    show decide ((p : Int) ≤ (v : Int)) = decide (p < v + 1)
    exact decide_eq_decide.mpr (by omega)
  rw [e, List.length_map, ci_len, F_len]
theorem ok_tups {r t : List Int} (hr : r.length ≤ 62) (ht : t.length ≤ 62) (h : ∀ y ∈ r, y.natAbs < 10 ^ 40) (h' : ∀ y ∈ t, y.natAbs < 10 ^ 40) : OkD (PyData.list (List.map (fun a => PyData.tuple (List.map PyData.int a)) [r, t])) := by
  have q : ∀ {r : List Int}, r.length ≤ 62 → (∀ y ∈ r, y.natAbs < 10 ^ 40) → Shp 1 4000 (PyData.tuple (List.map PyData.int r)) := fun {r} hr h =>
    (shp_tup (D := 0) (B := 50) (n := 62) (by rw [List.length_map]; exact hr) (shp_map fun a ha => shp_int (h a ha))).le (by decide) (by decide)
  exact (shp_list (n := 2) (by simp) (Shp.lc (q hr h) (q ht h').l1)).ok (by decide) (by decide)
theorem struck_right_ok {x : Nat} {l : List Nat} (h1 : 1 ≤ x) (hx : x ≤ 1000) (hl : Vs x l) (ep : m_parts_of (x : Int) = some (ci l)) {s : PotT} {b : Nat} (hp : Pot s (b + 5)) : Tt s (m__law_are_struck_right (x : Int) (ci l) (ci (psb (x + 1)))) fun a _ => a = true := by
  have hll := hl.few hx
  unfold m__law_are_struck_right
  refine (of_ok (b := b + 4) hp (by decide) (by decide +kernel)).then fun kk s1 ⟨k0, k1, hp1⟩ => tt_bnd.mpr ?_
  obtain ⟨k, rfl⟩ : ∃ k : Nat, kk = k := ⟨kk.toNat, by omega⟩
  have hk : k < 7 := by omega
  have S := sk hk
  refine tt_grd.mpr ⟨by simp, tt_bnd.mpr ?_⟩
  have ecut : cut ([(2 : Int), (3 : Int), (5 : Int), (7 : Int), (11 : Int), (13 : Int), (17 : Int), (19 : Int), (23 : Int), (29 : Int)] : List Int) none (some (k : Int)) = fs.take k := cut_head fs k
  rw [ecut]
  have htl : (fs.take k).length ≤ 10 := by rw [List.length_take]; exact Nat.min_le_right ..
  refine (tt_lft S.f).mpr (Tt.neg (by rw [decide_eq_true rfl]; decide) ?_)
  by_cases z : (x : Int) < 301
  · refine Tt.pos (decide_eq_true z) (tt_grd.mpr ⟨⟨⟨by omega, by omega⟩, ⟨by omega, by omega⟩⟩, tt_grd.mpr ⟨by rw [rng_len]; omega, ?_⟩⟩)
    refine tt_filterMap (g := fun n : Int => if okn k n.toNat = true then some n else none) (fun y hy s Q hQ => ?_) ?_
    · obtain ⟨y1, y2⟩ := mem_rng.mp hy
      obtain ⟨n, rfl⟩ : ∃ n : Nat, y = n := ⟨y.toNat, by omega⟩
      rw [Int.toNat_natCast] at hQ
      refine tt_grd.mpr ⟨by omega, tt_filterMap (g := fun p : Int => if decide ((n : Int) % p = 0) = true then some p else none) (fun p hp s Q hQ => ?_) ?_⟩
      · rw [S.p] at hp
        have := psb_pos hp
        refine tt_grd.mpr ⟨this.1, ?_⟩
        by_cases w : decide ((n : Int) % p = 0) = true
        · rw [if_pos w] at hQ; exact Tt.pos w (tt_pure.mpr hQ)
        · rw [if_neg w] at hQ; exact Tt.neg w (tt_pure.mpr hQ)
      · refine tt_grd.mpr ⟨by simp, ?_⟩
        rw [S.p, fm_nil]
        show Tt s (if okn k n = true then _ else _) Q
        by_cases w : okn k n = true
        · rw [if_pos w] at hQ; exact Tt.pos w (tt_pure.mpr hQ)
        · rw [if_neg w] at hQ; exact Tt.neg w (tt_pure.mpr hQ)
    rw [left_list]
    have elen : ((ci ((List.range (x + 1)).filter (okl k))).length : Int) = LN (fd k) (x : Int) := by rw [ci_len, LN_count hk (by omega)]
    have hlow : (LN (fd k) (x : Int)).natAbs < 10 ^ 40 := by
      rw [← elen, ci_len]
      have := List.length_filter_le (okl k) (List.range (x + 1))
      rw [List.length_range] at this
      omega
    have e0 := left_ok hk (x := (x : Int)) (by omega) (by omega)
    refine tt_bnd.mpr ?_
    rw [elen]
    refine (tt_lft e0).mpr ((tt_lft e0).mpr (tt_grd.mpr ⟨by simp, tt_bnd.mpr (tt_grd.mpr ⟨ok_two hlow hlow, tt_grd.mpr ⟨by simp, tt_grd.mpr ⟨⟨by decide, by decide, by simp⟩, tt_bnd.mpr (tt_grd.mpr ⟨ok_rep hlow, tt_grP.mpr ⟨rfl, Tt.neg (by decide) ?_⟩⟩)⟩⟩⟩)⟩))
    refine tt_grd.mpr ⟨⟨⟨by omega, by omega⟩, ⟨by omega, by omega⟩⟩, tt_grd.mpr ⟨by rw [rng_len]; omega, tt_bnd.mpr ?_⟩⟩
    rw [some_list S]
    have hsl : ((List.range (x + 1)).filter (keepB (ups k))).length ≤ x + 1 := by
      have := List.length_filter_le (keepB (ups k)) (List.range (x + 1))
      rwa [List.length_range] at this
    refine tt_grd.mpr ⟨by rw [ci_len]; omega, ?_⟩
    refine tt_map (g := fun v : Int => F (ups k) (wf false) v.toNat) (fun y hy s Q hQ => ?_) ?_
    · obtain ⟨v, hv, rfl⟩ := List.mem_map.mp hy
      have hv2 := hl.pos hv
      rw [Int.toNat_natCast] at hQ
      refine tt_grd.mpr ⟨by rw [ci_len]; omega, tt_pure.mpr ?_⟩
      rw [due_val hv2.2]; exact hQ
    have er : List.map (fun v : Int => F (ups k) (wf false) v.toNat) (ci l) = l.map (F (ups k) (wf false)) := by rw [ci_map]; rfl
    rw [er]
    obtain ⟨n, m, a1, a2, a3, a4, a5, a6, e⟩ := struck_row_ok (k := k) hx hl ep
    have er2 : l.map (F m (wf false)) = l.map (F (ups k) (wf false)) := List.map_congr_left fun v hv => F_eq fun u hu => keep_same hk a3 a5 a6 (Nat.le_trans hu (hl.pos hv).2)
    rw [er2] at e
    have hb : ∀ y ∈ l.map (F (ups k) (wf false)), y.natAbs < 10 ^ 40 := fun y hy => by
      obtain ⟨v, hv, rfl⟩ := List.mem_map.mp hy
      have := Fw_low (b := ups k) (w := false) (v := v) (by have := hl.pos hv; omega)
      omega
    have ok := ok_tups (r := l.map (F (ups k) (wf false))) (t := l.map (F (ups k) (wf false))) (by rw [List.length_map]; exact hll) (by rw [List.length_map]; exact hll) hb hb
    refine tt_bnd.mpr ((tt_lft e).mpr ((tt_lft e).mpr (tt_grd.mpr ⟨by simp, tt_bnd.mpr (tt_grd.mpr ⟨ok, tt_grd.mpr ⟨by simp, tt_bnd.mpr (tt_grd.mpr ⟨ok, tt_grP.mpr ⟨rfl, Tt.neg (by decide) ?_⟩⟩)⟩⟩)⟩)))
    exact tail_ok hk h1 hx hp1
  · refine Tt.neg (by rw [decide_eq_true_iff]; exact z) ?_
    exact tail_ok hk h1 hx hp1
end Wk
set_option Elab.async false
set_option maxRecDepth 1000000
set_option maxHeartbeats 4000000
set_option linter.all false
/-! A86n: the law, whole -/
namespace Wk
open PySem L2
open PyProof.Rows hiding St
theorem ok_four {a b c d : Int} (ha : a.natAbs < 10 ^ 40) (hb : b.natAbs < 10 ^ 40) (hc : c.natAbs < 10 ^ 40) (hd : d.natAbs < 10 ^ 40) : OkD (PyData.list (List.map PyData.int [a, b, c, d])) :=
  (shp_list (n := 4) (D := 0) (B := 50) (by simp) (Shp.lc (shp_int ha) (Shp.lc (shp_int hb) (Shp.lc (shp_int hc) (shp_int hd).l1)))).ok (by decide) (by decide)
theorem has_psb {x n : Nat} (h : n ≤ x) : List.contains (ci (psb (x + 1))) (n : Int) = prb n := by
  refine bool_eq ?_
  rw [List.contains_iff_mem, mem_ci, mem_psb, prb_iff]
  exact ⟨fun h => h.2, fun q => ⟨by omega, q⟩⟩
theorem sum_psb {x : Nat} (hx : x ≤ 1000) : (ci (psb (x + 1))).sum.natAbs < 10 ^ 40 := by
  have h : ∀ l : List Nat, (∀ p ∈ l, p ≤ 1000) → 0 ≤ (ci l).sum ∧ (ci l).sum ≤ (l.length : Int) * 1000 := by
    intro l
    induction l with
    | nil => intro _; exact ⟨Int.le_refl _, by simp [ci]⟩
    | cons a l ih =>
      intro h
      have h1 := ih fun p hp => h p (List.mem_cons_of_mem _ hp)
      have h2 := h a (List.mem_cons_self ..)
      show 0 ≤ ((a : Int) :: ci l).sum ∧ ((a : Int) :: ci l).sum ≤ _
      rw [List.sum_cons, List.length_cons]
      push_cast
      omega
  have := h (psb (x + 1)) fun p hp => by have := (mem_psb.mp hp).1; omega
  have := psb_few hx
  omega
theorem law_ok {s : PotT} (h : Pot s 1000) : Tt s m_law fun a _ => a = true := by
  unfold m_law
  refine tt_grd.mpr ⟨by decide, (one_ok (b := 999) h (by simp) (by simp)).then fun r s1 ⟨hr, hp1⟩ => ?_⟩
  have hr2 : r = 30 ∨ r = 300 ∨ r = 1000 := by simpa using hr
  refine (of_ok (b := 998) hp1 (by omega) (Int.lt_of_le_of_lt (b := 1000) (by omega) (by decide +kernel))).then fun q s2 ⟨q1, q2, hp2⟩ => tt_bnd.mpr ?_
  obtain ⟨x, hxq⟩ : ∃ x : Nat, 1 + q = x := ⟨(1 + q).toNat, by omega⟩
  rw [hxq]
  have h1 : 1 ≤ x := by omega
  have hx : x ≤ 1000 := by omega
  clear hr hr2 hp1 q1 q2 hxq
  refine tt_grd.mpr ⟨by simp, tt_grd.mpr ⟨⟨by omega, by omega, by simp; omega⟩, tt_bnd.mpr (tt_grd.mpr ⟨by simp, tt_bnd.mpr (tt_grd.mpr ⟨⟨⟨by omega, by omega⟩, ⟨by omega, by omega⟩⟩, (sieve_ok hx).then ?_⟩)⟩)⟩⟩
  rintro ⟨st1, st2⟩ s3 ⟨e1, e2⟩
  have e2 : st2 = ci (psb (x + 1)) := e2
  subst e1 e2
  obtain ⟨l, hl, ep⟩ := parts_of_ok h1 hx
  have hll := hl.few hx
  have hpl := psb_few hx
  have ec := primes_counted_ok h1 hx hl ep
  have es := primes_summed_ok h1 hx hl ep
  have hsum := sum_psb hx
  have hcn : ((ci (psb (x + 1))).length : Int) = (cnt x : Int) := by rw [ci_len]; rfl
  have hcl : ((cnt x : Nat) : Int).natAbs < 10 ^ 40 := by
    have : cnt x ≤ 168 := hpl
    omega
  have ok4 := ok_four hcl hsum hcl hsum
  refine (tt_lft ec).mpr ((tt_lft es).mpr ((tt_lft ec).mpr ((tt_lft es).mpr (tt_grd.mpr ⟨by simp, tt_bnd.mpr (tt_bnd.mpr (tt_grd.mpr ⟨ok4, ?_⟩))⟩))))
  show Tt s3 (μ := PM PotT) (Mir.lft (grd (List.length ([((ci (psb (x + 1))).length : Int), (ci (psb (x + 1))).sum] : List Int) ≤ 16000000)) >>= _) _
  rw [hcn]
  refine tt_grd.mpr ⟨by simp, tt_grd.mpr ⟨⟨by decide, by decide, by simp⟩, tt_bnd.mpr (tt_grd.mpr ⟨?_, tt_grP.mpr ⟨rfl, Tt.neg (by decide) ?_⟩⟩)⟩⟩
  · exact ok4
  refine (of_ok (b := 997) hp2 (by omega) (Int.lt_of_le_of_lt (b := 1000) (by omega) (by decide +kernel))).then fun w s4 ⟨w1, w2, hp3⟩ => tt_bnd.mpr ?_
  obtain ⟨n, hn⟩ : ∃ n : Nat, (1 : Int) + w = n := ⟨(1 + w).toNat, by omega⟩
  rw [hn]
  obtain ⟨en, r, er1, er2⟩ := prime_ok (n := n) (by omega) (by omega)
  have hh := has_psb (x := x) (n := n) (by omega)
  have okb : OkD (PyData.bool (prb n)) := shp_bool.ok (by decide) (by decide)
  refine (tt_lft en).mpr (tt_bnd.mpr (tt_grd.mpr ⟨okb, tt_bnd.mpr ?_⟩))
  show Tt s4 (μ := PM PotT) (Mir.lft (grd (OkD (PyData.bool (List.contains (ci (psb (x + 1))) (n : Int))))) >>= _) _
  rw [hh]
  refine tt_grd.mpr ⟨okb, tt_grP.mpr ⟨rfl, Tt.then (P' := fun o s' => o = false ∧ s' = s4) ?_ ?_⟩⟩
  · refine Tt.neg (by decide) ((tt_lft er1).mpr (tt_grd.mpr ⟨by simp, tt_pure.mpr ⟨?_, rfl⟩⟩))
    rw [er2, decide_eq_true rfl]; rfl
  rintro o s5 ⟨rfl, rfl⟩
  refine Tt.neg (by decide) (tt_grd.mpr ⟨⟨⟨by omega, by omega⟩, ⟨by omega, by omega⟩⟩, tt_grd.mpr ⟨by rw [rng_len]; omega, ?_⟩⟩)
  obtain ⟨lp1, lp2⟩ := law_parts hl
  refine tt_map (g := fun i : Int => (x : Int) / i) (fun y hy s Q hQ => ?_) ?_
  · obtain ⟨y1, y2⟩ := mem_rng.mp hy
    exact tt_grd.mpr ⟨dv_s (by omega) (by omega), tt_pure.mpr hQ⟩
  refine tt_grd.mpr ⟨⟨by rw [List.length_map, rng_len]; omega, by rw [lp2]; omega⟩, tt_grd.mpr ⟨by decide, tt_bnd.mpr ?_⟩⟩
  rw [lp1]
  have hlb : ∀ y ∈ ci l, y.natAbs < 10 ^ 40 := fun y hy => by
    obtain ⟨v, hv, rfl⟩ := List.mem_map.mp hy
    have := hl.pos hv
    omega
  have okp := ok_tups (r := ci l) (t := ci l) (by rw [ci_len]; exact hll) (by rw [ci_len]; exact hll) hlb hlb
  refine (tt_lft ep).mpr ((tt_lft ep).mpr (tt_grd.mpr ⟨by simp, tt_bnd.mpr (tt_grd.mpr ⟨okp, tt_grd.mpr ⟨by simp, tt_grd.mpr ⟨⟨by decide, by decide, by simp⟩, tt_bnd.mpr (tt_grd.mpr ⟨okp, tt_grP.mpr ⟨rfl, Tt.neg (by decide) ?_⟩⟩)⟩⟩⟩)⟩))
  refine tt_grd.mpr ⟨by rw [ci_len]; omega, tt_map (g := fun v : Int => ((cnt v.toNat : Nat) : Int)) (fun y hy s Q hQ => ?_) ?_⟩
  · obtain ⟨v, hv, rfl⟩ := List.mem_map.mp hy
    have hv2 := hl.pos hv
    rw [Int.toNat_natCast] at hQ
    refine tt_grd.mpr ⟨by show (ci (psb (x + 1))).length ≤ _; rw [ci_len]; omega, tt_pure.mpr ?_⟩
    show Q (some ((List.map (fun x328 => x328) (List.filter (fun x328 : Int => decide (x328 ≤ (v : Int))) (ci (psb (x + 1))))).length : Int)) s
    rw [law_cnt hv2.2]; exact hQ
  have er : List.map (fun v : Int => ((cnt v.toNat : Nat) : Int)) (ci l) = l.map fun v => (cnt v : Int) := by rw [ci_map]; rfl
  rw [er]
  have ek := counted_ok h1 hx hl ep
  have hkb : ∀ y ∈ l.map (fun v => (cnt v : Int)), y.natAbs < 10 ^ 40 := fun y hy => by
    obtain ⟨v, hv, rfl⟩ := List.mem_map.mp hy
    have h3 : cnt v ≤ 168 := psb_few (by have := hl.pos hv; omega)
    omega
  have okk := ok_tups (r := l.map fun v => (cnt v : Int)) (t := l.map fun v => (cnt v : Int)) (by rw [List.length_map]; exact hll) (by rw [List.length_map]; exact hll) hkb hkb
  refine tt_bnd.mpr ((tt_lft ek).mpr ((tt_lft ek).mpr (tt_grd.mpr ⟨by simp, tt_bnd.mpr (tt_grd.mpr ⟨okk, tt_grd.mpr ⟨by simp, tt_bnd.mpr (tt_grd.mpr ⟨okk, tt_grP.mpr ⟨rfl, Tt.neg (by decide) ?_⟩⟩)⟩⟩)⟩)))
  exact (struck_right_ok (b := 992) h1 hx hl ep (hp3.le (by decide))).then fun a s6 e => tt_bnd.mpr (tt_pure.mpr e)
theorem main_law : ∀ ns : List Int, ns.length ≤ 63 → (∀ i ∈ ns, Builtin.Int.intBits i ≤ 1048576) → okLaw ns := by
  intro ns hl hb
  obtain ⟨s, e, h⟩ := pot_ok hb hl
  obtain ⟨a, s1, e1, rfl⟩ := law_ok (h.le (by decide))
  exact ⟨s, s1, e, e1⟩
end Wk
set_option Elab.async false
set_option maxRecDepth 100000
set_option maxHeartbeats 4000000
set_option linter.all false
namespace Wk
open PySem L2
open PyProof.Rows hiding St
theorem all_mk {l : PySem.W.OpenLaw} {w : World} {K : PySem.W.Frag} {h : Heap} {mg : Str → Option Value} {fa : Addr} (X : K.In h) (G : h.Ns mainGlobals mg) (hfa : mg "law" = some (.ref fa))
    {f0 : Addr} {od0 an0 : Option Addr} {sl0 : Array (Option Value)} {oc0 kV0 dc0 pm0 cd0 ct0 : Value}
    (a0 : PySem.W.nsIn K mainGlobals "first_primes" = some (some (.ref f0))) (l0 : K.lookup f0 = some ⟨oc0, od0, .func (PySem.W.fnOf "first_primes" "first_primes" (defArgs t_first_primes) (defBody t_first_primes) (defScope t_first_primes) .none kV0 dc0 pm0 an0 cd0 ct0), sl0⟩) (c0 : PySem.W.codeIn K cd0 "first_primes" = true) (k0 : PySem.W.keepIn K (.ref f0) = true)
    {f1 : Addr} {od1 an1 : Option Addr} {sl1 : Array (Option Value)} {oc1 kV1 dc1 pm1 cd1 ct1 : Value}
    (a1 : PySem.W.nsIn K mainGlobals "struck_signs" = some (some (.ref f1))) (l1 : K.lookup f1 = some ⟨oc1, od1, .func (PySem.W.fnOf "struck_signs" "struck_signs" (defArgs t_struck_signs) (defBody t_struck_signs) (defScope t_struck_signs) .none kV1 dc1 pm1 an1 cd1 ct1), sl1⟩) (c1 : PySem.W.codeIn K cd1 "struck_signs" = true) (k1 : PySem.W.keepIn K (.ref f1) = true)
    {f2 : Addr} {od2 an2 : Option Addr} {sl2 : Array (Option Value)} {oc2 kV2 dc2 pm2 cd2 ct2 : Value}
    (a2 : PySem.W.nsIn K mainGlobals "left_number" = some (some (.ref f2))) (l2 : K.lookup f2 = some ⟨oc2, od2, .func (PySem.W.fnOf "left_number" "left_number" (defArgs t_left_number) (defBody t_left_number) (defScope t_left_number) .none kV2 dc2 pm2 an2 cd2 ct2), sl2⟩) (c2 : PySem.W.codeIn K cd2 "left_number" = true) (k2 : PySem.W.keepIn K (.ref f2) = true)
    {f3 : Addr} {od3 an3 : Option Addr} {sl3 : Array (Option Value)} {oc3 kV3 dc3 pm3 cd3 ct3 : Value}
    (a3 : PySem.W.nsIn K mainGlobals "left_in_round" = some (some (.ref f3))) (l3 : K.lookup f3 = some ⟨oc3, od3, .func (PySem.W.fnOf "left_in_round" "left_in_round" (defArgs t_left_in_round) (defBody t_left_in_round) (defScope t_left_in_round) .none kV3 dc3 pm3 an3 cd3 ct3), sl3⟩) (c3 : PySem.W.codeIn K cd3 "left_in_round" = true) (k3 : PySem.W.keepIn K (.ref f3) = true)
    {f4 : Addr} {od4 an4 : Option Addr} {sl4 : Array (Option Value)} {oc4 kV4 dc4 pm4 cd4 ct4 : Value}
    (a4 : PySem.W.nsIn K mainGlobals "taken_out" = some (some (.ref f4))) (l4 : K.lookup f4 = some ⟨oc4, od4, .func (PySem.W.fnOf "taken_out" "taken_out" (defArgs t_taken_out) (defBody t_taken_out) (defScope t_taken_out) .none kV4 dc4 pm4 an4 cd4 ct4), sl4⟩) (c4 : PySem.W.codeIn K cd4 "taken_out" = true) (k4 : PySem.W.keepIn K (.ref f4) = true)
    {f5 : Addr} {od5 an5 : Option Addr} {sl5 : Array (Option Value)} {oc5 kV5 dc5 pm5 cd5 ct5 : Value}
    (a5 : PySem.W.nsIn K mainGlobals "power_left" = some (some (.ref f5))) (l5 : K.lookup f5 = some ⟨oc5, od5, .func (PySem.W.fnOf "power_left" "power_left" (defArgs t_power_left) (defBody t_power_left) (defScope t_power_left) .none kV5 dc5 pm5 an5 cd5 ct5), sl5⟩) (c5 : PySem.W.codeIn K cd5 "power_left" = true) (k5 : PySem.W.keepIn K (.ref f5) = true)
    {f6 : Addr} {od6 an6 : Option Addr} {sl6 : Array (Option Value)} {oc6 kV6 dc6 pm6 cd6 ct6 : Value}
    (a6 : PySem.W.nsIn K mainGlobals "does_pass" = some (some (.ref f6))) (l6 : K.lookup f6 = some ⟨oc6, od6, .func (PySem.W.fnOf "does_pass" "does_pass" (defArgs t_does_pass) (defBody t_does_pass) (defScope t_does_pass) .none kV6 dc6 pm6 an6 cd6 ct6), sl6⟩) (c6 : PySem.W.codeIn K cd6 "does_pass" = true) (k6 : PySem.W.keepIn K (.ref f6) = true)
    {f7 : Addr} {od7 an7 : Option Addr} {sl7 : Array (Option Value)} {oc7 kV7 dc7 pm7 cd7 ct7 : Value}
    (a7 : PySem.W.nsIn K mainGlobals "is_prime_number" = some (some (.ref f7))) (l7 : K.lookup f7 = some ⟨oc7, od7, .func (PySem.W.fnOf "is_prime_number" "is_prime_number" (defArgs t_is_prime_number) (defBody t_is_prime_number) (defScope t_is_prime_number) .none kV7 dc7 pm7 an7 cd7 ct7), sl7⟩) (c7 : PySem.W.codeIn K cd7 "is_prime_number" = true) (k7 : PySem.W.keepIn K (.ref f7) = true)
    {f8 : Addr} {od8 an8 : Option Addr} {sl8 : Array (Option Value)} {oc8 kV8 dc8 pm8 cd8 ct8 : Value}
    (a8 : PySem.W.nsIn K mainGlobals "primes_of" = some (some (.ref f8))) (l8 : K.lookup f8 = some ⟨oc8, od8, .func (PySem.W.fnOf "primes_of" "primes_of" (defArgs t_primes_of) (defBody t_primes_of) (defScope t_primes_of) .none kV8 dc8 pm8 an8 cd8 ct8), sl8⟩) (c8 : PySem.W.codeIn K cd8 "primes_of" = true) (k8 : PySem.W.keepIn K (.ref f8) = true)
    {f9 : Addr} {od9 an9 : Option Addr} {sl9 : Array (Option Value)} {oc9 kV9 dc9 pm9 cd9 ct9 : Value}
    (a9 : PySem.W.nsIn K mainGlobals "parts_of" = some (some (.ref f9))) (l9 : K.lookup f9 = some ⟨oc9, od9, .func (PySem.W.fnOf "parts_of" "parts_of" (defArgs t_parts_of) (defBody t_parts_of) (defScope t_parts_of) .none kV9 dc9 pm9 an9 cd9 ct9), sl9⟩) (c9 : PySem.W.codeIn K cd9 "parts_of" = true) (k9 : PySem.W.keepIn K (.ref f9) = true)
    {f10 : Addr} {od10 an10 : Option Addr} {sl10 : Array (Option Value)} {oc10 kV10 dc10 pm10 cd10 ct10 : Value}
    (a10 : PySem.W.nsIn K mainGlobals "small_primes" = some (some (.ref f10))) (l10 : K.lookup f10 = some ⟨oc10, od10, .func (PySem.W.fnOf "small_primes" "small_primes" (defArgs t_small_primes) (defBody t_small_primes) (defScope t_small_primes) .none kV10 dc10 pm10 an10 cd10 ct10), sl10⟩) (c10 : PySem.W.codeIn K cd10 "small_primes" = true) (k10 : PySem.W.keepIn K (.ref f10) = true)
    {f11 : Addr} {od11 an11 : Option Addr} {sl11 : Array (Option Value)} {oc11 kV11 dc11 pm11 cd11 ct11 : Value}
    (a11 : PySem.W.nsIn K mainGlobals "struck_parts" = some (some (.ref f11))) (l11 : K.lookup f11 = some ⟨oc11, od11, .func (PySem.W.fnOf "struck_parts" "struck_parts" (defArgs t_struck_parts) (defBody t_struck_parts) (defScope t_struck_parts) .none kV11 dc11 pm11 an11 cd11 ct11), sl11⟩) (c11 : PySem.W.codeIn K cd11 "struck_parts" = true) (k11 : PySem.W.keepIn K (.ref f11) = true)
    {f12 : Addr} {od12 an12 : Option Addr} {sl12 : Array (Option Value)} {oc12 kV12 dc12 pm12 cd12 ct12 : Value}
    (a12 : PySem.W.nsIn K mainGlobals "struck_row" = some (some (.ref f12))) (l12 : K.lookup f12 = some ⟨oc12, od12, .func (PySem.W.fnOf "struck_row" "struck_row" (defArgs t_struck_row) (defBody t_struck_row) (defScope t_struck_row) .none kV12 dc12 pm12 an12 cd12 ct12), sl12⟩) (c12 : PySem.W.codeIn K cd12 "struck_row" = true) (k12 : PySem.W.keepIn K (.ref f12) = true)
    {f13 : Addr} {od13 an13 : Option Addr} {sl13 : Array (Option Value)} {oc13 kV13 dc13 pm13 cd13 ct13 : Value}
    (a13 : PySem.W.nsIn K mainGlobals "counted_row" = some (some (.ref f13))) (l13 : K.lookup f13 = some ⟨oc13, od13, .func (PySem.W.fnOf "counted_row" "counted_row" (defArgs t_counted_row) (defBody t_counted_row) (defScope t_counted_row) .none kV13 dc13 pm13 an13 cd13 ct13), sl13⟩) (c13 : PySem.W.codeIn K cd13 "counted_row" = true) (k13 : PySem.W.keepIn K (.ref f13) = true)
    {f14 : Addr} {od14 an14 : Option Addr} {sl14 : Array (Option Value)} {oc14 kV14 dc14 pm14 cd14 ct14 : Value}
    (a14 : PySem.W.nsIn K mainGlobals "primes_counted" = some (some (.ref f14))) (l14 : K.lookup f14 = some ⟨oc14, od14, .func (PySem.W.fnOf "primes_counted" "primes_counted" (defArgs t_primes_counted) (defBody t_primes_counted) (defScope t_primes_counted) .none kV14 dc14 pm14 an14 cd14 ct14), sl14⟩) (c14 : PySem.W.codeIn K cd14 "primes_counted" = true) (k14 : PySem.W.keepIn K (.ref f14) = true)
    {f15 : Addr} {od15 an15 : Option Addr} {sl15 : Array (Option Value)} {oc15 kV15 dc15 pm15 cd15 ct15 : Value}
    (a15 : PySem.W.nsIn K mainGlobals "primes_summed" = some (some (.ref f15))) (l15 : K.lookup f15 = some ⟨oc15, od15, .func (PySem.W.fnOf "primes_summed" "primes_summed" (defArgs t_primes_summed) (defBody t_primes_summed) (defScope t_primes_summed) .none kV15 dc15 pm15 an15 cd15 ct15), sl15⟩) (c15 : PySem.W.codeIn K cd15 "primes_summed" = true) (k15 : PySem.W.keepIn K (.ref f15) = true)
    {f16 : Addr} {od16 an16 : Option Addr} {sl16 : Array (Option Value)} {oc16 kV16 dc16 pm16 cd16 ct16 : Value}
    (a16 : PySem.W.nsIn K mainGlobals "primes_between" = some (some (.ref f16))) (l16 : K.lookup f16 = some ⟨oc16, od16, .func (PySem.W.fnOf "primes_between" "primes_between" (defArgs t_primes_between) (defBody t_primes_between) (defScope t_primes_between) .none kV16 dc16 pm16 an16 cd16 ct16), sl16⟩) (c16 : PySem.W.codeIn K cd16 "primes_between" = true) (k16 : PySem.W.keepIn K (.ref f16) = true)
    {f17 : Addr} {od17 an17 : Option Addr} {sl17 : Array (Option Value)} {oc17 kV17 dc17 pm17 cd17 ct17 : Value}
    (a17 : PySem.W.nsIn K mainGlobals "prime_at" = some (some (.ref f17))) (l17 : K.lookup f17 = some ⟨oc17, od17, .func (PySem.W.fnOf "prime_at" "prime_at" (defArgs t_prime_at) (defBody t_prime_at) (defScope t_prime_at) .none kV17 dc17 pm17 an17 cd17 ct17), sl17⟩) (c17 : PySem.W.codeIn K cd17 "prime_at" = true) (k17 : PySem.W.keepIn K (.ref f17) = true)
    {f18 : Addr} {od18 an18 : Option Addr} {sl18 : Array (Option Value)} {oc18 kV18 dc18 pm18 cd18 ct18 : Value}
    (a18 : PySem.W.nsIn K mainGlobals "doubling_chain" = some (some (.ref f18))) (l18 : K.lookup f18 = some ⟨oc18, od18, .func (PySem.W.fnOf "doubling_chain" "doubling_chain" (defArgs t_doubling_chain) (defBody t_doubling_chain) (defScope t_doubling_chain) .none kV18 dc18 pm18 an18 cd18 ct18), sl18⟩) (c18 : PySem.W.codeIn K cd18 "doubling_chain" = true) (k18 : PySem.W.keepIn K (.ref f18) = true)
    {f19 : Addr} {od19 an19 : Option Addr} {sl19 : Array (Option Value)} {oc19 kV19 dc19 pm19 cd19 ct19 : Value}
    (a19 : PySem.W.nsIn K mainGlobals "doubling_error" = some (some (.ref f19))) (l19 : K.lookup f19 = some ⟨oc19, od19, .func (PySem.W.fnOf "doubling_error" "doubling_error" (defArgs t_doubling_error) (defBody t_doubling_error) (defScope t_doubling_error) .none kV19 dc19 pm19 an19 cd19 ct19), sl19⟩) (c19 : PySem.W.codeIn K cd19 "doubling_error" = true) (k19 : PySem.W.keepIn K (.ref f19) = true)
    {f20 : Addr} {od20 an20 : Option Addr} {sl20 : Array (Option Value)} {oc20 kV20 dc20 pm20 cd20 ct20 : Value}
    (a20 : PySem.W.nsIn K mainGlobals "_law_of" = some (some (.ref f20))) (l20 : K.lookup f20 = some ⟨oc20, od20, .func (PySem.W.fnOf "_law_of" "_law_of" (defArgs t__law_of) (defBody t__law_of) (defScope t__law_of) .none kV20 dc20 pm20 an20 cd20 ct20), sl20⟩) (c20 : PySem.W.codeIn K cd20 "_law_of" = true) (k20 : PySem.W.keepIn K (.ref f20) = true)
    {f21 : Addr} {od21 an21 : Option Addr} {sl21 : Array (Option Value)} {oc21 kV21 dc21 pm21 cd21 ct21 : Value}
    (a21 : PySem.W.nsIn K mainGlobals "_law_one" = some (some (.ref f21))) (l21 : K.lookup f21 = some ⟨oc21, od21, .func (PySem.W.fnOf "_law_one" "_law_one" (defArgs t__law_one) (defBody t__law_one) (defScope t__law_one) .none kV21 dc21 pm21 an21 cd21 ct21), sl21⟩) (c21 : PySem.W.codeIn K cd21 "_law_one" = true) (k21 : PySem.W.keepIn K (.ref f21) = true)
    {f22 : Addr} {od22 an22 : Option Addr} {sl22 : Array (Option Value)} {oc22 kV22 dc22 pm22 cd22 ct22 : Value}
    (a22 : PySem.W.nsIn K mainGlobals "_law_are_struck_right" = some (some (.ref f22))) (l22 : K.lookup f22 = some ⟨oc22, od22, .func (PySem.W.fnOf "_law_are_struck_right" "_law_are_struck_right" (defArgs t__law_are_struck_right) (defBody t__law_are_struck_right) (defScope t__law_are_struck_right) .none kV22 dc22 pm22 an22 cd22 ct22), sl22⟩) (c22 : PySem.W.codeIn K cd22 "_law_are_struck_right" = true) (k22 : PySem.W.keepIn K (.ref f22) = true)
    {f23 : Addr} {od23 an23 : Option Addr} {sl23 : Array (Option Value)} {oc23 kV23 dc23 pm23 cd23 ct23 : Value}
    (a23 : PySem.W.nsIn K mainGlobals "_law_pot" = some (some (.ref f23))) (l23 : K.lookup f23 = some ⟨oc23, od23, .func (PySem.W.fnOf "_law_pot" "_law_pot" (defArgs t__law_pot) (defBody t__law_pot) (defScope t__law_pot) .none kV23 dc23 pm23 an23 cd23 ct23), sl23⟩) (c23 : PySem.W.codeIn K cd23 "_law_pot" = true) (k23 : PySem.W.keepIn K (.ref f23) = true)
    {f24 : Addr} {od24 an24 : Option Addr} {sl24 : Array (Option Value)} {oc24 kV24 dc24 pm24 cd24 ct24 : Value}
    (a24 : PySem.W.nsIn K mainGlobals "law" = some (some (.ref f24))) (l24 : K.lookup f24 = some ⟨oc24, od24, .func (PySem.W.fnOf "law" "law" (defArgs t_law) (defBody t_law) (defScope t_law) .none kV24 dc24 pm24 an24 cd24 ct24), sl24⟩) (c24 : PySem.W.codeIn K cd24 "law" = true) (k24 : PySem.W.keepIn K (.ref f24) = true)
    (z0 : PySem.W.nsIn K mainGlobals "abs" = some none) (z1 : PySem.W.nsIn K mainGlobals "all" = some none) (z2 : PySem.W.nsIn K mainGlobals "bool" = some none) (z3 : PySem.W.nsIn K mainGlobals "dict" = some none) (z4 : PySem.W.nsIn K mainGlobals "enumerate" = some none) (z5 : PySem.W.nsIn K mainGlobals "int" = some none) (z6 : PySem.W.nsIn K mainGlobals "isinstance" = some none) (z7 : PySem.W.nsIn K mainGlobals "len" = some none) (z8 : PySem.W.nsIn K mainGlobals "max" = some none) (z9 : PySem.W.nsIn K mainGlobals "range" = some none) (z10 : PySem.W.nsIn K mainGlobals "repr" = some none) (z11 : PySem.W.nsIn K mainGlobals "set" = some none) (z12 : PySem.W.nsIn K mainGlobals "sorted" = some none) (z13 : PySem.W.nsIn K mainGlobals "sum" = some none) (z14 : PySem.W.nsIn K mainGlobals "tuple" = some none) (z15 : PySem.W.nsIn K mainGlobals "zip" = some none) {tk0 : Tok} (y0 : PySem.W.nsIn K mainGlobals "MAX_LISTED" = some (some (.int 500 tk0))) {tk1 : Tok} (y1 : PySem.W.nsIn K mainGlobals "MAX_SPAN" = some (some (.int 10000 tk1))) {tk2 : Tok} (y2 : PySem.W.nsIn K mainGlobals "MAX_SPANNED" = some (some (.int 100000000 tk2))) :
    ∃ fd : FuncData, (∀ (s : Shared) (v : Value), BindsTo s fd ⟨[v], []⟩ [("script", v)]) ∧ ∀ base : Heap, K.In base → base.Ns mainGlobals mg → base.NoDigits → FnG l.prog w K mg base CX0 6 fa fd ["script"] (spLaw K okLaw) := by
  have e := hfa.symm.trans (PySem.W.mg_of X G a24)
  cases e
  have F0 := fun_mk (st := t_first_primes) l0 c0 k0
  have F1 := fun_mk (st := t_struck_signs) l1 c1 k1
  have F2 := fun_mk (st := t_left_number) l2 c2 k2
  have F3 := fun_mk (st := t_left_in_round) l3 c3 k3
  have F4 := fun_mk (st := t_taken_out) l4 c4 k4
  have F5 := fun_mk (st := t_power_left) l5 c5 k5
  have F6 := fun_mk (st := t_does_pass) l6 c6 k6
  have F7 := fun_mk (st := t_is_prime_number) l7 c7 k7
  have F8 := fun_mk (st := t_primes_of) l8 c8 k8
  have F9 := fun_mk (st := t_parts_of) l9 c9 k9
  have F10 := fun_mk (st := t_small_primes) l10 c10 k10
  have F11 := fun_mk (st := t_struck_parts) l11 c11 k11
  have F12 := fun_mk (st := t_struck_row) l12 c12 k12
  have F13 := fun_mk (st := t_counted_row) l13 c13 k13
  have F14 := fun_mk (st := t_primes_counted) l14 c14 k14
  have F15 := fun_mk (st := t_primes_summed) l15 c15 k15
  have F16 := fun_mk (st := t_primes_between) l16 c16 k16
  have F17 := fun_mk (st := t_prime_at) l17 c17 k17
  have F18 := fun_mk (st := t_doubling_chain) l18 c18 k18
  have F19 := fun_mk (st := t_doubling_error) l19 c19 k19
  have F20 := fun_mk (st := t__law_of) l20 c20 k20
  have F21 := fun_mk (st := t__law_one) l21 c21 k21
  have F22 := fun_mk (st := t__law_are_struck_right) l22 c22 k22
  have F23 := fun_mk (st := t__law_pot) l23 c23 k23
  have F24 := fun_mk (st := t_law) l24 c24 k24
  have b0 := F0.binds (ps := ["k"]) fun _ _ _ _ _ _ us hl => match us, hl with | [_], _ => rfl
  have b1 := F1.binds (ps := ["k"]) fun _ _ _ _ _ _ us hl => match us, hl with | [_], _ => rfl
  have b2 := F2.binds (ps := ["x", "k"]) fun _ _ _ _ _ _ us hl => match us, hl with | [_, _], _ => rfl
  have b3 := F3.binds (ps := ["k"]) fun _ _ _ _ _ _ us hl => match us, hl with | [_], _ => rfl
  have b4 := F4.binds (ps := ["number", "p"]) fun _ _ _ _ _ _ us hl => match us, hl with | [_, _], _ => rfl
  have b5 := F5.binds (ps := ["base", "often", "number"]) fun _ _ _ _ _ _ us hl => match us, hl with | [_, _, _], _ => rfl
  have b6 := F6.binds (ps := ["number", "base", "often", "odd"]) fun _ _ _ _ _ _ us hl => match us, hl with | [_, _, _, _], _ => rfl
  have b7 := F7.binds (ps := ["number"]) fun _ _ _ _ _ _ us hl => match us, hl with | [_], _ => rfl
  have b8 := F8.binds (ps := ["number"]) fun _ _ _ _ _ _ us hl => match us, hl with | [_], _ => rfl
  have b9 := F9.binds (ps := ["x"]) fun _ _ _ _ _ _ us hl => match us, hl with | [_], _ => rfl
  have b10 := F10.binds (ps := ["most"]) fun _ _ _ _ _ _ us hl => match us, hl with | [_], _ => rfl
  have b11 := F11.binds (ps := ["x", "parts", "primes", "row", "is_summed"]) fun _ _ _ _ _ _ us hl => match us, hl with | [_, _, _, _, _], _ => rfl
  have b12 := F12.binds (ps := ["x", "k"]) fun _ _ _ _ _ _ us hl => match us, hl with | [_, _], _ => rfl
  have b13 := F13.binds (ps := ["x"]) fun _ _ _ _ _ _ us hl => match us, hl with | [_], _ => rfl
  have b14 := F14.binds (ps := ["x"]) fun _ _ _ _ _ _ us hl => match us, hl with | [_], _ => rfl
  have b15 := F15.binds (ps := ["x"]) fun _ _ _ _ _ _ us hl => match us, hl with | [_], _ => rfl
  have b16 := F16.binds (ps := ["low", "high"]) fun _ _ _ _ _ _ us hl => match us, hl with | [_, _], _ => rfl
  have b17 := F17.binds (ps := ["k"]) fun _ _ _ _ _ _ us hl => match us, hl with | [_], _ => rfl
  have b18 := F18.binds (ps := ["x"]) fun _ _ _ _ _ _ us hl => match us, hl with | [_], _ => rfl
  have b19 := F19.binds (ps := ["x", "value"]) fun _ _ _ _ _ _ us hl => match us, hl with | [_, _], _ => rfl
  have b20 := F20.binds (ps := ["pot", "many"]) fun _ _ _ _ _ _ us hl => match us, hl with | [_, _], _ => rfl
  have b21 := F21.binds (ps := ["pot", "items"]) fun _ _ _ _ _ _ us hl => match us, hl with | [_, _], _ => rfl
  have b22 := F22.binds (ps := ["pot", "x", "parts", "primes"]) fun _ _ _ _ _ _ us hl => match us, hl with | [_, _, _, _], _ => rfl
  have b23 := F23.binds (ps := ["script"]) fun _ _ _ _ _ _ us hl => match us, hl with | [_], _ => rfl
  refine ⟨PySem.W.fnOf "law" "law" (defArgs t_law) (defBody t_law) (defScope t_law) .none kV24 dc24 pm24 an24 cd24 ct24, fun s v => .of_eq rfl, fun base _ _ nd => ?_⟩
  have T : Tx mg base := ⟨nd, PySem.W.mg_none_of X G z0, PySem.W.mg_none_of X G z1, PySem.W.mg_none_of X G z2, PySem.W.mg_none_of X G z3, PySem.W.mg_none_of X G z4, PySem.W.mg_none_of X G z5, PySem.W.mg_none_of X G z6, PySem.W.mg_none_of X G z7, PySem.W.mg_none_of X G z8, PySem.W.mg_none_of X G z9, PySem.W.mg_none_of X G z10, PySem.W.mg_none_of X G z11, PySem.W.mg_none_of X G z12, PySem.W.mg_none_of X G z13, PySem.W.mg_none_of X G z14, PySem.W.mg_none_of X G z15, ⟨_, PySem.W.mg_of X G y0⟩, ⟨_, PySem.W.mg_of X G y1⟩, ⟨_, PySem.W.mg_of X G y2⟩⟩
  have D0 : Dk l.prog w K mg base "first_primes" "first_primes" t_first_primes 1 ["k"] (sp_first_primes K) := ⟨_, _, F0, PySem.W.mg_of X G a0, g_first_primes T  F0, b0⟩
  have D1 : Dk l.prog w K mg base "struck_signs" "struck_signs" t_struck_signs 2 ["k"] (sp_struck_signs K) := ⟨_, _, F1, PySem.W.mg_of X G a1, g_struck_signs T D0 F1, b1⟩
  have D2 : Dk l.prog w K mg base "left_number" "left_number" t_left_number 3 ["x", "k"] (sp_left_number K) := ⟨_, _, F2, PySem.W.mg_of X G a2, g_left_number T D1 F2, b2⟩
  have D3 : Dk l.prog w K mg base "left_in_round" "left_in_round" t_left_in_round 2 ["k"] (sp_left_in_round K) := ⟨_, _, F3, PySem.W.mg_of X G a3, g_left_in_round T D0 F3, b3⟩
  have D4 : Dk l.prog w K mg base "taken_out" "taken_out" t_taken_out 1 ["number", "p"] (sp_taken_out K) := ⟨_, _, F4, PySem.W.mg_of X G a4, g_taken_out T  F4, b4⟩
  have D5 : Dk l.prog w K mg base "power_left" "power_left" t_power_left 1 ["base", "often", "number"] (sp_power_left K) := ⟨_, _, F5, PySem.W.mg_of X G a5, g_power_left T  F5, b5⟩
  have D6 : Dk l.prog w K mg base "does_pass" "does_pass" t_does_pass 2 ["number", "base", "often", "odd"] (sp_does_pass K) := ⟨_, _, F6, PySem.W.mg_of X G a6, g_does_pass T D5 F6, b6⟩
  have D7 : Dk l.prog w K mg base "is_prime_number" "is_prime_number" t_is_prime_number 3 ["number"] (sp_is_prime_number K) := ⟨_, _, F7, PySem.W.mg_of X G a7, g_is_prime_number T D4 D6 F7, b7⟩
  have D8 : Dk l.prog w K mg base "primes_of" "primes_of" t_primes_of 4 ["number"] (sp_primes_of K) := ⟨_, _, F8, PySem.W.mg_of X G a8, g_primes_of T D4 D7 F8, b8⟩
  have D9 : Dk l.prog w K mg base "parts_of" "parts_of" t_parts_of 1 ["x"] (sp_parts_of K) := ⟨_, _, F9, PySem.W.mg_of X G a9, g_parts_of T  F9, b9⟩
  have D10 : Dk l.prog w K mg base "small_primes" "small_primes" t_small_primes 1 ["most"] (sp_small_primes K) := ⟨_, _, F10, PySem.W.mg_of X G a10, g_small_primes T  F10, b10⟩
  have D11 : Dk l.prog w K mg base "struck_parts" "struck_parts" t_struck_parts 1 ["x", "parts", "primes", "row", "is_summed"] (sp_struck_parts K) := ⟨_, _, F11, PySem.W.mg_of X G a11, g_struck_parts T  F11, b11⟩
  have D12 : Dk l.prog w K mg base "struck_row" "struck_row" t_struck_row 2 ["x", "k"] (sp_struck_row K) := ⟨_, _, F12, PySem.W.mg_of X G a12, g_struck_row T D9 D10 D11 F12, b12⟩
  have D13 : Dk l.prog w K mg base "counted_row" "counted_row" t_counted_row 3 ["x"] (sp_counted_row K) := ⟨_, _, F13, PySem.W.mg_of X G a13, g_counted_row T D12 F13, b13⟩
  have D14 : Dk l.prog w K mg base "primes_counted" "primes_counted" t_primes_counted 4 ["x"] (sp_primes_counted K) := ⟨_, _, F14, PySem.W.mg_of X G a14, g_primes_counted T D13 F14, b14⟩
  have D15 : Dk l.prog w K mg base "primes_summed" "primes_summed" t_primes_summed 2 ["x"] (sp_primes_summed K) := ⟨_, _, F15, PySem.W.mg_of X G a15, g_primes_summed T D9 D11 D10 F15, b15⟩
  have D16 : Dk l.prog w K mg base "primes_between" "primes_between" t_primes_between 2 ["low", "high"] (sp_primes_between K) := ⟨_, _, F16, PySem.W.mg_of X G a16, g_primes_between T D10 F16, b16⟩
  have D17 : Dk l.prog w K mg base "prime_at" "prime_at" t_prime_at 1 ["k"] (sp_prime_at K) := ⟨_, _, F17, PySem.W.mg_of X G a17, g_prime_at T  F17, b17⟩
  have D18 : Dk l.prog w K mg base "doubling_chain" "doubling_chain" t_doubling_chain 4 ["x"] (sp_doubling_chain K) := ⟨_, _, F18, PySem.W.mg_of X G a18, g_doubling_chain T D7 F18, b18⟩
  have D19 : Dk l.prog w K mg base "doubling_error" "doubling_error" t_doubling_error 4 ["x", "value"] (sp_doubling_error K) := ⟨_, _, F19, PySem.W.mg_of X G a19, g_doubling_error T D7 F19, b19⟩
  have D20 : Dk l.prog w K mg base "_law_of" "_law_of" t__law_of 1 ["pot", "many"] (sp__law_of K) := ⟨_, _, F20, PySem.W.mg_of X G a20, g__law_of T  F20, b20⟩
  have D21 : Dk l.prog w K mg base "_law_one" "_law_one" t__law_one 2 ["pot", "items"] (sp__law_one K) := ⟨_, _, F21, PySem.W.mg_of X G a21, g__law_one T D20 F21, b21⟩
  have D22 : Dk l.prog w K mg base "_law_are_struck_right" "_law_are_struck_right" t__law_are_struck_right 5 ["pot", "x", "parts", "primes"] (sp__law_are_struck_right K) := ⟨_, _, F22, PySem.W.mg_of X G a22, g__law_are_struck_right T D20 D0 D2 D12 D1 D21 D3 D16 D17 D18 D19 F22, b22⟩
  have D23 : Dk l.prog w K mg base "_law_pot" "_law_pot" t__law_pot 1 ["script"] (sp__law_pot K) := ⟨_, _, F23, PySem.W.mg_of X G a23, g__law_pot T  F23, b23⟩
  exact g_law T D23 D20 D21 D14 D15 D7 D8 D9 D13 D22 F24
theorem walk_law {l : PySem.W.OpenLaw} {q : Program} {loose : List Str} {XP : (Str → Option Value) → Heap → Prop} {YP : World → Heap → Prop} {d : DefRec} {K : Params → PySem.W.Frag} (main : ∀ ns : List Int, ns.length ≤ 63 → (∀ i ∈ ns, Builtin.Int.intBits i ≤ 1048576) → okLaw ns) (hn : l.most = some 63) (hdf : d.params.defaults = [])
    (hY : ∀ (w : World) (h : Heap), YP w h → (K w.params).In h)
    (F : ∀ (w : World) (mg : Str → Option Value) (fa : Addr) (h : Heap), (K w.params).In h → h.Ns mainGlobals mg → mg d.name = some (.ref fa) →
      ∃ fd : FuncData, (∀ (s : Shared) (u : Value), BindsTo s fd ⟨[u], []⟩ [("script", u)]) ∧ ∀ base : Heap, (K w.params).In base → base.Ns mainGlobals mg → base.NoDigits → FnG l.prog w (K w.params) mg base CX0 6 fa fd ["script"] (spLaw (K w.params) okLaw)) :
    PySem.W.WalkO q loose XP YP l.row.toRowW d [] (fun f vs => PySem.call f vs) :=
  walk_G (n := 63) (k := 6) (x := "script") (CX := CX0) (sp := fun K => spLaw K okLaw) hn (by decide) hdf ⟨rfl, by decide, by decide⟩ hY F (fun K H a ns hl hb hS => ⟨ns, ⟨.ref a, rfl, a, rfl, hS⟩, main ns hl hb, fun _ => rfl⟩) fun _ _ _ _ z => z
end Wk
open PySem PySem.W PyProof.Rows in
set_option maxRecDepth 100000 in
set_option maxHeartbeats 0 in
theorem PySem.Challenge.cw_divisorways_k86_whole_primes_counted_two_holds : PySem.Challenge.rw_divisorways_k86_whole_primes_counted_two.Holds := by
  w_on; o_law; k_head; (case hw => w_witness2)
  k_fill
  refine Wk.walk_law (l := PySem.Challenge.rw_divisorways_k86_whole_primes_counted_two) Wk.main_law rfl rfl (fun w h Y => PySem.W.kIn_of Y) ?F
  case F =>
    intro w mg fa h KX G hmg
    refine' Wk.all_mk KX G hmg ?a0 ?l0 ?c0 ?k0 ?a1 ?l1 ?c1 ?k1 ?a2 ?l2 ?c2 ?k2 ?a3 ?l3 ?c3 ?k3 ?a4 ?l4 ?c4 ?k4 ?a5 ?l5 ?c5 ?k5 ?a6 ?l6 ?c6 ?k6 ?a7 ?l7 ?c7 ?k7 ?a8 ?l8 ?c8 ?k8 ?a9 ?l9 ?c9 ?k9 ?a10 ?l10 ?c10 ?k10 ?a11 ?l11 ?c11 ?k11 ?a12 ?l12 ?c12 ?k12 ?a13 ?l13 ?c13 ?k13 ?a14 ?l14 ?c14 ?k14 ?a15 ?l15 ?c15 ?k15 ?a16 ?l16 ?c16 ?k16 ?a17 ?l17 ?c17 ?k17 ?a18 ?l18 ?c18 ?k18 ?a19 ?l19 ?c19 ?k19 ?a20 ?l20 ?c20 ?k20 ?a21 ?l21 ?c21 ?k21 ?a22 ?l22 ?c22 ?k22 ?a23 ?l23 ?c23 ?k23 ?a24 ?l24 ?c24 ?k24 ?z0 ?z1 ?z2 ?z3 ?z4 ?z5 ?z6 ?z7 ?z8 ?z9 ?z10 ?z11 ?z12 ?z13 ?z14 ?z15 ?y0 ?y1 ?y2
    (case a0 => k_is)
    (case l0 => k_is)
    (case c0 => k_is)
    (case k0 => k_is)
    (case a1 => k_is)
    (case l1 => k_is)
    (case c1 => k_is)
    (case k1 => k_is)
    (case a2 => k_is)
    (case l2 => k_is)
    (case c2 => k_is)
    (case k2 => k_is)
    (case a3 => k_is)
    (case l3 => k_is)
    (case c3 => k_is)
    (case k3 => k_is)
    (case a4 => k_is)
    (case l4 => k_is)
    (case c4 => k_is)
    (case k4 => k_is)
    (case a5 => k_is)
    (case l5 => k_is)
    (case c5 => k_is)
    (case k5 => k_is)
    (case a6 => k_is)
    (case l6 => k_is)
    (case c6 => k_is)
    (case k6 => k_is)
    (case a7 => k_is)
    (case l7 => k_is)
    (case c7 => k_is)
    (case k7 => k_is)
    (case a8 => k_is)
    (case l8 => k_is)
    (case c8 => k_is)
    (case k8 => k_is)
    (case a9 => k_is)
    (case l9 => k_is)
    (case c9 => k_is)
    (case k9 => k_is)
    (case a10 => k_is)
    (case l10 => k_is)
    (case c10 => k_is)
    (case k10 => k_is)
    (case a11 => k_is)
    (case l11 => k_is)
    (case c11 => k_is)
    (case k11 => k_is)
    (case a12 => k_is)
    (case l12 => k_is)
    (case c12 => k_is)
    (case k12 => k_is)
    (case a13 => k_is)
    (case l13 => k_is)
    (case c13 => k_is)
    (case k13 => k_is)
    (case a14 => k_is)
    (case l14 => k_is)
    (case c14 => k_is)
    (case k14 => k_is)
    (case a15 => k_is)
    (case l15 => k_is)
    (case c15 => k_is)
    (case k15 => k_is)
    (case a16 => k_is)
    (case l16 => k_is)
    (case c16 => k_is)
    (case k16 => k_is)
    (case a17 => k_is)
    (case l17 => k_is)
    (case c17 => k_is)
    (case k17 => k_is)
    (case a18 => k_is)
    (case l18 => k_is)
    (case c18 => k_is)
    (case k18 => k_is)
    (case a19 => k_is)
    (case l19 => k_is)
    (case c19 => k_is)
    (case k19 => k_is)
    (case a20 => k_is)
    (case l20 => k_is)
    (case c20 => k_is)
    (case k20 => k_is)
    (case a21 => k_is)
    (case l21 => k_is)
    (case c21 => k_is)
    (case k21 => k_is)
    (case a22 => k_is)
    (case l22 => k_is)
    (case c22 => k_is)
    (case k22 => k_is)
    (case a23 => k_is)
    (case l23 => k_is)
    (case c23 => k_is)
    (case k23 => k_is)
    (case a24 => k_is)
    (case l24 => k_is)
    (case c24 => k_is)
    (case k24 => k_is)
    (case z0 => k_is)
    (case z1 => k_is)
    (case z2 => k_is)
    (case z3 => k_is)
    (case z4 => k_is)
    (case z5 => k_is)
    (case z6 => k_is)
    (case z7 => k_is)
    (case z8 => k_is)
    (case z9 => k_is)
    (case z10 => k_is)
    (case z11 => k_is)
    (case z12 => k_is)
    (case z13 => k_is)
    (case z14 => k_is)
    (case z15 => k_is)
    (case y0 => k_is)
    (case y1 => k_is)
    (case y2 => k_is)
