/- The mathematics of generators: targets, sums, ranges. -/
import Derived.RowKit
set_option linter.unusedVariables false
namespace Go.Proofs.Ythmehpojcecldaa
structure Gen where
  set : Int
  least : Int
  most : Int
  droop : Int
  band : Int
  ramp : Int
/-- A generator's data are in the ranges that its check asks for. -/
def Good (g : Gen) : Prop := 0 ≤ g.least ∧ g.most ≤ 100000 ∧ g.least ≤ g.most ∧ g.least ≤ g.set ∧ g.set ≤ g.most ∧ 1 ≤ g.droop ∧ g.droop ≤ 10000 ∧ 0 ≤ g.band ∧ g.band ≤ 10000 ∧ 0 ≤ g.ramp ∧ g.ramp ≤ 100000
instance (g : Gen) : Decidable (Good g) := by unfold Good; infer_instance
def over (b f : Int) : Int := if f > b then f - b else if f < -b then f + b else 0
def tgt (g : Gen) (f : Int) : Int := min (max (g.set - Int.tdiv (over g.band f) g.droop) g.least) g.most

theorem tdiv_small (x d : Int) (h0 : -20000 ≤ x) (h1 : x ≤ 20000) : -20000 ≤ Int.tdiv x d ∧ Int.tdiv x d ≤ 20000 := by
  have := Int.natAbs_tdiv_le_natAbs x d
  omega
theorem over_small (b f : Int) (hb : 0 ≤ b) (hb1 : b ≤ 10000) (h0 : -10000 ≤ f) (h1 : f ≤ 10000) : -20000 ≤ over b f ∧ over b f ≤ 20000 := by
  unfold over; split <;> (try split) <;> omega
theorem over_mono (b f f' : Int) (hb : 0 ≤ b) (h : f ≤ f') : over b f ≤ over b f' := by
  unfold over; split <;> split <;> (try split) <;> (try split) <;> omega
theorem tgt_mono (g : Gen) (hg : Good g) (f f' : Int) (h : f ≤ f') : tgt g f' ≤ tgt g f := by
  have h1 := over_mono g.band f f' (by have := hg; unfold Good at this; omega) h
  have h2 : Int.tdiv (over g.band f) g.droop ≤ Int.tdiv (over g.band f') g.droop := Int.tdiv_le_tdiv (by have := hg; unfold Good at this; omega) h1
  unfold tgt; omega
theorem tgt_range (g : Gen) (hg : Good g) (f : Int) : g.least ≤ tgt g f ∧ tgt g f ≤ g.most := by
  unfold Good at hg; unfold tgt; omega

/-! Several generators -/
def total (l : List Gen) (f : Int) : Int := (l.map fun g => tgt g f).sum
def AllGood (l : List Gen) : Prop := ∀ g ∈ l, Good g
instance (l : List Gen) : Decidable (AllGood l) := by unfold AllGood; infer_instance
theorem total_cons (g : Gen) (l : List Gen) (f : Int) : total (g :: l) f = tgt g f + total l f := by unfold total; simp
theorem total_append (l m : List Gen) (f : Int) : total (l ++ m) f = total l f + total m f := by unfold total; simp
theorem total_range (l : List Gen) (hg : AllGood l) (f : Int) : 0 ≤ total l f ∧ total l f ≤ 100000 * l.length := by
  induction l with
  | nil => unfold total; simp
  | cons g l ih =>
    have h1 := ih (fun x hx => hg x (List.mem_cons_of_mem _ hx))
    have h0 := hg g List.mem_cons_self
    have h2 := tgt_range g h0 f
    unfold Good at h0
    rw [total_cons, List.length_cons]
    omega
theorem total_mono (l : List Gen) (hg : AllGood l) (f f' : Int) (h : f ≤ f') : total l f' ≤ total l f := by
  induction l with
  | nil => unfold total; simp
  | cons g l ih =>
    have h1 := ih (fun x hx => hg x (List.mem_cons_of_mem _ hx))
    have h2 := tgt_mono g (hg g List.mem_cons_self) f f' h
    rw [total_cons, total_cons]; omega
/-- The answer of the check of several generators. -/
def allE (l : List Gen) : Int := if l.length > 10 then 2 else if AllGood l then 0 else 4
end Go.Proofs.Ythmehpojcecldaa
