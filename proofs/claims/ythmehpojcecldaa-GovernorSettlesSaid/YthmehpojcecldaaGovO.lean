/- Generators as arguments: what reads as data is a generator, or a list of generators. -/
import Derived.Test.YthmehpojcecldaaAwT
import Derived.Test.YthmehpojcecldaaGovB
set_option linter.unusedVariables false
namespace Go.Proofs.Ythmehpojcecldaa
open Go.Proofs.Ythmehpojcecldaa.Aw
theorem oI : OpensV Try.prog 3 (fun n : Int => I n) (fun n => (Lit.int .i64 n).wf = true) := OpensV.int Try.underlying3
theorem gen0 : Opens Try.prog 29 gc (fun _ => True) := by
  have f1 := @Opens.int Try.prog 3 .i64 Try.underlying3
  refine Opens.map (c' := gc) (good' := fun _ => True) (Opens.struct Try.underlying29 (OpensF.cons f1 (OpensF.cons f1 (OpensF.cons f1 (OpensF.cons f1 (OpensF.cons f1 (OpensF.cons f1 OpensF.nil)))))) (by kernel_rfl) (by kernel_rfl))
    (fun p => (⟨p.1, p.2.1, p.2.2.1, p.2.2.2.1, p.2.2.2.2.1, p.2.2.2.2.2.1⟩ : Gen)) (fun _ => rfl) (fun _ _ => trivial)
theorem oG : OpensV Try.prog 29 (fun g : Gen => ga g) (fun _ => True) := OpensV.struct Try.underlying29 gen0
theorem oS : OpensV Try.prog 36 (fun p : Bool × Bool × List Gen => .imm (some p.1) p.2.1 6 (p.2.2.map gc)) (fun p => p.2.2.length ≤ 9223372036854775807 ∧ ∀ a ∈ p.2.2, True) :=
  OpensV.slice Try.underlying36 (Opens.slice 6 Try.underlying36 gen0 (by kernel_rfl) (by omega) (fun _ => rfl))
end Go.Proofs.Ythmehpojcecldaa
