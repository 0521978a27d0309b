/- governorReaches: from the function to its row. -/
import Derived.Test.YthmehpojcecldaaGovF
import Derived.Test.YthmehpojcecldaaGovO
import Derived.Test.YthmehpojcecldaaAwT
import Derived.SizedLaws
import Derived.OpenShut
import Derived.Below
import Derived.Test.YthmehpojcecldaaRows
import Derived.WalkKit
import Derived.ProofKit
set_option linter.unusedVariables false
namespace Go.Proofs.Ythmehpojcecldaa.governorReaches
open Go.Proofs.Ythmehpojcecldaa.Aw Go.ChangeShapes
theorem own : ownKnob Try.prog.godebug = none := by kernel_rfl
set_option maxRecDepth 100000 in
theorem lifted (os : Os) (started : os.Started) (H : Type) (enc : TypeId × Value → H) :
    ReturnsInHanded {} Try.checked os 7 .any (Rows.governorReachesSpec.pre6 enc Try.prog Try.f7 Rows.governorReachesRow.domain false) (Rows.governorReachesSpec.post enc Try.prog Try.f7 false true false false) := by
  refine returnsInHanded_of_change_sized (C := Try.checked) own started (by kernel_rfl) Try.func7
    (ChangeSpec.witness6 (enc := enc) (C := Try.checked) false ⟨#[], #[.agg #[.int .i64 0, .int .i64 0, .int .i64 0, .int .i64 0, .int .i64 0, .int .i64 0], .int .i64 0, .int .i64 0], []⟩ 8 (by kernel_rfl) (by kernel_rfl) (by kernel_rfl) (by kernel_rfl)) ?_
  intro W base args ds gs before hval0 hW hcnd hsz0 _
  have hval : ∀ (j : Nat) t v, Try.f7.params[j]? = some t → args[j]? = some v → Value.okWide Try.prog W .any base t v := hval0
  have hW' := hW
  obtain ⟨p, q, hA0, hV, hbf, hfz, hnd⟩ := hW
  have hA : DataW.TrodAll enc Try.prog W 0 (fun _ => true) true Try.f7.params.toList args.toList ds p := hA0
  rw [Try.params7] at hA hval
  obtain ⟨v0, vs0, d0, ds0, p0, q0, hargs, rfl, rfl, h0, r0⟩ := trodAll_cons hA
  obtain ⟨v1, vs1, d1, ds1, p1, q1, rfl, rfl, rfl, h1, r1⟩ := trodAll_cons r0
  obtain ⟨v2, vs2, d2, ds2, p2, q2, rfl, rfl, rfl, h2, r2⟩ := trodAll_cons r1
  obtain ⟨rfl, rfl, rfl⟩ := trodAll_nil r2
  obtain rfl : args = #[v0, v1, v2] := by cases args; simp_all
  obtain ⟨rfl, rfl⟩ := trodVars_none hV
  obtain ⟨g, g0, y0⟩ := oG _ enc W 0 base _ _ v0 d0 p0 (hval 0 _ v0 rfl rfl) h0
  obtain ⟨a, g1, y1⟩ := oI _ enc W 0 base _ _ v1 d1 p1 (hval 1 _ v1 rfl rfl) h1
  obtain ⟨b, g2, y2⟩ := oI _ enc W 0 base _ _ v2 d2 p2 (hval 2 _ v2 rfl rfl) h2
  refine law_true (by kernel_rfl) (by kernel_rfl) Try.underlying4 rfl rfl ⟨rfl, rfl, rfl⟩ hW' (s7 g a b) ?_
  unfold RcList
  exact ⟨v0, _, rfl, y0, by unfold RcList; exact ⟨v1, _, rfl, y1, by unfold RcList; exact ⟨v2, _, rfl, y2, by unfold RcList; rfl⟩⟩⟩
theorem over : Rows.governorReachesRow.holds Try.pinned (OpenSpec.ofChange Rows.governorReachesSpec) :=
  OpenClaim.holds_of_wide 7 Try.f7 rfl rfl rfl rfl rfl rfl rfl ⟨rfl, rfl, rfl, rfl, rfl⟩ rfl rfl rfl rfl rfl (by kernel_rfl) Try.func7 (by kernel_rfl)
    (of_decide_eq_true (by kernel_rfl)) (by unfold Func.isWrapper; first | (rw [if_pos (by decide +kernel)]; kernel_rfl) | (rw [if_neg (by decide +kernel)]; exact ⟨rfl, rfl⟩))
    (fun os started H enc _ => lifted os started H enc)
theorem proved : Rows.GovernorReachesSaid := over
end Go.Proofs.Ythmehpojcecldaa.governorReaches
namespace Go.Proofs.Ythmehpojcecldaa
/-- The row, under a short name, for the claim. -/
theorem governorReaches_holds : Rows.GovernorReachesSaid := governorReaches.proved
#print axioms governorReaches_holds
end Go.Proofs.Ythmehpojcecldaa
