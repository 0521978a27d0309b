/- blackstartPlans: from the function to its row. -/
import Derived.Test.YtmginfhlohenhaaBlaS
import Derived.Test.YtmginfhlohenhaaIslO
import Derived.Test.YtmginfhlohenhaaAwT
import Derived.SizedLaws
import Derived.OpenShut
import Derived.Below
import Derived.Test.YtmginfhlohenhaaRows
import Derived.WalkKit
import Derived.ProofKit
set_option linter.unusedVariables false
namespace Go.Proofs.Ytmginfhlohenhaa.blackstartPlans
open Go.Proofs.Ytmginfhlohenhaa.Aw Go.ChangeShapes
theorem own : ownKnob Try.prog.godebug = none := by kernel_rfl
set_option maxRecDepth 100000 in
theorem lifted (os : Os) (started : os.Started) (H : Type) (enc : TypeId × Value → H) :
    ReturnsInHanded {} Try.checked os 5 .any (Rows.blackstartPlansSpec.pre6 enc Try.prog Try.f5 Rows.blackstartPlansRow.domain false) (Rows.blackstartPlansSpec.post enc Try.prog Try.f5 false true false false) := by
  refine returnsInHanded_of_change_sized (C := Try.checked) own started (by kernel_rfl) Try.func5
    (ChangeSpec.witness6 (enc := enc) (C := Try.checked) false ⟨#[], #[.agg #[.slice none 0 0, .slice none 0 0, .slice none 0 0, .slice none 0 0, .slice none 0 0, .slice none 0 0], .slice none 0 0], []⟩ 8 (by kernel_rfl) (by kernel_rfl) (by kernel_rfl) (by kernel_rfl)) ?_
  intro W base args ds gs before hval0 hW hcnd hsz0 _
  have hval : ∀ (j : Nat) t v, Try.f5.params[j]? = some t → args[j]? = some v → Value.okWide Try.prog W .any base t v := hval0
  have hW' := hW
  obtain ⟨p, q, hA0, hV, hbf, hfz, hnd⟩ := hW
  have hA : DataW.TrodAll enc Try.prog W 0 (fun _ => true) true Try.f5.params.toList args.toList ds p := hA0
  rw [Try.params5] at hA hval
  obtain ⟨v0, vs0, d0, ds0, p0, q0, hargs, rfl, rfl, h0, r0⟩ := trodAll_cons hA
  obtain ⟨v1, vs1, d1, ds1, p1, q1, rfl, rfl, rfl, h1, r1⟩ := trodAll_cons r0
  obtain ⟨rfl, rfl, rfl⟩ := trodAll_nil r1
  obtain rfl : args = #[v0, v1] := by cases args; simp_all
  obtain ⟨rfl, rfl⟩ := trodVars_none hV
  obtain ⟨n, g0, y0⟩ := oN _ enc W 0 base _ _ v0 d0 p0 (hval 0 _ v0 rfl rfl) h0
  obtain ⟨⟨n1, f1, l⟩, g1, y1⟩ := oSs _ enc W 0 base _ _ v1 d1 p1 (hval 1 _ v1 rfl rfl) h1
  refine law_true (by kernel_rfl) (by kernel_rfl) Try.underlying4 rfl rfl ⟨rfl, rfl, rfl⟩ hW' (s5 n g0 (some n1) f1 l g1.1) ?_
  unfold RcList
  exact ⟨v0, _, rfl, y0, by unfold RcList; exact ⟨v1, _, rfl, y1, by unfold RcList; rfl⟩⟩
theorem j0 : (Rows.blackstartPlansRow.wf (OpenSpec.ofChange Rows.blackstartPlansSpec)) = true := by kernel_rfl
theorem j1 : (laidOutB Try.pinned.checked.prog) = true := by kernel_rfl
theorem j2 : (mapsRowed Try.pinned.checked.prog) = true := by kernel_rfl
theorem j3 : (Try.f5.params.all (Try.pinned.checked.prog.readableRec ·)) = true := by kernel_rfl
theorem j4 : (namedTie Try.pinned.checked.prog Rows.blackstartPlansRow.named Rows.blackstartPlansSpec.vars) = true := by kernel_rfl
theorem j5 : ((Rows.blackstartPlansRow.stops == [])) = true := by kernel_rfl
theorem j6 : ((Try.pinned.checked.prog.stops == [])) = true := by kernel_rfl
theorem j7 : ((Rows.blackstartPlansRow.knobs == [])) = true := by kernel_rfl
theorem j8 : ((Try.pinned.checked.prog.stopKnobs == [])) = true := by kernel_rfl
theorem j9 : ((Rows.blackstartPlansRow.inPlace == Try.pinned.checked.prog.inPlace 5)) = true := by kernel_rfl
theorem j10 : ((Rows.blackstartPlansRow.unfollowed == Try.pinned.checked.prog.unfollowed 5)) = true := by kernel_rfl
theorem j11 : ((Rows.blackstartPlansRow.recurses == Try.pinned.checked.prog.recurses 5)) = true := by kernel_rfl
theorem j12 : ((Rows.blackstartPlansRow.named == Try.pinned.checked.prog.varsNamed 5)) = true := by kernel_rfl
theorem j13 : ((Rows.blackstartPlansRow.maps == (Try.f5.params.toList ++ Rows.blackstartPlansSpec.plain.varTypes Try.pinned.checked.prog).any (Try.pinned.checked.prog.mapsRec ·))) = true := by kernel_rfl
theorem j14 : ((Rows.blackstartPlansRow.ifaces == (Try.f5.params.toList ++ Rows.blackstartPlansSpec.plain.varTypes Try.pinned.checked.prog).any (Try.pinned.checked.prog.ifacesRec ·))) = true := by kernel_rfl
theorem j15 : ((Rows.blackstartPlansRow.mapsOut == Try.pinned.checked.prog.mapsAmong Try.f5.resultTypes.toList)) = true := by kernel_rfl
theorem j16 : ((Rows.blackstartPlansRow.loops == (Try.f5.params.toList ++ Rows.blackstartPlansSpec.plain.varTypes Try.pinned.checked.prog).any (Try.pinned.checked.prog.loopsFrom ·))) = true := by kernel_rfl
theorem j17 : ((Rows.blackstartPlansRow.wideKeys == (Try.f5.params.toList ++ Rows.blackstartPlansSpec.plain.varTypes Try.pinned.checked.prog ++ Try.f5.resultTypes.toList).any (Try.pinned.checked.prog.wideKeysFrom ·))) = true := by kernel_rfl
theorem j18 : (Rows.blackstartPlansSpec.vars.all (Try.pinned.checked.prog.varReadable ·)) = true := by kernel_rfl
theorem j19 : (Try.f5.resultTypes.all (fun t => Try.pinned.checked.prog.readableRec t && decide (t < Try.pinned.checked.prog.types.size))) = true := by kernel_rfl
theorem j20 : ((Rows.blackstartPlansRow.ifacesOut == Try.f5.resultTypes.toList.any (Try.pinned.checked.prog.ifacesRec ·))) = true := by kernel_rfl
theorem j21 : ((Rows.blackstartPlansRow.loopsOut == Try.f5.resultTypes.toList.any (Try.pinned.checked.prog.loopsFrom ·))) = true := by kernel_rfl
theorem j22 : ((Rows.blackstartPlansRow.plainKeys == Try.pinned.checked.prog.plainKeys)) = true := by kernel_rfl
theorem j23 : (Rows.blackstartPlansRow.shortTexts.isNone) = true := by kernel_rfl
theorem j24 : (Try.pinned.checked.prog.stopsHeard) = true := by kernel_rfl
theorem j25 : (Try.pinned.checked.prog.mayEnter) = true := by kernel_rfl
theorem j26 : ((Rows.blackstartPlansRow.lifted == Try.pinned.checked.prog.liftsFinal)) = true := by kernel_rfl
theorem j27 : ((Try.pinned.checked.prog.make == some Rows.blackstartPlansRow.make)) = true := by kernel_rfl
theorem j28 : ((Rows.blackstartPlansRow.kinds == (if Rows.blackstartPlansRow.domain.isEmpty then [] else Try.f5.params.toList.map fun t => match Try.pinned.checked.prog.underlying t with | some (.int k) => some k | _ => none))) = true := by kernel_rfl
theorem j29 : ((Rows.blackstartPlansRow.pinned == Rows.blackstartPlansRow.pinnedBy)) = true := by kernel_rfl
theorem j30 : ((Rows.blackstartPlansRow.veiled == (Try.f5.params.toList ++ Rows.blackstartPlansSpec.plain.varTypes Try.pinned.checked.prog ++ Try.f5.resultTypes.toList).any (Try.pinned.checked.prog.veiledRec ·))) = true := by kernel_rfl
theorem j31 : (Rows.blackstartPlansRow.veiledFits Try.pinned.checked.prog Try.f5.params.toList (Try.f5.params.toList ++ Rows.blackstartPlansSpec.plain.varTypes Try.pinned.checked.prog ++ Try.f5.resultTypes.toList)) = true := by kernel_rfl
theorem both {a b : Bool} (h : a = true) (k : b = true) : (a && b) = true := by rw [h, k]; rfl
set_option maxRecDepth 100000 in
theorem joined : joinedFacts Try.pinned.checked.prog 5 Try.f5 Rows.blackstartPlansSpec Rows.blackstartPlansRow = true := by
  unfold joinedFacts
  exact (both (both (both (both (both (both (both (both (both (both (both (both (both (both (both (both (both (both (both (both (both (both (both (both (both (both (both (both (both (both (both j0 j1) j2) j3) j4) j5) j6) j7) j8) j9) j10) j11) j12) j13) j14) j15) j16) j17) j18) j19) j20) j21) j22) j23) j24) j25) j26) j27) j28) j29) j30) j31)
theorem named : Try.pinned.checked.prog.funcNamed Rows.blackstartPlansRow.func = some 5 := by kernel_rfl
theorem inst : Try.f5.isInstance Try.pinned.checked.prog Rows.blackstartPlansRow.origin Rows.blackstartPlansRow.targs := of_decide_eq_true (by kernel_rfl)
theorem wrap : Try.f5.isWrapper Try.pinned.checked.prog Rows.blackstartPlansRow.wrapper Rows.blackstartPlansRow.mainSum := by unfold Func.isWrapper; first | (rw [if_pos (by decide +kernel)]; kernel_rfl) | (rw [if_neg (by decide +kernel)]; exact ⟨rfl, rfl⟩)
theorem over : Rows.blackstartPlansRow.holds Try.pinned (OpenSpec.ofChange Rows.blackstartPlansSpec) :=
  OpenClaim.holds_of_wide 5 Try.f5 rfl rfl rfl rfl rfl rfl rfl ⟨rfl, rfl, rfl, rfl, rfl⟩ rfl rfl rfl rfl rfl named Try.func5 joined inst wrap
    (fun os started H enc _ => lifted os started H enc)
theorem proved : Rows.BlackstartPlansSaid := over
end Go.Proofs.Ytmginfhlohenhaa.blackstartPlans
namespace Go.Proofs.Ytmginfhlohenhaa
/-- The row, under a short name, for the claim. -/
theorem blackstartPlans_holds : Rows.BlackstartPlansSaid := blackstartPlans.proved
#print axioms blackstartPlans_holds
end Go.Proofs.Ytmginfhlohenhaa
