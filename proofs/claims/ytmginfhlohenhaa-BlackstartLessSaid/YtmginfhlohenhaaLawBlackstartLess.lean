/- blackstartLess: from the function to its row. -/
import Derived.Test.YtmginfhlohenhaaBlaR
import Derived.Test.YtmginfhlohenhaaIslO
import Derived.Test.YtmginfhlohenhaaAwT
import Derived.SizedLaws
import Derived.OpenShut
import Derived.Below
import Derived.Test.YtmginfhlohenhaaRows
import Derived.WalkKit
import Derived.ProofKit
set_option linter.unusedVariables false
namespace Go.Proofs.Ytmginfhlohenhaa.blackstartLess
open Go.Proofs.Ytmginfhlohenhaa.Aw Go.ChangeShapes
theorem own : ownKnob Try.prog.godebug = none := by kernel_rfl
set_option maxRecDepth 100000 in
theorem lifted (os : Os) (started : os.Started) (H : Type) (enc : TypeId × Value → H) :
    ReturnsInHanded {} Try.checked os 4 .any (Rows.blackstartLessSpec.pre6 enc Try.prog Try.f4 Rows.blackstartLessRow.domain false) (Rows.blackstartLessSpec.post enc Try.prog Try.f4 false true false false) := by
  refine returnsInHanded_of_change_sized (C := Try.checked) own started (by kernel_rfl) Try.func4
    (ChangeSpec.witness6 (enc := enc) (C := Try.checked) false ⟨#[], #[.agg #[.slice none 0 0, .slice none 0 0, .slice none 0 0, .slice none 0 0, .slice none 0 0, .slice none 0 0], .slice none 0 0, .int .i64 0], []⟩ 8 (by kernel_rfl) (by kernel_rfl) (by kernel_rfl) (by kernel_rfl)) ?_
  intro W base args ds gs before hval0 hW hcnd hsz0 _
  have hval : ∀ (j : Nat) t v, Try.f4.params[j]? = some t → args[j]? = some v → Value.okWide Try.prog W .any base t v := hval0
  have hW' := hW
  obtain ⟨p, q, hA0, hV, hbf, hfz, hnd⟩ := hW
  have hA : DataW.TrodAll enc Try.prog W 0 (fun _ => true) true Try.f4.params.toList args.toList ds p := hA0
  rw [Try.params4] at hA hval
  obtain ⟨v0, vs0, d0, ds0, p0, q0, hargs, rfl, rfl, h0, r0⟩ := trodAll_cons hA
  obtain ⟨v1, vs1, d1, ds1, p1, q1, rfl, rfl, rfl, h1, r1⟩ := trodAll_cons r0
  obtain ⟨v2, vs2, d2, ds2, p2, q2, rfl, rfl, rfl, h2, r2⟩ := trodAll_cons r1
  obtain ⟨rfl, rfl, rfl⟩ := trodAll_nil r2
  obtain rfl : args = #[v0, v1, v2] := by cases args; simp_all
  obtain ⟨rfl, rfl⟩ := trodVars_none hV
  obtain ⟨n, g0, y0⟩ := oN _ enc W 0 base _ _ v0 d0 p0 (hval 0 _ v0 rfl rfl) h0
  obtain ⟨⟨n1, f1, l⟩, g1, y1⟩ := oSs _ enc W 0 base _ _ v1 d1 p1 (hval 1 _ v1 rfl rfl) h1
  obtain ⟨k, g2, y2⟩ := oI _ enc W 0 base _ _ v2 d2 p2 (hval 2 _ v2 rfl rfl) h2
  refine law_true (by kernel_rfl) (by kernel_rfl) Try.underlying4 rfl rfl ⟨rfl, rfl, rfl⟩ hW' (s4 n g0 (some n1) f1 l k g1.1) ?_
  unfold RcList
  exact ⟨v0, _, rfl, y0, by unfold RcList; exact ⟨v1, _, rfl, y1, by unfold RcList; exact ⟨v2, _, rfl, y2, by unfold RcList; rfl⟩⟩⟩
theorem j0 : (Rows.blackstartLessRow.wf (OpenSpec.ofChange Rows.blackstartLessSpec)) = true := by kernel_rfl
theorem j1 : (laidOutB Try.pinned.checked.prog) = true := by kernel_rfl
theorem j2 : (mapsRowed Try.pinned.checked.prog) = true := by kernel_rfl
theorem j3 : (Try.f4.params.all (Try.pinned.checked.prog.readableRec ·)) = true := by kernel_rfl
theorem j4 : (namedTie Try.pinned.checked.prog Rows.blackstartLessRow.named Rows.blackstartLessSpec.vars) = true := by kernel_rfl
theorem j5 : ((Rows.blackstartLessRow.stops == [])) = true := by kernel_rfl
theorem j6 : ((Try.pinned.checked.prog.stops == [])) = true := by kernel_rfl
theorem j7 : ((Rows.blackstartLessRow.knobs == [])) = true := by kernel_rfl
theorem j8 : ((Try.pinned.checked.prog.stopKnobs == [])) = true := by kernel_rfl
theorem j9 : ((Rows.blackstartLessRow.inPlace == Try.pinned.checked.prog.inPlace 4)) = true := by kernel_rfl
theorem j10 : ((Rows.blackstartLessRow.unfollowed == Try.pinned.checked.prog.unfollowed 4)) = true := by kernel_rfl
theorem j11 : ((Rows.blackstartLessRow.recurses == Try.pinned.checked.prog.recurses 4)) = true := by kernel_rfl
theorem j12 : ((Rows.blackstartLessRow.named == Try.pinned.checked.prog.varsNamed 4)) = true := by kernel_rfl
theorem j13 : ((Rows.blackstartLessRow.maps == (Try.f4.params.toList ++ Rows.blackstartLessSpec.plain.varTypes Try.pinned.checked.prog).any (Try.pinned.checked.prog.mapsRec ·))) = true := by kernel_rfl
theorem j14 : ((Rows.blackstartLessRow.ifaces == (Try.f4.params.toList ++ Rows.blackstartLessSpec.plain.varTypes Try.pinned.checked.prog).any (Try.pinned.checked.prog.ifacesRec ·))) = true := by kernel_rfl
theorem j15 : ((Rows.blackstartLessRow.mapsOut == Try.pinned.checked.prog.mapsAmong Try.f4.resultTypes.toList)) = true := by kernel_rfl
theorem j16 : ((Rows.blackstartLessRow.loops == (Try.f4.params.toList ++ Rows.blackstartLessSpec.plain.varTypes Try.pinned.checked.prog).any (Try.pinned.checked.prog.loopsFrom ·))) = true := by kernel_rfl
theorem j17 : ((Rows.blackstartLessRow.wideKeys == (Try.f4.params.toList ++ Rows.blackstartLessSpec.plain.varTypes Try.pinned.checked.prog ++ Try.f4.resultTypes.toList).any (Try.pinned.checked.prog.wideKeysFrom ·))) = true := by kernel_rfl
theorem j18 : (Rows.blackstartLessSpec.vars.all (Try.pinned.checked.prog.varReadable ·)) = true := by kernel_rfl
theorem j19 : (Try.f4.resultTypes.all (fun t => Try.pinned.checked.prog.readableRec t && decide (t < Try.pinned.checked.prog.types.size))) = true := by kernel_rfl
theorem j20 : ((Rows.blackstartLessRow.ifacesOut == Try.f4.resultTypes.toList.any (Try.pinned.checked.prog.ifacesRec ·))) = true := by kernel_rfl
theorem j21 : ((Rows.blackstartLessRow.loopsOut == Try.f4.resultTypes.toList.any (Try.pinned.checked.prog.loopsFrom ·))) = true := by kernel_rfl
theorem j22 : ((Rows.blackstartLessRow.plainKeys == Try.pinned.checked.prog.plainKeys)) = true := by kernel_rfl
theorem j23 : (Rows.blackstartLessRow.shortTexts.isNone) = true := by kernel_rfl
theorem j24 : (Try.pinned.checked.prog.stopsHeard) = true := by kernel_rfl
theorem j25 : (Try.pinned.checked.prog.mayEnter) = true := by kernel_rfl
theorem j26 : ((Rows.blackstartLessRow.lifted == Try.pinned.checked.prog.liftsFinal)) = true := by kernel_rfl
theorem j27 : ((Try.pinned.checked.prog.make == some Rows.blackstartLessRow.make)) = true := by kernel_rfl
theorem j28 : ((Rows.blackstartLessRow.kinds == (if Rows.blackstartLessRow.domain.isEmpty then [] else Try.f4.params.toList.map fun t => match Try.pinned.checked.prog.underlying t with | some (.int k) => some k | _ => none))) = true := by kernel_rfl
theorem j29 : ((Rows.blackstartLessRow.pinned == Rows.blackstartLessRow.pinnedBy)) = true := by kernel_rfl
theorem j30 : ((Rows.blackstartLessRow.veiled == (Try.f4.params.toList ++ Rows.blackstartLessSpec.plain.varTypes Try.pinned.checked.prog ++ Try.f4.resultTypes.toList).any (Try.pinned.checked.prog.veiledRec ·))) = true := by kernel_rfl
theorem j31 : (Rows.blackstartLessRow.veiledFits Try.pinned.checked.prog Try.f4.params.toList (Try.f4.params.toList ++ Rows.blackstartLessSpec.plain.varTypes Try.pinned.checked.prog ++ Try.f4.resultTypes.toList)) = true := by kernel_rfl
theorem both {a b : Bool} (h : a = true) (k : b = true) : (a && b) = true := by rw [h, k]; rfl
set_option maxRecDepth 100000 in
theorem joined : joinedFacts Try.pinned.checked.prog 4 Try.f4 Rows.blackstartLessSpec Rows.blackstartLessRow = true := by
  unfold joinedFacts
  exact (both (both (both (both (both (both (both (both (both (both (both (both (both (both (both (both (both (both (both (both (both (both (both (both (both (both (both (both (both (both (both j0 j1) j2) j3) j4) j5) j6) j7) j8) j9) j10) j11) j12) j13) j14) j15) j16) j17) j18) j19) j20) j21) j22) j23) j24) j25) j26) j27) j28) j29) j30) j31)
theorem named : Try.pinned.checked.prog.funcNamed Rows.blackstartLessRow.func = some 4 := by kernel_rfl
theorem inst : Try.f4.isInstance Try.pinned.checked.prog Rows.blackstartLessRow.origin Rows.blackstartLessRow.targs := of_decide_eq_true (by kernel_rfl)
theorem wrap : Try.f4.isWrapper Try.pinned.checked.prog Rows.blackstartLessRow.wrapper Rows.blackstartLessRow.mainSum := by unfold Func.isWrapper; first | (rw [if_pos (by decide +kernel)]; kernel_rfl) | (rw [if_neg (by decide +kernel)]; exact ⟨rfl, rfl⟩)
theorem over : Rows.blackstartLessRow.holds Try.pinned (OpenSpec.ofChange Rows.blackstartLessSpec) :=
  OpenClaim.holds_of_wide 4 Try.f4 rfl rfl rfl rfl rfl rfl rfl ⟨rfl, rfl, rfl, rfl, rfl⟩ rfl rfl rfl rfl rfl named Try.func4 joined inst wrap
    (fun os started H enc _ => lifted os started H enc)
theorem proved : Rows.BlackstartLessSaid := over
end Go.Proofs.Ytmginfhlohenhaa.blackstartLess
namespace Go.Proofs.Ytmginfhlohenhaa
/-- The row, under a short name, for the claim. -/
theorem blackstartLess_holds : Rows.BlackstartLessSaid := blackstartLess.proved
#print axioms blackstartLess_holds
end Go.Proofs.Ytmginfhlohenhaa
