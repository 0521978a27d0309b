/- alarmCovered: from the function to its row. -/
import Derived.Test.YtoickofcmngdjaaAlaF
import Derived.Test.YtoickofcmngdjaaAlaO
import Derived.Test.YtoickofcmngdjaaAwTb
import Derived.SizedLaws
import Derived.OpenShut
import Derived.Below
import Derived.Test.YtoickofcmngdjaaRows
import Derived.WalkKit
import Derived.ProofKit
set_option linter.unusedVariables false
namespace Go.Proofs.Ytoickofcmngdjaa.alarmCovered
open Go.Proofs.Ytoickofcmngdjaa.Aw Go.ChangeShapes
theorem own : ownKnob Try.prog.godebug = none := by kernel_rfl
set_option maxRecDepth 100000 in
theorem lifted (os : Os) (started : os.Started) (H : Type) (enc : TypeId × Value → H) :
    ReturnsInHanded {} Try.checked os 4 .any (Rows.alarmCoveredSpec.pre6 enc Try.prog Try.f4 Rows.alarmCoveredRow.domain false) (Rows.alarmCoveredSpec.post enc Try.prog Try.f4 false true false false) := by
  refine returnsInHanded_of_change_sized (C := Try.checked) own started (by kernel_rfl) Try.func4
    (ChangeSpec.witness6 (enc := enc) (C := Try.checked) false ⟨#[], #[.slice none 0 0, .slice none 0 0], []⟩ 8 (by kernel_rfl) (by kernel_rfl) (by kernel_rfl) (by kernel_rfl)) ?_
  intro W base args ds gs before hval0 hW hcnd hsz0 _
  have hval : ∀ (j : Nat) t v, Try.f4.params[j]? = some t → args[j]? = some v → Value.okWide Try.prog W .any base t v := hval0
  have hW' := hW
  obtain ⟨p, q, hA0, hV, hbf, hfz, hnd⟩ := hW
  have hA : DataW.TrodAll enc Try.prog W 0 (fun _ => true) true Try.f4.params.toList args.toList ds p := hA0
  rw [Try.params4] at hA hval
  obtain ⟨v0, vs0, d0, ds0, p0, q0, hargs, rfl, rfl, h0, r0⟩ := trodAll_cons hA
  obtain ⟨v1, vs1, d1, ds1, p1, q1, rfl, rfl, rfl, h1, r1⟩ := trodAll_cons r0
  obtain ⟨rfl, rfl, rfl⟩ := trodAll_nil r1
  obtain rfl : args = #[v0, v1] := by cases args; simp_all
  obtain ⟨rfl, rfl⟩ := trodVars_none hV
  rw [Try.params4] at hsz0
  have x0 := weigh_cons (W := W) hsz0
  have x1 := weigh_cons (W := W) x0.2
  obtain ⟨⟨n0, f0, cs⟩, g0, y0⟩ := oCs _ enc W 0 base _ _ v0 d0 p0 (hval 0 _ v0 rfl rfl) h0 x0.1
  obtain ⟨⟨n1, f1, l⟩, g1, y1⟩ := oSs _ enc W 0 base _ _ v1 d1 p1 (hval 1 _ v1 rfl rfl) h1 x1.1
  refine law_true (by kernel_rfl) (by kernel_rfl) Try.underlying4 rfl rfl ⟨rfl, rfl, rfl⟩ hW' (s4 (some n0) f0 cs (some n1) f1 l g0.2.2 (fun x hx => up63 (g1.2.2 x hx)) g1.1) ?_
  unfold RcList
  exact ⟨v0, _, rfl, y0, by unfold RcList; exact ⟨v1, _, rfl, y1, by unfold RcList; rfl⟩⟩
theorem j0 : (Rows.alarmCoveredRow.wf (OpenSpec.ofChange Rows.alarmCoveredSpec)) = true := by kernel_rfl
theorem j1 : (laidOutB Try.pinned.checked.prog) = true := by kernel_rfl
theorem j2 : (mapsRowed Try.pinned.checked.prog) = true := by kernel_rfl
theorem j3 : (Try.f4.params.all (Try.pinned.checked.prog.readableRec ·)) = true := by kernel_rfl
theorem j4 : (namedTie Try.pinned.checked.prog Rows.alarmCoveredRow.named Rows.alarmCoveredSpec.vars) = true := by kernel_rfl
theorem j5 : ((Rows.alarmCoveredRow.stops == [])) = true := by kernel_rfl
theorem j6 : ((Try.pinned.checked.prog.stops == [])) = true := by kernel_rfl
theorem j7 : ((Rows.alarmCoveredRow.knobs == [])) = true := by kernel_rfl
theorem j8 : ((Try.pinned.checked.prog.stopKnobs == [])) = true := by kernel_rfl
theorem j9 : ((Rows.alarmCoveredRow.inPlace == Try.pinned.checked.prog.inPlace 4)) = true := by kernel_rfl
theorem j10 : ((Rows.alarmCoveredRow.unfollowed == Try.pinned.checked.prog.unfollowed 4)) = true := by kernel_rfl
theorem j11 : ((Rows.alarmCoveredRow.recurses == Try.pinned.checked.prog.recurses 4)) = true := by kernel_rfl
theorem j12 : ((Rows.alarmCoveredRow.named == Try.pinned.checked.prog.varsNamed 4)) = true := by kernel_rfl
theorem j13 : ((Rows.alarmCoveredRow.maps == (Try.f4.params.toList ++ Rows.alarmCoveredSpec.plain.varTypes Try.pinned.checked.prog).any (Try.pinned.checked.prog.mapsRec ·))) = true := by kernel_rfl
theorem j14 : ((Rows.alarmCoveredRow.ifaces == (Try.f4.params.toList ++ Rows.alarmCoveredSpec.plain.varTypes Try.pinned.checked.prog).any (Try.pinned.checked.prog.ifacesRec ·))) = true := by kernel_rfl
theorem j15 : ((Rows.alarmCoveredRow.mapsOut == Try.pinned.checked.prog.mapsAmong Try.f4.resultTypes.toList)) = true := by kernel_rfl
theorem j16 : ((Rows.alarmCoveredRow.loops == (Try.f4.params.toList ++ Rows.alarmCoveredSpec.plain.varTypes Try.pinned.checked.prog).any (Try.pinned.checked.prog.loopsFrom ·))) = true := by kernel_rfl
theorem j17 : ((Rows.alarmCoveredRow.wideKeys == (Try.f4.params.toList ++ Rows.alarmCoveredSpec.plain.varTypes Try.pinned.checked.prog ++ Try.f4.resultTypes.toList).any (Try.pinned.checked.prog.wideKeysFrom ·))) = true := by kernel_rfl
theorem j18 : (Rows.alarmCoveredSpec.vars.all (Try.pinned.checked.prog.varReadable ·)) = true := by kernel_rfl
theorem j19 : (Try.f4.resultTypes.all (fun t => Try.pinned.checked.prog.readableRec t && decide (t < Try.pinned.checked.prog.types.size))) = true := by kernel_rfl
theorem j20 : ((Rows.alarmCoveredRow.ifacesOut == Try.f4.resultTypes.toList.any (Try.pinned.checked.prog.ifacesRec ·))) = true := by kernel_rfl
theorem j21 : ((Rows.alarmCoveredRow.loopsOut == Try.f4.resultTypes.toList.any (Try.pinned.checked.prog.loopsFrom ·))) = true := by kernel_rfl
theorem j22 : ((Rows.alarmCoveredRow.plainKeys == Try.pinned.checked.prog.plainKeys)) = true := by kernel_rfl
theorem j23 : (Rows.alarmCoveredRow.shortTexts.isNone) = true := by kernel_rfl
theorem j24 : (Try.pinned.checked.prog.stopsHeard) = true := by kernel_rfl
theorem j25 : (Try.pinned.checked.prog.mayEnter) = true := by kernel_rfl
theorem j26 : ((Rows.alarmCoveredRow.lifted == Try.pinned.checked.prog.liftsFinal)) = true := by kernel_rfl
theorem j27 : ((Try.pinned.checked.prog.make == some Rows.alarmCoveredRow.make)) = true := by kernel_rfl
theorem j28 : ((Rows.alarmCoveredRow.kinds == (if Rows.alarmCoveredRow.domain.isEmpty then [] else Try.f4.params.toList.map fun t => match Try.pinned.checked.prog.underlying t with | some (.int k) => some k | _ => none))) = true := by kernel_rfl
theorem j29 : ((Rows.alarmCoveredRow.pinned == Rows.alarmCoveredRow.pinnedBy)) = true := by kernel_rfl
theorem j30 : ((Rows.alarmCoveredRow.veiled == (Try.f4.params.toList ++ Rows.alarmCoveredSpec.plain.varTypes Try.pinned.checked.prog ++ Try.f4.resultTypes.toList).any (Try.pinned.checked.prog.veiledRec ·))) = true := by kernel_rfl
theorem j31 : (Rows.alarmCoveredRow.veiledFits Try.pinned.checked.prog Try.f4.params.toList (Try.f4.params.toList ++ Rows.alarmCoveredSpec.plain.varTypes Try.pinned.checked.prog ++ Try.f4.resultTypes.toList)) = true := by kernel_rfl
theorem both {a b : Bool} (h : a = true) (k : b = true) : (a && b) = true := by rw [h, k]; rfl
set_option maxRecDepth 100000 in
theorem joined : joinedFacts Try.pinned.checked.prog 4 Try.f4 Rows.alarmCoveredSpec Rows.alarmCoveredRow = true := by
  unfold joinedFacts
  exact (both (both (both (both (both (both (both (both (both (both (both (both (both (both (both (both (both (both (both (both (both (both (both (both (both (both (both (both (both (both (both j0 j1) j2) j3) j4) j5) j6) j7) j8) j9) j10) j11) j12) j13) j14) j15) j16) j17) j18) j19) j20) j21) j22) j23) j24) j25) j26) j27) j28) j29) j30) j31)
theorem named : Try.pinned.checked.prog.funcNamed Rows.alarmCoveredRow.func = some 4 := by kernel_rfl
theorem inst : Try.f4.isInstance Try.pinned.checked.prog Rows.alarmCoveredRow.origin Rows.alarmCoveredRow.targs := of_decide_eq_true (by kernel_rfl)
theorem wrap : Try.f4.isWrapper Try.pinned.checked.prog Rows.alarmCoveredRow.wrapper Rows.alarmCoveredRow.mainSum := by unfold Func.isWrapper; first | (rw [if_pos (by decide +kernel)]; kernel_rfl) | (rw [if_neg (by decide +kernel)]; exact ⟨rfl, rfl⟩)
theorem over : Rows.alarmCoveredRow.holds Try.pinned (OpenSpec.ofChange Rows.alarmCoveredSpec) :=
  OpenClaim.holds_of_wide 4 Try.f4 rfl rfl rfl rfl rfl rfl rfl ⟨rfl, rfl, rfl, rfl, rfl⟩ rfl rfl rfl rfl rfl named Try.func4 joined inst wrap
    (fun os started H enc _ => lifted os started H enc)
theorem proved : Rows.AlarmCoveredSaid := over
end Go.Proofs.Ytoickofcmngdjaa.alarmCovered
namespace Go.Proofs.Ytoickofcmngdjaa
/-- The row, under a short name, for the claim. -/
theorem alarmCovered_holds : Rows.AlarmCoveredSaid := alarmCovered.proved
#print axioms alarmCovered_holds
end Go.Proofs.Ytoickofcmngdjaa
