/- orderMore: from the function to its row. -/
import Derived.Test.YtkbipopkemfhaaaOrdV
import Derived.Test.YtkbipopkemfhaaaOrdO
import Derived.Test.YtkbipopkemfhaaaAwTa
import Derived.SizedLaws
import Derived.OpenShut
import Derived.Below
import Derived.Test.YtkbipopkemfhaaaRows
import Derived.WalkKit
import Derived.ProofKit
set_option linter.unusedVariables false
namespace Go.Proofs.Ytkbipopkemfhaaa.orderMore
open Go.Proofs.Ytkbipopkemfhaaa.Aw Go.ChangeShapes
theorem own : ownKnob Try.prog.godebug = none := by kernel_rfl
set_option maxRecDepth 100000 in
theorem lifted (os : Os) (started : os.Started) (H : Type) (enc : TypeId × Value → H) :
    ReturnsInHanded {} Try.checked os 6 .any (Rows.orderMoreSpec.pre6 enc Try.prog Try.f6 Rows.orderMoreRow.domain false) (Rows.orderMoreSpec.post enc Try.prog Try.f6 false true false false) := by
  refine returnsInHanded_of_change_sized (C := Try.checked) own started (by kernel_rfl) Try.func6
    (ChangeSpec.witness6 (enc := enc) (C := Try.checked) false ⟨#[], #[.slice none 0 0, .slice none 0 0, .slice none 0 0, .slice none 0 0], []⟩ 8 (by kernel_rfl) (by kernel_rfl) (by kernel_rfl) (by kernel_rfl)) ?_
  intro W base args ds gs before hval0 hW hcnd hsz0 _
  have hval : ∀ (j : Nat) t v, Try.f6.params[j]? = some t → args[j]? = some v → Value.okWide Try.prog W .any base t v := hval0
  have hW' := hW
  obtain ⟨p, q, hA0, hV, hbf, hfz, hnd⟩ := hW
  have hA : DataW.TrodAll enc Try.prog W 0 (fun _ => true) true Try.f6.params.toList args.toList ds p := hA0
  rw [Try.params6] at hA hval
  obtain ⟨v0, vs0, d0, ds0, p0, q0, hargs, rfl, rfl, h0, r0⟩ := trodAll_cons hA
  obtain ⟨v1, vs1, d1, ds1, p1, q1, rfl, rfl, rfl, h1, r1⟩ := trodAll_cons r0
  obtain ⟨v2, vs2, d2, ds2, p2, q2, rfl, rfl, rfl, h2, r2⟩ := trodAll_cons r1
  obtain ⟨v3, vs3, d3, ds3, p3, q3, rfl, rfl, rfl, h3, r3⟩ := trodAll_cons r2
  obtain ⟨rfl, rfl, rfl⟩ := trodAll_nil r3
  obtain rfl : args = #[v0, v1, v2, v3] := by cases args; simp_all
  obtain ⟨rfl, rfl⟩ := trodVars_none hV
  obtain ⟨⟨n0, f0, rules⟩, g0, y0⟩ := oRs _ enc W 0 base _ _ v0 d0 p0 (hval 0 _ v0 rfl rfl) h0
  obtain ⟨⟨n1, f1, more⟩, g1, y1⟩ := oRs _ enc W 0 base _ _ v1 d1 p1 (hval 1 _ v1 rfl rfl) h1
  obtain ⟨⟨n2, f2, a⟩, g2, y2⟩ := oTs _ enc W 0 base _ _ v2 d2 p2 (hval 2 _ v2 rfl rfl) h2
  obtain ⟨⟨n3, f3, b⟩, g3, y3⟩ := oTs _ enc W 0 base _ _ v3 d3 p3 (hval 3 _ v3 rfl rfl) h3
  rw [Try.params6] at hsz0
  have x0 := weigh_cons (W := W) hsz0
  have x1 := weigh_cons (W := W) x0.2
  have z0 := weigh_len Try.underlying22 h0 y0 x0.1
  rw [show Try.prog.bytesOf _ = 48 by kernel_rfl, List.length_map] at z0
  rw [show reachBytes = 140737488351232 from rfl] at z0
  have z1 := weigh_len Try.underlying22 h1 y1 x1.1
  rw [show Try.prog.bytesOf _ = 48 by kernel_rfl, List.length_map] at z1
  rw [show reachBytes = 140737488351232 from rfl] at z1
  refine law_true (by kernel_rfl) (by kernel_rfl) Try.underlying4 rfl rfl ⟨rfl, rfl, rfl⟩ hW' (s6 (some n0) f0 rules (some n1) f1 more (some n2) f2 a (some n3) f3 b g0.2 g1.2 g2.2 g3.2 z0 z1) ?_
  unfold RcList
  exact ⟨v0, _, rfl, y0, by unfold RcList; exact ⟨v1, _, rfl, y1, by unfold RcList; exact ⟨v2, _, rfl, y2, by unfold RcList; exact ⟨v3, _, rfl, y3, by unfold RcList; rfl⟩⟩⟩⟩
theorem j0 : (Rows.orderMoreRow.wf (OpenSpec.ofChange Rows.orderMoreSpec)) = true := by kernel_rfl
theorem j1 : (laidOutB Try.pinned.checked.prog) = true := by kernel_rfl
theorem j2 : (mapsRowed Try.pinned.checked.prog) = true := by kernel_rfl
theorem j3 : (Try.f6.params.all (Try.pinned.checked.prog.readableRec ·)) = true := by kernel_rfl
theorem j4 : (namedTie Try.pinned.checked.prog Rows.orderMoreRow.named Rows.orderMoreSpec.vars) = true := by kernel_rfl
theorem j5 : ((Rows.orderMoreRow.stops == [])) = true := by kernel_rfl
theorem j6 : ((Try.pinned.checked.prog.stops == [])) = true := by kernel_rfl
theorem j7 : ((Rows.orderMoreRow.knobs == [])) = true := by kernel_rfl
theorem j8 : ((Try.pinned.checked.prog.stopKnobs == [])) = true := by kernel_rfl
theorem j9 : ((Rows.orderMoreRow.inPlace == Try.pinned.checked.prog.inPlace 6)) = true := by kernel_rfl
theorem j10 : ((Rows.orderMoreRow.unfollowed == Try.pinned.checked.prog.unfollowed 6)) = true := by kernel_rfl
theorem j11 : ((Rows.orderMoreRow.recurses == Try.pinned.checked.prog.recurses 6)) = true := by kernel_rfl
theorem j12 : ((Rows.orderMoreRow.named == Try.pinned.checked.prog.varsNamed 6)) = true := by kernel_rfl
theorem j13 : ((Rows.orderMoreRow.maps == (Try.f6.params.toList ++ Rows.orderMoreSpec.plain.varTypes Try.pinned.checked.prog).any (Try.pinned.checked.prog.mapsRec ·))) = true := by kernel_rfl
theorem j14 : ((Rows.orderMoreRow.ifaces == (Try.f6.params.toList ++ Rows.orderMoreSpec.plain.varTypes Try.pinned.checked.prog).any (Try.pinned.checked.prog.ifacesRec ·))) = true := by kernel_rfl
theorem j15 : ((Rows.orderMoreRow.mapsOut == Try.pinned.checked.prog.mapsAmong Try.f6.resultTypes.toList)) = true := by kernel_rfl
theorem j16 : ((Rows.orderMoreRow.loops == (Try.f6.params.toList ++ Rows.orderMoreSpec.plain.varTypes Try.pinned.checked.prog).any (Try.pinned.checked.prog.loopsFrom ·))) = true := by kernel_rfl
theorem j17 : ((Rows.orderMoreRow.wideKeys == (Try.f6.params.toList ++ Rows.orderMoreSpec.plain.varTypes Try.pinned.checked.prog ++ Try.f6.resultTypes.toList).any (Try.pinned.checked.prog.wideKeysFrom ·))) = true := by kernel_rfl
theorem j18 : (Rows.orderMoreSpec.vars.all (Try.pinned.checked.prog.varReadable ·)) = true := by kernel_rfl
theorem j19 : (Try.f6.resultTypes.all (fun t => Try.pinned.checked.prog.readableRec t && decide (t < Try.pinned.checked.prog.types.size))) = true := by kernel_rfl
theorem j20 : ((Rows.orderMoreRow.ifacesOut == Try.f6.resultTypes.toList.any (Try.pinned.checked.prog.ifacesRec ·))) = true := by kernel_rfl
theorem j21 : ((Rows.orderMoreRow.loopsOut == Try.f6.resultTypes.toList.any (Try.pinned.checked.prog.loopsFrom ·))) = true := by kernel_rfl
theorem j22 : ((Rows.orderMoreRow.plainKeys == Try.pinned.checked.prog.plainKeys)) = true := by kernel_rfl
theorem j23 : (Rows.orderMoreRow.shortTexts.isNone) = true := by kernel_rfl
theorem j24 : (Try.pinned.checked.prog.stopsHeard) = true := by kernel_rfl
theorem j25 : (Try.pinned.checked.prog.mayEnter) = true := by kernel_rfl
theorem j26 : ((Rows.orderMoreRow.lifted == Try.pinned.checked.prog.liftsFinal)) = true := by kernel_rfl
theorem j27 : ((Try.pinned.checked.prog.make == some Rows.orderMoreRow.make)) = true := by kernel_rfl
theorem j28 : ((Rows.orderMoreRow.kinds == (if Rows.orderMoreRow.domain.isEmpty then [] else Try.f6.params.toList.map fun t => match Try.pinned.checked.prog.underlying t with | some (.int k) => some k | _ => none))) = true := by kernel_rfl
theorem j29 : ((Rows.orderMoreRow.pinned == Rows.orderMoreRow.pinnedBy)) = true := by kernel_rfl
theorem j30 : ((Rows.orderMoreRow.veiled == (Try.f6.params.toList ++ Rows.orderMoreSpec.plain.varTypes Try.pinned.checked.prog ++ Try.f6.resultTypes.toList).any (Try.pinned.checked.prog.veiledRec ·))) = true := by kernel_rfl
theorem j31 : (Rows.orderMoreRow.veiledFits Try.pinned.checked.prog Try.f6.params.toList (Try.f6.params.toList ++ Rows.orderMoreSpec.plain.varTypes Try.pinned.checked.prog ++ Try.f6.resultTypes.toList)) = true := by kernel_rfl
theorem both {a b : Bool} (h : a = true) (k : b = true) : (a && b) = true := by rw [h, k]; rfl
theorem joined : joinedFacts Try.pinned.checked.prog 6 Try.f6 Rows.orderMoreSpec Rows.orderMoreRow = true := by
  unfold joinedFacts
  exact (both (both (both (both (both (both (both (both (both (both (both (both (both (both (both (both (both (both (both (both (both (both (both (both (both (both (both (both (both (both (both j0 j1) j2) j3) j4) j5) j6) j7) j8) j9) j10) j11) j12) j13) j14) j15) j16) j17) j18) j19) j20) j21) j22) j23) j24) j25) j26) j27) j28) j29) j30) j31)
theorem named : Try.pinned.checked.prog.funcNamed Rows.orderMoreRow.func = some 6 := by kernel_rfl
theorem inst : Try.f6.isInstance Try.pinned.checked.prog Rows.orderMoreRow.origin Rows.orderMoreRow.targs := of_decide_eq_true (by kernel_rfl)
theorem wrap : Try.f6.isWrapper Try.pinned.checked.prog Rows.orderMoreRow.wrapper Rows.orderMoreRow.mainSum := by unfold Func.isWrapper; first | (rw [if_pos (by decide +kernel)]; kernel_rfl) | (rw [if_neg (by decide +kernel)]; exact ⟨rfl, rfl⟩)
theorem over : Rows.orderMoreRow.holds Try.pinned (OpenSpec.ofChange Rows.orderMoreSpec) :=
  OpenClaim.holds_of_wide 6 Try.f6 rfl rfl rfl rfl rfl rfl rfl ⟨rfl, rfl, rfl, rfl, rfl⟩ rfl rfl rfl rfl rfl named Try.func6 joined inst wrap
    (fun os started H enc _ => lifted os started H enc)
theorem proved : Rows.OrderMoreSaid := over
end Go.Proofs.Ytkbipopkemfhaaa.orderMore
namespace Go.Proofs.Ytkbipopkemfhaaa
/-- The row, under a short name, for the claim. -/
theorem orderMore_holds : Rows.OrderMoreSaid := orderMore.proved
#print axioms orderMore_holds
end Go.Proofs.Ytkbipopkemfhaaa
