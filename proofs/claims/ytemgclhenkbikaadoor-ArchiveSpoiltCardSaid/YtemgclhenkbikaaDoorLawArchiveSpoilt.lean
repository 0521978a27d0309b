/- archiveSpoilt: from the function to its row. -/
import Derived.Test.YtemgclhenkbikaaDoorArX
import Derived.Test.YtemgclhenkbikaaDoorAwTb
import Derived.Test.YtemgclhenkbikaaDoorAwTd
import Derived.SizedLaws
import Derived.OpenShut
import Derived.Below
import Derived.Test.YtemgclhenkbikaaDoorRows
import Derived.Test.YtemgclhenkbikaaDoorCards
import Derived.Test.YtemgclhenkbikaaDoorTie
import Derived.LaidMore
import Derived.Lay
import Derived.SevenTiedAt
import Derived.Stop.Joined
import Derived.WalkKit
import Derived.ProofKit
set_option linter.unusedVariables false
namespace Go.Proofs.YtemgclhenkbikaaDoor.archiveSpoilt
open Go.Proofs.YtemgclhenkbikaaDoor.Aw Go.ChangeShapes
theorem own : ownKnob Tryd.prog.godebug = none := by kernel_rfl
set_option maxRecDepth 100000 in
theorem lifted (os : Os) (started : os.Started) (H : Type) (enc : TypeId × Value → H) :
    ReturnsInHanded {} Tryd.checked os 5 .any (fun w args => (Rows.archiveSpoiltSpec.pre enc Tryd.prog Tryd.f5 Rows.archiveSpoiltRow.domain false w args ∧ laidMetH Tryd.prog Rows.archiveSpoiltRow.laid w) ∧ sizedMet enc Tryd.prog Tryd.f5 (OpenSpec.ofChange Rows.archiveSpoiltSpec) false w args)
      (Rows.archiveSpoiltSpec.post enc Tryd.prog Tryd.f5 false true false false) := by
  refine returnsInHanded_of_change_and (C := Tryd.checked) (X := fun w _ => laidMetH Tryd.prog Rows.archiveSpoiltRow.laid w) (fun _ _ _ hh h => h.of_heap hh) own started (by kernel_rfl) Tryd.func5
    (ChangeSpec.witness_shaped (enc := enc) (C := Tryd.checked) (os := os) (X := fun w _ => laidMetH Tryd.prog Rows.archiveSpoiltRow.laid w) false (World.laidAll Tryd.prog os Rows.archiveSpoiltRow.laid) #[.slice none 0 0, .int .i64 0, .int .u8 0] 8 (World.laidAll_os _ _ _)
      (World.shaped_of_ZipB (by kernel_rfl) (by kernel_rfl)) (by kernel_rfl) (by kernel_rfl) (by kernel_rfl)
      (by rw [MakeChecks.laidMetH_plain _ _ _ (by kernel_rfl)]; exact laidMet_laidAll _ (by kernel_rfl) (by kernel_rfl))) ?_
  intro W base args ds gs before hval0 hW hcnd hsz0 hL0 _
  have hval : ∀ (j : Nat) t v, Tryd.f5.params[j]? = some t → args[j]? = some v → Value.okWide Tryd.prog W .any base t v := hval0
  have hW' := hW
  obtain ⟨p, q, hA0, hV, hbf, hfz, hnd⟩ := hW
  have hA : DataW.TrodAll enc Tryd.prog W 0 (fun _ => true) true Tryd.f5.params.toList args.toList ds p := hA0
  rw [Tryd.params5] at hA hval
  obtain ⟨v0, vs0, d0, ds0, p0, q0, hargs, rfl, rfl, h0, r0⟩ := trodAll_cons hA
  obtain ⟨v1, vs1, d1, ds1, p1, q1, rfl, rfl, rfl, h1, r1⟩ := trodAll_cons r0
  obtain ⟨v2, vs2, d2, ds2, p2, q2, rfl, rfl, rfl, h2, r2⟩ := trodAll_cons r1
  obtain ⟨rfl, rfl, rfl⟩ := trodAll_nil r2
  obtain rfl : args = #[v0, v1, v2] := by cases args; simp_all
  obtain ⟨rfl, rfl⟩ := trodVars_none hV
  rw [Tryd.params5] at hsz0
  have x0 := weigh_cons (W := W) hsz0
  have x1 := weigh_cons (W := W) x0.2
  have x2 := weigh_cons (W := W) x1.2
  obtain ⟨⟨n0, f0, l⟩, g0, y0⟩ := oEs _ enc W 0 base _ _ v0 d0 p0 (hval 0 _ v0 rfl rfl) h0 x0.1
  obtain ⟨n, g1, y1⟩ := oI _ enc W 0 base _ _ v1 d1 p1 (hval 1 _ v1 rfl rfl) h1 x1.1
  obtain ⟨y, g2, y2⟩ := oU8 _ enc W 0 base _ _ v2 d2 p2 (hval 2 _ v2 rfl rfl) h2 x2.1
  obtain ⟨e1, e2, hgo, hE⟩ := tabs4 hL0 (by kernel_rfl) (.tail _ (.tail _ (.head _))) (.tail _ (.head _)) (.tail _ (.tail _ (.tail _ (.tail _ (.tail _ (.head _)))))) (.tail _ (.tail _ (.tail _ (.tail _ (.head _)))))
  refine law_trueG (by kernel_rfl) (by kernel_rfl) Tryd.underlying4 rfl rfl ⟨rfl, rfl, rfl⟩ hW' hgo (z5 (Γ := [powT, debT, errT 2 e1, errT 3 e2]) (.head _) (.tail _ (.head _)) hE (some n0) f0 l n y g2 g0.2.2 g0.1) ?_
  unfold RcList
  exact ⟨v0, _, rfl, y0, by unfold RcList; exact ⟨v1, _, rfl, y1, by unfold RcList; exact ⟨v2, _, rfl, y2, by unfold RcList; rfl⟩⟩⟩
theorem j0 : (Rows.archiveSpoiltRow.wf (OpenSpec.ofChange Rows.archiveSpoiltSpec)) = true := by kernel_rfl
theorem j1 : (laidOutB Tryd.pinned.checked.prog) = true := by kernel_rfl
theorem j2 : (mapsRowed Tryd.pinned.checked.prog) = true := by kernel_rfl
theorem j3 : (Tryd.f5.params.all (Tryd.pinned.checked.prog.readableRec ·)) = true := by kernel_rfl
theorem j4 : (namedTie Tryd.pinned.checked.prog Rows.archiveSpoiltRow.named Rows.archiveSpoiltSpec.vars) = true := by kernel_rfl
theorem j5 : ((Rows.archiveSpoiltRow.stops == [])) = true := by kernel_rfl
theorem j6 : ((Tryd.pinned.checked.prog.stops == [])) = true := by kernel_rfl
theorem j7 : ((Rows.archiveSpoiltRow.knobs == [])) = true := by kernel_rfl
theorem j8 : ((Tryd.pinned.checked.prog.stopKnobs == [])) = true := by kernel_rfl
theorem j9 : ((Rows.archiveSpoiltRow.inPlace == Tryd.pinned.checked.prog.inPlace 5)) = true := by kernel_rfl
theorem j10 : ((Rows.archiveSpoiltRow.unfollowed == Tryd.pinned.checked.prog.unfollowed 5)) = true := by kernel_rfl
theorem j11 : ((Rows.archiveSpoiltRow.recurses == Tryd.pinned.checked.prog.recurses 5)) = true := by kernel_rfl
theorem j12 : ((Rows.archiveSpoiltRow.named == Tryd.pinned.checked.prog.varsNamed 5)) = true := by kernel_rfl
theorem j13 : ((Rows.archiveSpoiltRow.maps == (Tryd.f5.params.toList ++ Rows.archiveSpoiltSpec.plain.varTypes Tryd.pinned.checked.prog).any (Tryd.pinned.checked.prog.mapsRec ·))) = true := by kernel_rfl
theorem j14 : ((Rows.archiveSpoiltRow.ifaces == (Tryd.f5.params.toList ++ Rows.archiveSpoiltSpec.plain.varTypes Tryd.pinned.checked.prog).any (Tryd.pinned.checked.prog.ifacesRec ·))) = true := by kernel_rfl
theorem j15 : ((Rows.archiveSpoiltRow.mapsOut == Tryd.pinned.checked.prog.mapsAmong Tryd.f5.resultTypes.toList)) = true := by kernel_rfl
theorem j16 : ((Rows.archiveSpoiltRow.loops == (Tryd.f5.params.toList ++ Rows.archiveSpoiltSpec.plain.varTypes Tryd.pinned.checked.prog).any (Tryd.pinned.checked.prog.loopsFrom ·))) = true := by kernel_rfl
theorem j17 : ((Rows.archiveSpoiltRow.wideKeys == (Tryd.f5.params.toList ++ Rows.archiveSpoiltSpec.plain.varTypes Tryd.pinned.checked.prog ++ Tryd.f5.resultTypes.toList).any (Tryd.pinned.checked.prog.wideKeysFrom ·))) = true := by kernel_rfl
theorem j18 : (Rows.archiveSpoiltSpec.vars.all (Tryd.pinned.checked.prog.varReadable ·)) = true := by kernel_rfl
theorem j19 : (Tryd.f5.resultTypes.all (fun t => Tryd.pinned.checked.prog.readableRec t && decide (t < Tryd.pinned.checked.prog.types.size))) = true := by kernel_rfl
theorem j20 : ((Rows.archiveSpoiltRow.ifacesOut == Tryd.f5.resultTypes.toList.any (Tryd.pinned.checked.prog.ifacesRec ·))) = true := by kernel_rfl
theorem j21 : ((Rows.archiveSpoiltRow.loopsOut == Tryd.f5.resultTypes.toList.any (Tryd.pinned.checked.prog.loopsFrom ·))) = true := by kernel_rfl
theorem j22 : ((Rows.archiveSpoiltRow.plainKeys == Tryd.pinned.checked.prog.plainKeys)) = true := by kernel_rfl
theorem j23 : (Rows.archiveSpoiltRow.shortTexts.isNone) = true := by kernel_rfl
theorem j24 : (Tryd.pinned.checked.prog.stopsHeard) = true := by kernel_rfl
theorem j25 : (Tryd.pinned.checked.prog.mayEnter) = true := by kernel_rfl
theorem j26 : ((Rows.archiveSpoiltRow.lifted == Tryd.pinned.checked.prog.liftsFinal)) = true := by kernel_rfl
theorem j27 : ((Tryd.pinned.checked.prog.make == some Rows.archiveSpoiltRow.make)) = true := by kernel_rfl
theorem j28 : ((Rows.archiveSpoiltRow.kinds == (if Rows.archiveSpoiltRow.domain.isEmpty then [] else Tryd.f5.params.toList.map fun t => match Tryd.pinned.checked.prog.underlying t with | some (.int k) => some k | _ => none))) = true := by kernel_rfl
theorem j29 : ((Rows.archiveSpoiltRow.pinned == Rows.archiveSpoiltRow.pinnedBy)) = true := by kernel_rfl
theorem j30 : ((Rows.archiveSpoiltRow.veiled == (Tryd.f5.params.toList ++ Rows.archiveSpoiltSpec.plain.varTypes Tryd.pinned.checked.prog ++ Tryd.f5.resultTypes.toList).any (Tryd.pinned.checked.prog.veiledRec ·))) = true := by kernel_rfl
theorem j31 : (Rows.archiveSpoiltRow.veiledFits Tryd.pinned.checked.prog Tryd.f5.params.toList (Tryd.f5.params.toList ++ Rows.archiveSpoiltSpec.plain.varTypes Tryd.pinned.checked.prog ++ Tryd.f5.resultTypes.toList)) = true := by kernel_rfl
theorem both {a b : Bool} (h : a = true) (k : b = true) : (a && b) = true := by rw [h, k]; rfl
set_option maxRecDepth 100000 in
theorem joined : joinedFacts Tryd.pinned.checked.prog 5 Tryd.f5 Rows.archiveSpoiltSpec Rows.archiveSpoiltRow = true := by
  unfold joinedFacts
  exact (both (both (both (both (both (both (both (both (both (both (both (both (both (both (both (both (both (both (both (both (both (both (both (both (both (both (both (both (both (both (both j0 j1) j2) j3) j4) j5) j6) j7) j8) j9) j10) j11) j12) j13) j14) j15) j16) j17) j18) j19) j20) j21) j22) j23) j24) j25) j26) j27) j28) j29) j30) j31)
theorem named : Tryd.pinned.checked.prog.funcNamed Rows.archiveSpoiltRow.func = some 5 := by kernel_rfl
theorem inst : Tryd.f5.isInstance Tryd.pinned.checked.prog Rows.archiveSpoiltRow.origin Rows.archiveSpoiltRow.targs := of_decide_eq_true (by kernel_rfl)
theorem wrap : Tryd.f5.isWrapper Tryd.pinned.checked.prog Rows.archiveSpoiltRow.wrapper Rows.archiveSpoiltRow.mainSum := by unfold Func.isWrapper; first | (rw [if_pos (by decide +kernel)]; kernel_rfl) | (rw [if_neg (by decide +kernel)]; exact ⟨rfl, rfl⟩)
theorem over : Rows.archiveSpoiltRow.holds Tryd.pinned (OpenSpec.ofChange Rows.archiveSpoiltSpec) :=
  OpenClaim.holds_of_wide 5 Tryd.f5 rfl rfl rfl rfl rfl rfl rfl ⟨rfl, rfl, rfl, rfl, rfl⟩ rfl rfl rfl rfl rfl named Tryd.func5 joined inst wrap
    (fun os started H enc _ => lifted os started H enc)
theorem proved : Rows.ArchiveSpoiltSaid := over
/-- No parameter wants a stand-in; the program's own looks are off. -/
theorem plain (f : FuncId) (fn : Func) (hf : Tryd.pinned.checked.prog.funcNamed "gridhall/gridhallkeep4.ArchiveSpoilt" = some f) (hfn : Tryd.pinned.checked.prog.funcs[f]? = some fn) :
    true = Tryd.pinned.checked.prog.looks [] ∧ ∀ (j : Nat) t, fn.params[j]? = some t → Tryd.pinned.checked.prog.wantsStandIn t = false := by
  obtain rfl : f = 5 := Option.some.inj ((show Tryd.prog.funcNamed "gridhall/gridhallkeep4.ArchiveSpoilt" = some 5 by kernel_rfl).symm.trans hf) |>.symm
  obtain rfl : fn = Tryd.f5 := (Option.some.inj (Tryd.func5.symm.trans hfn)).symm
  refine ⟨by kernel_rfl, fun j t ht => ?_⟩
  rw [Tryd.params5] at ht
  have hm : t ∈ [22, 3, 5] := by simpa using Array.mem_of_getElem? ht
  have hall : ([22, 3, 5].all fun u => !Tryd.prog.wantsStandIn u) = true := by kernel_rfl
  have := List.all_eq_true.1 hall t hm
  exact (show Tryd.prog.wantsStandIn t = false by simpa using this)
theorem card : Rows.ArchiveSpoiltCardSaid :=
  Claim7.holds_tied_plain_at .later [] _ _ _ _ proved (fun _ h => by cases h) (by kernel_rfl) (fun _ h => by cases h) archiveSpoilt_row_tie rfl ⟨rfl, rfl⟩ (by kernel_rfl) rfl plain (by kernel_rfl)
end Go.Proofs.YtemgclhenkbikaaDoor.archiveSpoilt
namespace Go.Proofs.YtemgclhenkbikaaDoor
/-- The card, under a short name, for the claim. -/
theorem archiveSpoilt_holds : Rows.ArchiveSpoiltCardSaid := archiveSpoilt.card
#print axioms archiveSpoilt_holds
end Go.Proofs.YtemgclhenkbikaaDoor
