/- Forecasts: the fixed example; the law of residuals. -/
import Derived.Test.YtjaakbkneeojnaaDoorAwZl
import Derived.Test.YtjaakbkneeojnaaDoorFcaP
set_option linter.unusedVariables false
set_option linter.unusedSimpArgs false
namespace Go.Proofs.YtjaakbkneeojnaaDoor
open Go.Proofs.YtjaakbkneeojnaaDoor.Aw
attribute [local go_sem] Int.natCast_zero Int.natCast_one bne_self_eq_false beq_self_eq_true Bool.not_true Bool.not_false Option.isSome_none Option.isSome_some Aw.bkM_nil Option.getD_some Option.getD_none Nat.sub_zero Int.toNat_zero Aw.frzS Aw.frzT Aw.frzA Aw.frzL Aw.frzR Aw.frzO Aw.frzOL Aw.frzOT Aw.frzOR Aw.killS Aw.mapT Aw.mapR Aw.killM Aw.resAVs Aw.resAV Aw.quietOps Aw.wpP Aw.wpT Aw.wpS Aw.AOp.mild List.getElem?_cons_zero List.getElem?_cons_succ Bool.and_false Bool.and_self Bool.false_and Aw.opOb Aw.gdB Aw.Rnd Aw.subTm List.length_map Int.toNat_natCast and_self Aw.SeqC Aw.stops Aw.Ends Aw.looks Aw.renA Aw.renL Aw.renT Aw.renS Aw.wpO Aw.aop Aw.putTm Aw.St.ev Aw.St.put Aw.St.putO Aw.binAV Aw.intBin Aw.strBin Aw.pickAV Aw.optInt Aw.AV.strip Aw.AV.guard Aw.AV.cells Aw.gdOb Aw.AOp.opds Aw.AOp.still Aw.ptrCells Aw.St.reg Aw.fillAV Aw.fillOb Aw.elsOb Aw.splice Aw.firm Aw.cellish Aw.AV.shut Aw.shutAll Aw.Seq Aw.Blk Aw.retS_nil Aw.mapA Aw.mapL Aw.borA Aw.borOb Aw.allOb Aw.tupOf Aw.params Aw.Opd.of Array.toList Value.cells List.map_cons List.map_nil List.getD_cons_zero List.getD_cons_succ List.getD_nil List.length_cons List.length_nil List.take_succ_cons List.take_zero List.take_nil List.drop_zero List.drop_succ_cons List.drop_nil List.set_cons_zero List.set_cons_succ List.append_nil List.nil_append List.cons_append List.all_cons List.all_nil cond_false cond_true if_true if_false true_and and_true Bool.and_true Bool.true_and Option.map_some Option.map_none false_implies forall_const implies_true forall_eq imp_self Bool.cond_false_right Bool.cond_true_left beq_true beq_false Bool.not_eq_true' Bool.false_eq_true Nat.zero_add Nat.add_zero Aw.eqCells Aw.stopDraw Aw.skipS Aw.exactCap Aw.revealS Aw.srcEls Aw.srcSz
attribute [local go_sem ↓] Aw.look_nil Aw.look_ite Aw.wpL_nil Aw.wpL_op Aw.wpL_gd Aw.wpQ_nil Aw.wpQ_op Aw.wpQ_gd Aw.wpC_draw Aw.wpC_reg Aw.wpC_skip Aw.wpC_ret Aw.wpC_exit Aw.wpC_seq Aw.wpC_block Aw.wpC_loop Aw.wpC_cond Aw.stopAt_nil Aw.stopAt_cons Aw.wpD_skip Aw.wpD_ret Aw.wpD_exit Aw.wpD_region Aw.wpD_draw Aw.wpM_nil Aw.wpM_op Aw.wpM_gd Aw.wpD_seq Aw.wpD_block Aw.wpD_loop Aw.wpD_cond
/- gridhall/gridhallkeep4.forecastFact -/
def a24 : ACode :=
  (.seq (.region false [] [
     ⟨(some 0), none, (.mov (.v (.bool false)))⟩])
  (.seq (.region false [] [
     ⟨(some 9), none, (.bsl 3 1 3 [(0, (.v (.int .i64 1))), (1, (.v (.int .i64 2))), (2, (.v (.int .i64 5)))])⟩,
     ⟨(some 10), none, (.call 53 [(.t 9)])⟩,
     ⟨(some 8), none, (.mov (.t 10))⟩,
     ⟨(some 11), none, (.ext 0 (.t 8))⟩,
     ⟨(some 12), none, (.ext 1 (.t 8))⟩,
     ⟨(some 13), none, (.ext 2 (.t 8))⟩,
     ⟨(some 1), none, (.mov (.t 11))⟩,
     ⟨(some 2), none, (.mov (.t 12))⟩,
     ⟨(some 3), none, (.mov (.t 13))⟩])
  (.seq (.region false [] [
     ⟨(some 15), none, (.bsl 3 1 3 [(0, (.v (.int .i64 1))), (1, (.v (.int .i64 2))), (2, (.v (.int .i64 5)))])⟩,
     ⟨(some 16), none, (.call 31 [(.t 15), (.v (.int .i64 2))])⟩,
     ⟨(some 14), none, (.mov (.t 16))⟩,
     ⟨(some 17), none, (.ext 0 (.t 14))⟩,
     ⟨(some 18), none, (.ext 1 (.t 14))⟩,
     ⟨(some 4), none, (.mov (.t 17))⟩,
     ⟨(some 5), none, (.mov (.t 18))⟩])
  (.seq (.region false [] [
     ⟨(some 20), none, (.bsl 22 1 2 [(0, (.v (.string ⟨#[49, 47, 50]⟩))), (1, (.v (.string ⟨#[49, 47, 50]⟩)))])⟩,
     ⟨(some 21), none, (.call 25 [(.t 20)])⟩,
     ⟨(some 19), none, (.mov (.t 21))⟩,
     ⟨(some 22), none, (.ext 0 (.t 19))⟩,
     ⟨(some 23), none, (.ext 1 (.t 19))⟩,
     ⟨(some 6), none, (.mov (.t 22))⟩,
     ⟨(some 7), none, (.mov (.t 23))⟩])
  (.seq (.region false [] [
     ⟨(some 24), none, (.mov (.t 3))⟩,
     ⟨(some 25), none, (.bin .eql 25 (.t 24) (.v (.int .i64 0)))⟩,
     ⟨(some 26), none, (.mov (.t 25))⟩,
     ⟨(some 27), (some (26, true)), (.mov (.t 5))⟩,
     ⟨(some 28), (some (26, true)), (.bin .eql 25 (.t 27) (.v (.int .i64 0)))⟩,
     ⟨(some 29), none, (.pick (.t 26) (.t 28) (.v (.bool false)))⟩,
     ⟨(some 30), none, (.mov (.t 29))⟩,
     ⟨(some 31), (some (30, true)), (.mov (.t 7))⟩,
     ⟨(some 32), (some (30, true)), (.bin .eql 25 (.t 31) (.v (.int .i64 0)))⟩,
     ⟨(some 33), none, (.pick (.t 30) (.t 32) (.v (.bool false)))⟩,
     ⟨(some 34), none, (.mov (.t 33))⟩,
     ⟨(some 35), (some (34, true)), (.mov (.t 1))⟩,
     ⟨(some 36), (some (34, true)), (.bin .eql 22 (.t 35) (.v (.string ⟨#[50]⟩)))⟩,
     ⟨(some 37), none, (.pick (.t 34) (.t 36) (.v (.bool false)))⟩,
     ⟨(some 38), none, (.mov (.t 37))⟩,
     ⟨(some 39), (some (38, true)), (.mov (.t 2))⟩,
     ⟨(some 40), (some (38, true)), (.bin .eql 22 (.t 39) (.v (.string ⟨#[50, 47, 51]⟩)))⟩,
     ⟨(some 41), none, (.pick (.t 38) (.t 40) (.v (.bool false)))⟩,
     ⟨(some 42), none, (.mov (.t 41))⟩,
     ⟨(some 43), (some (42, true)), (.mov (.t 4))⟩,
     ⟨(some 44), (some (42, true)), (.bin .eql 22 (.t 43) (.v (.string ⟨#[55, 47, 50]⟩)))⟩,
     ⟨(some 45), none, (.pick (.t 42) (.t 44) (.v (.bool false)))⟩,
     ⟨(some 46), none, (.mov (.t 45))⟩,
     ⟨(some 47), (some (46, true)), (.mov (.t 6))⟩,
     ⟨(some 48), (some (46, true)), (.bin .eql 22 (.t 47) (.v (.string ⟨#[49]⟩)))⟩,
     ⟨(some 49), none, (.pick (.t 46) (.t 48) (.v (.bool false)))⟩,
     ⟨(some 0), none, (.mov (.t 49))⟩])
  .ret)))))
theorem k24 : FnIs Tryd.prog 24 50 [.t 0] a24 := ⟨_, _, Tryd.func24, rfl, by kernel_rfl, by kernel_rfl, rfl⟩
/- gridhall/gridhallkeep4.ForecastResiduals -/
def a7 : ACode :=
  (.seq (.region false [] [
     ⟨(some 2), none, (.mov (.v (.bool false)))⟩])
  (.seq (.region false [] [
     ⟨(some 16), none, (.mov (.t 0))⟩,
     ⟨(some 17), none, (.mov (.t 0))⟩,
     ⟨(some 18), none, (.len (.t 17))⟩,
     ⟨(some 19), none, (.mni (.t 18) (.v (.int .i64 12)))⟩,
     ⟨(some 20), none, (.slc 1 (.t 16) none (some (.t 19)) none)⟩,
     ⟨(some 0), none, (.mov (.t 20))⟩])
  (.seq (.region false [] [
     ⟨(some 22), none, (.mov (.t 0))⟩,
     ⟨(some 23), none, (.call 23 [(.t 22)])⟩,
     ⟨(some 21), none, (.mov (.t 23))⟩,
     ⟨(some 24), none, (.ext 0 (.t 21))⟩,
     ⟨(some 25), none, (.ext 1 (.t 21))⟩,
     ⟨(some 3), none, (.mov (.t 24))⟩,
     ⟨(some 4), none, (.mov (.t 25))⟩])
  (.seq (.seq (.region false [] [
     ⟨(some 26), none, (.mov (.t 4))⟩,
     ⟨(some 27), none, (.bin .neq 25 (.t 26) (.v (.int .i64 0)))⟩])
  (.cond (.t 27)
    (.seq (.region false [] [
       ⟨(some 28), none, (.call 24 [])⟩,
       ⟨(some 29), none, (.mov (.t 28))⟩,
       ⟨(some 30), (some (29, true)), (.mov (.t 3))⟩,
       ⟨(some 31), (some (29, true)), (.len (.t 30))⟩,
       ⟨(some 32), (some (29, true)), (.bin .eql 3 (.t 31) (.v (.int .i64 0)))⟩,
       ⟨(some 33), none, (.pick (.t 29) (.t 32) (.v (.bool false)))⟩,
       ⟨(some 2), none, (.mov (.t 33))⟩])
    .ret)
    .skip))
  (.seq (.seq (.region false [] [
     ⟨(some 34), none, (.mov (.t 3))⟩,
     ⟨(some 35), none, (.len (.t 34))⟩,
     ⟨(some 36), none, (.mov (.t 0))⟩,
     ⟨(some 37), none, (.len (.t 36))⟩,
     ⟨(some 38), none, (.bin .neq 3 (.t 35) (.t 37))⟩])
  (.cond (.t 38)
    (.seq (.region false [] [
       ⟨(some 2), none, (.mov (.v (.bool false)))⟩])
    .ret)
    .skip))
  (.seq (.region false [] [
     ⟨(some 5), none, (.mov (.v (.slice none 0 0)))⟩])
  (.seq (.seq (.region false [] [
     ⟨(some 39), none, (.mov (.t 3))⟩,
     ⟨(some 40), none, (.len (.t 39))⟩,
     ⟨(some 41), none, (.mov (.v (.int .i64 0)))⟩])
  (.block 0 (.loop (.seq (.region false [] [
       ⟨(some 42), none, (.bin .lss 3 (.t 41) (.t 40))⟩])
    (.seq (.cond (.t 42)
      .skip
      (.exit 0))
    (.seq (.block 1 (.seq (.region false [] [
        ⟨(some 43), none, (.mov (.t 41))⟩,
        ⟨(some 44), none, (.idx 1 (.t 39) (.t 41))⟩,
        ⟨(some 45), none, (.load 1 false (.t 44))⟩,
        ⟨(some 6), none, (.mov (.t 43))⟩,
        ⟨(some 7), none, (.mov (.t 45))⟩])
     (.seq (.region false [] [
        ⟨(some 47), none, (.mov (.t 6))⟩,
        ⟨(some 48), none, (.call 20 [(.t 47), (.v (.int .i64 1))])⟩,
        ⟨(some 46), none, (.mov (.t 48))⟩,
        ⟨(some 49), none, (.ext 0 (.t 46))⟩,
        ⟨(some 50), none, (.ext 1 (.t 46))⟩,
        ⟨(some 8), none, (.mov (.t 49))⟩,
        ⟨(some 9), none, (.mov (.t 50))⟩])
     (.seq (.region false [] [
        ⟨(some 52), none, (.mov (.t 8))⟩,
        ⟨(some 53), none, (.mov (.t 7))⟩,
        ⟨(some 54), none, (.call 21 [(.t 52), (.t 53)])⟩,
        ⟨(some 51), none, (.mov (.t 54))⟩,
        ⟨(some 55), none, (.ext 0 (.t 51))⟩,
        ⟨(some 56), none, (.ext 1 (.t 51))⟩,
        ⟨(some 10), none, (.mov (.t 55))⟩,
        ⟨(some 11), none, (.mov (.t 56))⟩])
     (.seq (.seq (.region false [] [
        ⟨(some 57), none, (.mov (.t 9))⟩,
        ⟨(some 58), none, (.bin .neq 25 (.t 57) (.v (.int .i64 0)))⟩,
        ⟨(some 59), none, (.mov (.t 58))⟩,
        ⟨(some 60), (some (59, false)), (.mov (.t 11))⟩,
        ⟨(some 61), (some (59, false)), (.bin .neq 25 (.t 60) (.v (.int .i64 0)))⟩,
        ⟨(some 62), none, (.pick (.t 59) (.v (.bool true)) (.t 61))⟩])
     (.cond (.t 62)
       (.seq (.region false [] [
          ⟨(some 2), none, (.mov (.v (.bool false)))⟩])
       .ret)
       .skip))
     (.region false [] [
        ⟨(some 63), none, (.mov (.t 5))⟩,
        ⟨(some 64), none, (.mov (.t 10))⟩,
        ⟨(some 65), none, (.bsl 22 1 1 [(0, (.t 64))])⟩,
        ⟨(some 66), none, (.app 22 1 16 (.string ⟨#[]⟩) (.t 63) (.t 65))⟩,
        ⟨(some 5), none, (.mov (.t 66))⟩]))))))
    (.region false [] [
       ⟨(some 67), none, (.bin .add 3 (.t 41) (.v (.int .i64 1)))⟩,
       ⟨(some 41), none, (.mov (.t 67))⟩])))))))
  (.seq (.region false [] [
     ⟨(some 69), none, (.mov (.t 3))⟩,
     ⟨(some 70), none, (.call 25 [(.t 69)])⟩,
     ⟨(some 68), none, (.mov (.t 70))⟩,
     ⟨(some 71), none, (.ext 0 (.t 68))⟩,
     ⟨(some 72), none, (.ext 1 (.t 68))⟩,
     ⟨(some 12), none, (.mov (.t 71))⟩,
     ⟨(some 13), none, (.mov (.t 72))⟩])
  (.seq (.region false [] [
     ⟨(some 74), none, (.mov (.t 5))⟩,
     ⟨(some 75), none, (.call 25 [(.t 74)])⟩,
     ⟨(some 73), none, (.mov (.t 75))⟩,
     ⟨(some 76), none, (.ext 0 (.t 73))⟩,
     ⟨(some 77), none, (.ext 1 (.t 73))⟩,
     ⟨(some 14), none, (.mov (.t 76))⟩,
     ⟨(some 15), none, (.mov (.t 77))⟩])
  (.seq (.region false [] [
     ⟨(some 78), none, (.call 24 [])⟩,
     ⟨(some 79), none, (.mov (.t 78))⟩,
     ⟨(some 80), (some (79, true)), (.mov (.t 13))⟩,
     ⟨(some 81), (some (79, true)), (.bin .eql 25 (.t 80) (.v (.int .i64 0)))⟩,
     ⟨(some 82), none, (.pick (.t 79) (.t 81) (.v (.bool false)))⟩,
     ⟨(some 83), none, (.mov (.t 82))⟩,
     ⟨(some 84), (some (83, true)), (.mov (.t 15))⟩,
     ⟨(some 85), (some (83, true)), (.bin .eql 25 (.t 84) (.v (.int .i64 0)))⟩,
     ⟨(some 86), none, (.pick (.t 83) (.t 85) (.v (.bool false)))⟩,
     ⟨(some 87), none, (.mov (.t 86))⟩,
     ⟨(some 88), (some (87, true)), (.mov (.t 12))⟩,
     ⟨(some 89), (some (87, true)), (.bin .eql 22 (.t 88) (.v (.string ⟨#[48]⟩)))⟩,
     ⟨(some 90), none, (.pick (.t 87) (.t 89) (.v (.bool false)))⟩,
     ⟨(some 91), none, (.mov (.t 90))⟩,
     ⟨(some 92), (some (91, true)), (.mov (.t 14))⟩,
     ⟨(some 93), (some (91, true)), (.bin .eql 22 (.t 92) (.v (.string ⟨#[48]⟩)))⟩,
     ⟨(some 94), none, (.pick (.t 91) (.t 93) (.v (.bool false)))⟩,
     ⟨(some 2), none, (.mov (.t 94))⟩])
  .ret))))))))))
theorem k7 : FnIs Tryd.prog 7 95 [.t 2] a7 := ⟨_, _, Tryd.func7, rfl, by kernel_rfl, by kernel_rfl, rfl⟩

theorem ex_line : lineS [1, 2, 5] = ([50], [50, 47, 51], 0) := by
  have h1 : lineE [1, 2, 5] = 0 := by decide
  have h2 : slopeR [1, 2, 5] = 2 := by decide +kernel
  have h3 : heightR [1, 2, 5] = 2 / 3 := by decide +kernel
  unfold lineS
  rw [if_neg (by simp [h1]), h2, h3, (txt_frac (l := [50]) (r := 2) (by decide) (by decide +kernel)).1, (txt_frac (l := [50, 47, 51]) (r := 2 / 3) (by decide) (by decide +kernel)).1]
theorem ex_mean : meanS [1, 2, 5] 2 = ([55, 47, 50], 0) := by
  have h1 : checkV [1, 2, 5] = 0 := by decide
  have h2 : meanR [1, 2, 5] 2 = 7 / 2 := by decide +kernel
  have h3 := txt_frac (l := [55, 47, 50]) (r := 7 / 2) (by decide) (by decide +kernel)
  unfold meanS
  rw [if_neg (by simp [h1]), if_neg (by decide), h2, toldR_fits h3.2, h3.1]
theorem half_ok : txtR (1 / 2) = [49, 47, 50] ∧ fitsR (1 / 2) := txt_frac (by decide) (by decide +kernel)
theorem one_ok : txtR 1 = [49] ∧ fitsR 1 := txt_frac (by decide) (by decide +kernel)
theorem zero_ok : txtR 0 = [48] ∧ fitsR 0 := txt_frac (by decide) (by decide +kernel)
theorem ex_sum : sumR [1 / 2, 1 / 2] = 1 := by decide +kernel
theorem ex_fits : ∀ i, i ≤ [(1 / 2 : Rat), 1 / 2].length → fitsR (sumR ([(1 / 2 : Rat), 1 / 2].take i)) := fun i hi => by
  have hi : i ≤ 2 := hi
  have h3 : i = 0 ∨ i = 1 ∨ i = 2 := by omega
  rcases h3 with rfl | rfl | rfl
  · exact zero_ok.2
  · rw [show sumR ([(1 / 2 : Rat), 1 / 2].take 1) = 1 / 2 by decide +kernel]; exact half_ok.2
  · rw [show sumR ([(1 / 2 : Rat), 1 / 2].take 2) = 1 by decide +kernel]; exact one_ok.2
theorem ex_sumS (nl' fl) : Aw.Spec Tryd.prog 25 [] [.imm nl' fl 1 [[S ⟨#[49, 47, 50]⟩], [S ⟨#[49, 47, 50]⟩]]] (Gives (· = .tup [S (bA [49]), I 0])) := by
  have h := s25 nl' fl [1 / 2, 1 / 2] (by decide) (fun r hr => by
    rcases List.mem_cons.1 hr with rfl | hr
    · exact half_ok.2
    · rw [List.mem_singleton.1 hr]; exact half_ok.2) ex_fits
  have e : List.map tx [1 / 2, 1 / 2] = [[S ⟨#[49, 47, 50]⟩], [S ⟨#[49, 47, 50]⟩]] := by
    show [[S (bA (txtR (1 / 2)))], [S (bA (txtR (1 / 2)))]] = _
    rw [half_ok.1]; rfl
  rw [e, ex_sum, one_ok.1] at h
  exact h
set_option maxRecDepth 20000 in
theorem s24 : Aw.Spec Tryd.prog 24 [] [] (Gives (· = B true)) := by
  refine Spec.shut (Post := fun rg v => v = B true) ?_ fun rg v h => by subst h; exact ⟨rfl, rfl, rfl⟩
  refine Aw.Spec.regsW k24 rfl rfl fun E hn hnp hp => ?_
  unfold a24
  refine AWp.ofD [] [] hn mixed rfl ?_
  simp (config := { maxSteps := 2000000 }) only [go_sem, ↓reduceIte, Int.reduceToNat, Nat.reduceMul, Int.reduceBEq, Int.reduceBNe, Nat.reduceBEq, Nat.reduceAdd, Nat.reduceSub, Nat.reduceLeDiff, Nat.reduceEqDiff, Nat.reduceLT, reduceCtorEq]
  refine AWpL.calle (s53 _ _ [1, 2, 5] (by decide)) rfl (by rw [hn]; rfl) (by simp (config := { maxSteps := 2000000 }) only [go_sem, ↓reduceIte, Int.reduceToNat, Nat.reduceMul, Int.reduceBEq, Int.reduceBNe, Nat.reduceBEq, Nat.reduceAdd, Nat.reduceSub, Nat.reduceLeDiff, Nat.reduceEqDiff, Nat.reduceLT, reduceCtorEq]) (AWpL.ofM hn rfl ?_)
  rw [ex_line]
  simp (config := { maxSteps := 2000000 }) only [go_sem, ↓reduceIte, Int.reduceToNat, Nat.reduceMul, Int.reduceBEq, Int.reduceBNe, Nat.reduceBEq, Nat.reduceAdd, Nat.reduceSub, Nat.reduceLeDiff, Nat.reduceEqDiff, Nat.reduceLT, reduceCtorEq]
  refine AWpL.calle (s31 _ _ [1, 2, 5] 2 (by decide)) rfl (by rw [hn]; rfl) (by simp (config := { maxSteps := 2000000 }) only [go_sem, ↓reduceIte, Int.reduceToNat, Nat.reduceMul, Int.reduceBEq, Int.reduceBNe, Nat.reduceBEq, Nat.reduceAdd, Nat.reduceSub, Nat.reduceLeDiff, Nat.reduceEqDiff, Nat.reduceLT, reduceCtorEq]) (AWpL.ofM hn rfl ?_)
  rw [ex_mean]
  simp (config := { maxSteps := 2000000 }) only [go_sem, ↓reduceIte, Int.reduceToNat, Nat.reduceMul, Int.reduceBEq, Int.reduceBNe, Nat.reduceBEq, Nat.reduceAdd, Nat.reduceSub, Nat.reduceLeDiff, Nat.reduceEqDiff, Nat.reduceLT, reduceCtorEq]
  refine AWpL.calle (ex_sumS _ _) rfl (by rw [hn]; rfl) (by simp (config := { maxSteps := 2000000 }) only [go_sem, ↓reduceIte, Int.reduceToNat, Nat.reduceMul, Int.reduceBEq, Int.reduceBNe, Nat.reduceBEq, Nat.reduceAdd, Nat.reduceSub, Nat.reduceLeDiff, Nat.reduceEqDiff, Nat.reduceLT, reduceCtorEq]) (AWpL.ofM hn rfl ?_)
  have e1 : (bA [50]).toList == (⟨#[50]⟩ : ByteArray).toList := by rw [bA_toList, Lib.toList_data]; rfl
  have e2 : (bA [50, 47, 51]).toList == (⟨#[50, 47, 51]⟩ : ByteArray).toList := by rw [bA_toList, Lib.toList_data]; rfl
  have e3 : (bA [55, 47, 50]).toList == (⟨#[55, 47, 50]⟩ : ByteArray).toList := by rw [bA_toList, Lib.toList_data]; rfl
  have e4 : (bA [49]).toList == (⟨#[49]⟩ : ByteArray).toList := by rw [bA_toList, Lib.toList_data]; rfl
  simp (config := { maxSteps := 2000000 }) only [go_sem, ↓reduceIte, Int.reduceToNat, Nat.reduceMul, Int.reduceBEq, Int.reduceBNe, Nat.reduceBEq, Nat.reduceAdd, Nat.reduceSub, Nat.reduceLeDiff, Nat.reduceEqDiff, Nat.reduceLT, reduceCtorEq, e1, e2, e3, e4]
  refine Retn.ret (π := []) hp hnp ⟨rfl, ?_⟩
  simp (config := { maxSteps := 2000000 }) only [go_sem, ↓reduceIte, Int.reduceToNat, Nat.reduceMul, Int.reduceBEq, Int.reduceBNe, Nat.reduceBEq, Nat.reduceAdd, Nat.reduceSub, Nat.reduceLeDiff, Nat.reduceEqDiff, Nat.reduceLT, reduceCtorEq]
theorem cut_map {α β : Type} (f : α → β) (l : List α) (k : Nat) : List.take (min (l.length : Int) k).toNat (l.map f) = (l.take k).map f := by
  rw [List.map_take]
  rcases Nat.lt_or_ge l.length k with h | h
  · rw [List.take_of_length_le (by rw [List.length_map]; omega), List.take_of_length_le (by rw [List.length_map]; omega)]
  · rw [show (min (l.length : Int) k).toNat = k by omega]
theorem resL_get (l : List Int) (i : Nat) (h : i < (resL l).length) : (resL l)[i] = resR l i := by simp [resL, resTake]
theorem resL_fits {l : List Int} (h0 : lineE l = 0) : (∀ r ∈ resL l, fitsR r) ∧ (∀ i, i ≤ (resL l).length → fitsR (sumR ((resL l).take i))) ∧ sumR (resL l) = 0 := by
  obtain ⟨hv, h48, h22⟩ := lineE_ok h0
  refine ⟨fun r hr => ?_, fun i hi => ?_, (sum_zero h22 h48).1⟩
  · unfold resL resTake at hr
    obtain ⟨i, hi, rfl⟩ := List.mem_map.1 hr
    exact (res_fits hv h22 h48 (List.mem_range.1 hi)).1
  · have hi : i ≤ l.length := by rw [show (resL l).length = l.length from resTake_len l _] at hi; exact hi
    have e : (resL l).take i = resTake l i := by
      unfold resL resTake
      rw [← List.map_take, List.take_range, show min i l.length = i by omega]
    rw [e]
    exact (sum_fits hv h22 h48 hi).1
theorem plL_fits {l : List Int} (h0 : lineE l = 0) : (∀ r ∈ plTake l l.length, fitsR r) ∧ (∀ i, i ≤ (plTake l l.length).length → fitsR (sumR ((plTake l l.length).take i))) ∧ sumR (plTake l l.length) = 0 := by
  obtain ⟨hv, h48, h22⟩ := lineE_ok h0
  refine ⟨fun r hr => ?_, fun i hi => ?_, (sum_zero h22 h48).2⟩
  · unfold plTake at hr
    obtain ⟨i, hi, rfl⟩ := List.mem_map.1 hr
    exact (res_fits hv h22 h48 (List.mem_range.1 hi)).2
  · have hi : i ≤ l.length := by rw [plTake_len] at hi; exact hi
    have e : (plTake l l.length).take i = plTake l i := by
      unfold plTake
      rw [← List.map_take, List.take_range, show min i l.length = i by omega]
    rw [e]
    exact (sum_fits hv h22 h48 hi).2
theorem of_int (i : Int) (h0 : -9223372036854775807 ≤ i) (h1 : i ≤ 9223372036854775807) : ofQ i 1 = (txtR (i : Rat), 0) ∧ fitsR (i : Rat) := by
  have e : ((i : Rat) / ((1 : Int) : Rat)) = (i : Rat) := by
    rw [show ((1 : Int) : Rat) = 1 from rfl]; grind
  have hf : fitsR (i : Rat) := by
    rw [← e]
    exact of_fits (by decide) (by omega) (by decide)
  rw [ofQ_r, if_neg (by decide), e, toldR_fits hf]
  exact ⟨rfl, hf⟩
set_option maxRecDepth 20000 in
set_option maxHeartbeats 1000000 in
theorem s7 (nl' fl) (l : List Int) (hl : l.length ≤ 9223372036854775807) : Aw.Spec Tryd.prog 7 [] [ints nl' fl l] (Gives (· = B true)) := by
  refine Spec.shut (Post := fun rg v => v = B true) ?_ fun rg v h => by subst h; exact ⟨rfl, rfl, rfl⟩
  refine Aw.Spec.regsW k7 rfl rfl fun E hn hnp hp => ?_
  unfold a7
  have pin : ∀ r, E.pin r = none := fun r => hp.none hnp (Nat.zero_le _)
  refine AWp.ofD [] [] hn mixed rfl ?_
  have hcut := cut_map icn l 12
  have hcut : List.take (min (l.length : Int) 12).toNat (l.map icn) = (l.take 12).map icn := hcut
  have hv12 : (l.take 12).length ≤ 12 := by rw [List.length_take]; omega
  simp (config := { maxSteps := 2000000 }) only [go_sem, ↓reduceIte, Int.reduceToNat, Nat.reduceMul, Int.reduceBEq, Int.reduceBNe, Nat.reduceBEq, Nat.reduceAdd, Nat.reduceSub, Nat.reduceLeDiff, Nat.reduceEqDiff, Nat.reduceLT, reduceCtorEq, hcut]
  generalize l.take 12 = v at *
  clear hcut
  refine ⟨by omega, ?_⟩
  (refine AWpL.callA [] (s23 nl' false v (by omega)) rfl rfl (by rw [hn]; rfl) rfl (fun r hr => .inr (pin r)) fun rg v hv => ?_; obtain ⟨rfl, rfl⟩ := hv; refine ⟨Nat.le_refl _, AWpL.ofM hn rfl ?_⟩)
  simp (config := { maxSteps := 2000000 }) only [go_sem, ↓reduceIte, Int.reduceToNat, Nat.reduceMul, Int.reduceBEq, Int.reduceBNe, Nat.reduceBEq, Nat.reduceAdd, Nat.reduceSub, Nat.reduceLeDiff, Nat.reduceEqDiff, Nat.reduceLT, reduceCtorEq, Aw.retS, Aw.retRg, Aw.kpM, Aw.bkM, Aw.pos, Aw.isBox]
  refine ⟨fun h => ?_, fun h => ?_⟩
  · have h0 : lineE v ≠ 0 := by simpa using h
    have hr : resS v = [] := by unfold resS; rw [if_pos h0]
    rw [hr]
    (refine AWpL.calle (s24) rfl (by rw [hn]; rfl) (by simp (config := { maxSteps := 2000000 }) only [go_sem, ↓reduceIte, Int.reduceToNat, Nat.reduceMul, Int.reduceBEq, Int.reduceBNe, Nat.reduceBEq, Nat.reduceAdd, Nat.reduceSub, Nat.reduceLeDiff, Nat.reduceEqDiff, Nat.reduceLT, reduceCtorEq]) (AWpL.ofM hn rfl ?_); simp (config := { maxSteps := 2000000 }) only [go_sem, ↓reduceIte, Int.reduceToNat, Nat.reduceMul, Int.reduceBEq, Int.reduceBNe, Nat.reduceBEq, Nat.reduceAdd, Nat.reduceSub, Nat.reduceLeDiff, Nat.reduceEqDiff, Nat.reduceLT, reduceCtorEq])
    refine Retn.ret (π := []) hp hnp ⟨rfl, ?_⟩
    simp (config := { maxSteps := 2000000 }) only [go_sem, ↓reduceIte, Int.reduceToNat, Nat.reduceMul, Int.reduceBEq, Int.reduceBNe, Nat.reduceBEq, Nat.reduceAdd, Nat.reduceSub, Nat.reduceLeDiff, Nat.reduceEqDiff, Nat.reduceLT, reduceCtorEq]
  have h0 : lineE v = 0 := by simpa using h
  obtain ⟨hv, h48, h22⟩ := lineE_ok h0
  have hr : resS v = resL v := by unfold resS; rw [if_neg (by simp [h0])]
  have hlen : (resL v).length = v.length := resTake_len v _
  rw [hr]
  refine ⟨fun h2 => absurd h2 (by simp [hlen]), fun h2 => ?_⟩
  refine AWp.weak (weak_nil 5 22 1 rfl) ?_
  refine AWp.loop (fun k s => ∃ i : Nat, i + k = v.length ∧ Weak E s ⟨[(3, .imm none false 1 ((resL v).map tx)), (5, .hnd 0 0 i i false), (39, .imm none false 1 ((resL v).map tx)), (40, I v.length), (41, I i)], [.arr 22 1 ((plTake v i).map tx)]⟩) (n := v.length)
    ⟨0, by omega, weak_to [0] hp hnp rfl (by simp (config := { maxSteps := 2000000 }) only [go_sem, ↓reduceIte, Int.reduceToNat, Nat.reduceMul, Int.reduceBEq, Int.reduceBNe, Nat.reduceBEq, Nat.reduceAdd, Nat.reduceSub, Nat.reduceLeDiff, Nat.reduceEqDiff, Nat.reduceLT, reduceCtorEq, Aw.pos, hlen] <;> rfl) (by simp (config := { maxSteps := 2000000 }) only [go_sem, ↓reduceIte, Int.reduceToNat, Nat.reduceMul, Int.reduceBEq, Int.reduceBNe, Nat.reduceBEq, Nat.reduceAdd, Nat.reduceSub, Nat.reduceLeDiff, Nat.reduceEqDiff, Nat.reduceLT, reduceCtorEq, Aw.renR, Aw.pos] <;> rfl)⟩ ?_
  rintro k s ⟨i, hi, hw⟩
  refine AWp.weak hw (AWp.ofD [] [] hn mixed rfl ?_)
  rcases Nat.lt_or_ge i v.length with hlt | hge
  · have d0 : decide ((i : Int) < (v.length : Int)) = true := decide_eq_true (by omega)
    have hlt2 : i < (resL v).length := by omega
    have d1 : ((resL v).map tx).getD i [] = tx (resR v i) := by
      rw [getD_map tx hlt2]
      rw [resL_get]
    have d2 : IntKind.i64.wrap ((i : Int) + 1) = ((i + 1 : Nat) : Int) := by rw [w64 (by omega) (by omega)]; rfl
    obtain ⟨f1, f2⟩ := res_fits hv h22 h48 hlt
    obtain ⟨o1, o2⟩ := of_int i (by omega) (by omega)
    have hm : twoQ mulQ (txtR ((i : Int) : Rat)) (txtR (resR v i)) = (txtR (plR v i), 0) := by rw [mul_txt o2 f1]; exact toldR_fits f2
    have hap := congrArg (List.map tx) (plTake_succ v i)
    rw [List.map_append] at hap
    have hap : (plTake v i).map tx ++ [tx (plR v i)] = (plTake v (i + 1)).map tx := hap
    have hln : ((plTake v i).map tx).length = i := by rw [List.length_map, plTake_len]
    simp (config := { maxSteps := 2000000 }) only [go_sem, ↓reduceIte, Int.reduceToNat, Nat.reduceMul, Int.reduceBEq, Int.reduceBNe, Nat.reduceBEq, Nat.reduceAdd, Nat.reduceSub, Nat.reduceLeDiff, Nat.reduceEqDiff, Nat.reduceLT, reduceCtorEq, d0, d1]
    (repeat (refine And.intro (by first | omega | (refine ⟨by omega, by omega⟩) | (refine ⟨by omega, by omega, by omega⟩) | (simp only [List.length_map, List.length_range, List.length_append, List.length_cons, List.length_nil, List.length_replicate, List.length_set]; omega) | (simp; omega) | (intro hgd; cases hgd) | (intro hgd; refine ⟨hgd, ?_⟩; first | omega | (refine ⟨by omega, by omega⟩) | (simp; omega))) ?_))
    refine AWpL.calle (s20 i 1 (by omega) (by omega) (by decide) (by decide)) rfl (by rw [hn]; rfl) (by simp (config := { maxSteps := 2000000 }) only [go_sem, ↓reduceIte, Int.reduceToNat, Nat.reduceMul, Int.reduceBEq, Int.reduceBNe, Nat.reduceBEq, Nat.reduceAdd, Nat.reduceSub, Nat.reduceLeDiff, Nat.reduceEqDiff, Nat.reduceLT, reduceCtorEq]) (AWpL.ofM hn rfl ?_)
    rw [o1]
    simp (config := { maxSteps := 2000000 }) only [go_sem, ↓reduceIte, Int.reduceToNat, Nat.reduceMul, Int.reduceBEq, Int.reduceBNe, Nat.reduceBEq, Nat.reduceAdd, Nat.reduceSub, Nat.reduceLeDiff, Nat.reduceEqDiff, Nat.reduceLT, reduceCtorEq]
    refine AWpL.calle (s21 _ _ (txtR_len o2) (txtR_len f1)) rfl (by rw [hn]; rfl) (by simp (config := { maxSteps := 2000000 }) only [go_sem, ↓reduceIte, Int.reduceToNat, Nat.reduceMul, Int.reduceBEq, Int.reduceBNe, Nat.reduceBEq, Nat.reduceAdd, Nat.reduceSub, Nat.reduceLeDiff, Nat.reduceEqDiff, Nat.reduceLT, reduceCtorEq]) (AWpL.ofM hn rfl ?_)
    rw [hm]
    simp (config := { maxSteps := 2000000 }) only [go_sem, ↓reduceIte, Int.reduceToNat, Nat.reduceMul, Int.reduceBEq, Int.reduceBNe, Nat.reduceBEq, Nat.reduceAdd, Nat.reduceSub, Nat.reduceLeDiff, Nat.reduceEqDiff, Nat.reduceLT, reduceCtorEq]
    refine AWpL.app (r := 0) (els := (plTake v i).map tx) (ys := [tx (plR v i)]) rfl rfl rfl rfl (by rw [hn]; rfl) hln.symm (pin 0) (by simp (config := { maxSteps := 2000000 }) only [go_sem, ↓reduceIte, Int.reduceToNat, Nat.reduceMul, Int.reduceBEq, Int.reduceBNe, Nat.reduceBEq, Nat.reduceAdd, Nat.reduceSub, Nat.reduceLeDiff, Nat.reduceEqDiff, Nat.reduceLT, reduceCtorEq, Nat.le_refl]) (fun el hm y hy => by
      rw [List.mem_singleton.1 hm] at hy
      rw [List.mem_singleton.1 hy]; rfl) (by simp only [List.length_cons, List.length_nil]; omega) (by simp only [List.length_cons, List.length_nil]; omega) (AWpL.ofM hn rfl ?_)
    simp (config := { maxSteps := 2000000 }) only [go_sem, ↓reduceIte, Int.reduceToNat, Nat.reduceMul, Int.reduceBEq, Int.reduceBNe, Nat.reduceBEq, Nat.reduceAdd, Nat.reduceSub, Nat.reduceLeDiff, Nat.reduceEqDiff, Nat.reduceLT, reduceCtorEq, hap, d2]
    (repeat (refine And.intro (by first | omega | (refine ⟨by omega, by omega⟩) | (refine ⟨by omega, by omega, by omega⟩) | (simp only [List.length_map, List.length_range, List.length_append, List.length_cons, List.length_nil, List.length_replicate, List.length_set]; omega) | (simp; omega) | (intro hgd; cases hgd) | (intro hgd; refine ⟨hgd, ?_⟩; first | omega | (refine ⟨by omega, by omega⟩) | (simp; omega))) ?_))
    exact ⟨k - 1, by omega, i + 1, by omega, weak_to [0] hp hnp rfl (by simp (config := { maxSteps := 2000000 }) only [go_sem, ↓reduceIte, Int.reduceToNat, Nat.reduceMul, Int.reduceBEq, Int.reduceBNe, Nat.reduceBEq, Nat.reduceAdd, Nat.reduceSub, Nat.reduceLeDiff, Nat.reduceEqDiff, Nat.reduceLT, reduceCtorEq, Aw.pos, d2] <;> rfl) (by simp (config := { maxSteps := 2000000 }) only [go_sem, ↓reduceIte, Int.reduceToNat, Nat.reduceMul, Int.reduceBEq, Int.reduceBNe, Nat.reduceBEq, Nat.reduceAdd, Nat.reduceSub, Nat.reduceLeDiff, Nat.reduceEqDiff, Nat.reduceLT, reduceCtorEq, Aw.renR, Aw.pos] <;> rfl)⟩
  have d0 : decide ((i : Int) < (v.length : Int)) = false := decide_eq_false (by omega)
  have hi2 : i = v.length := by omega
  subst hi2
  simp (config := { maxSteps := 2000000 }) only [go_sem, ↓reduceIte, Int.reduceToNat, Nat.reduceMul, Int.reduceBEq, Int.reduceBNe, Nat.reduceBEq, Nat.reduceAdd, Nat.reduceSub, Nat.reduceLeDiff, Nat.reduceEqDiff, Nat.reduceLT, reduceCtorEq, d0]
  refine AWpL.weak (weak_freeze 0 rfl (pin 0) (by simp (config := { maxSteps := 2000000 }) only [go_sem, ↓reduceIte, Int.reduceToNat, Nat.reduceMul, Int.reduceBEq, Int.reduceBNe, Nat.reduceBEq, Nat.reduceAdd, Nat.reduceSub, Nat.reduceLeDiff, Nat.reduceEqDiff, Nat.reduceLT, reduceCtorEq, Nat.le_refl, List.length_map, plTake_len])) ?_
  have htk : List.take v.length ((plTake v v.length).map tx) = (plTake v v.length).map tx := List.take_of_length_le (by rw [List.length_map, plTake_len]; exact Nat.le_refl _)
  obtain ⟨r1, r2, r3⟩ := resL_fits h0
  obtain ⟨p1, p2, p3⟩ := plL_fits h0
  simp (config := { maxSteps := 2000000 }) only [go_sem, ↓reduceIte, Int.reduceToNat, Nat.reduceMul, Int.reduceBEq, Int.reduceBNe, Nat.reduceBEq, Nat.reduceAdd, Nat.reduceSub, Nat.reduceLeDiff, Nat.reduceEqDiff, Nat.reduceLT, reduceCtorEq, htk]
  refine AWpL.calle (s25 none false (resL v) (by omega) r1 r2) rfl (by rw [hn]; rfl) (by simp (config := { maxSteps := 2000000 }) only [go_sem, ↓reduceIte, Int.reduceToNat, Nat.reduceMul, Int.reduceBEq, Int.reduceBNe, Nat.reduceBEq, Nat.reduceAdd, Nat.reduceSub, Nat.reduceLeDiff, Nat.reduceEqDiff, Nat.reduceLT, reduceCtorEq]) (AWpL.ofM hn rfl ?_)
  rw [r3, zero_ok.1]
  simp (config := { maxSteps := 2000000 }) only [go_sem, ↓reduceIte, Int.reduceToNat, Nat.reduceMul, Int.reduceBEq, Int.reduceBNe, Nat.reduceBEq, Nat.reduceAdd, Nat.reduceSub, Nat.reduceLeDiff, Nat.reduceEqDiff, Nat.reduceLT, reduceCtorEq]
  refine AWpL.calle (s25 _ _ (plTake v v.length) (by rw [plTake_len]; omega) p1 p2) rfl (by rw [hn]; rfl) (by simp (config := { maxSteps := 2000000 }) only [go_sem, ↓reduceIte, Int.reduceToNat, Nat.reduceMul, Int.reduceBEq, Int.reduceBNe, Nat.reduceBEq, Nat.reduceAdd, Nat.reduceSub, Nat.reduceLeDiff, Nat.reduceEqDiff, Nat.reduceLT, reduceCtorEq]) (AWpL.ofM hn rfl ?_)
  rw [p3, zero_ok.1]
  simp (config := { maxSteps := 2000000 }) only [go_sem, ↓reduceIte, Int.reduceToNat, Nat.reduceMul, Int.reduceBEq, Int.reduceBNe, Nat.reduceBEq, Nat.reduceAdd, Nat.reduceSub, Nat.reduceLeDiff, Nat.reduceEqDiff, Nat.reduceLT, reduceCtorEq]
  (refine AWpL.calle (s24) rfl (by rw [hn]; rfl) (by simp (config := { maxSteps := 2000000 }) only [go_sem, ↓reduceIte, Int.reduceToNat, Nat.reduceMul, Int.reduceBEq, Int.reduceBNe, Nat.reduceBEq, Nat.reduceAdd, Nat.reduceSub, Nat.reduceLeDiff, Nat.reduceEqDiff, Nat.reduceLT, reduceCtorEq]) (AWpL.ofM hn rfl ?_); simp (config := { maxSteps := 2000000 }) only [go_sem, ↓reduceIte, Int.reduceToNat, Nat.reduceMul, Int.reduceBEq, Int.reduceBNe, Nat.reduceBEq, Nat.reduceAdd, Nat.reduceSub, Nat.reduceLeDiff, Nat.reduceEqDiff, Nat.reduceLT, reduceCtorEq])
  have e1 : (bA [48]).toList == (⟨#[48]⟩ : ByteArray).toList := by rw [bA_toList, Lib.toList_data]; rfl
  simp (config := { maxSteps := 2000000 }) only [go_sem, ↓reduceIte, Int.reduceToNat, Nat.reduceMul, Int.reduceBEq, Int.reduceBNe, Nat.reduceBEq, Nat.reduceAdd, Nat.reduceSub, Nat.reduceLeDiff, Nat.reduceEqDiff, Nat.reduceLT, reduceCtorEq, e1]
  refine Retn.ret (π := []) hp hnp ⟨rfl, ?_⟩
  simp (config := { maxSteps := 2000000 }) only [go_sem, ↓reduceIte, Int.reduceToNat, Nat.reduceMul, Int.reduceBEq, Int.reduceBNe, Nat.reduceBEq, Nat.reduceAdd, Nat.reduceSub, Nat.reduceLeDiff, Nat.reduceEqDiff, Nat.reduceLT, reduceCtorEq]
end Go.Proofs.YtjaakbkneeojnaaDoor
