/- Swing: the fixed example; the laws of momentum, of the steady frequency. -/
import Derived.Test.YtjaakbkneeojnaaDoorAwZl
import Derived.Test.YtjaakbkneeojnaaDoorSwiA
set_option linter.unusedVariables false
set_option linter.unusedSimpArgs false
namespace Go.Proofs.YtjaakbkneeojnaaDoor
open Go.Proofs.YtjaakbkneeojnaaDoor.Aw
attribute [local go_sem] Int.natCast_zero Int.natCast_one bne_self_eq_false beq_self_eq_true Bool.not_true Bool.not_false Option.isSome_none Option.isSome_some Aw.bkM_nil Option.getD_some Option.getD_none Nat.sub_zero Int.toNat_zero Aw.frzS Aw.frzT Aw.frzA Aw.frzL Aw.frzR Aw.frzO Aw.frzOL Aw.frzOT Aw.frzOR Aw.killS Aw.mapT Aw.mapR Aw.killM Aw.resAVs Aw.resAV Aw.quietOps Aw.wpP Aw.wpT Aw.wpS Aw.AOp.mild List.getElem?_cons_zero List.getElem?_cons_succ Bool.and_false Bool.and_self Bool.false_and Aw.opOb Aw.gdB Aw.Rnd Aw.subTm List.length_map Int.toNat_natCast and_self Aw.SeqC Aw.stops Aw.Ends Aw.looks Aw.renA Aw.renL Aw.renT Aw.renS Aw.wpO Aw.aop Aw.putTm Aw.St.ev Aw.St.put Aw.St.putO Aw.binAV Aw.intBin Aw.strBin Aw.pickAV Aw.optInt Aw.AV.strip Aw.AV.guard Aw.AV.cells Aw.gdOb Aw.AOp.opds Aw.AOp.still Aw.ptrCells Aw.St.reg Aw.fillAV Aw.fillOb Aw.elsOb Aw.splice Aw.firm Aw.cellish Aw.AV.shut Aw.shutAll Aw.Seq Aw.Blk Aw.retS_nil Aw.mapA Aw.mapL Aw.borA Aw.borOb Aw.allOb Aw.tupOf Aw.params Aw.Opd.of Array.toList Value.cells List.map_cons List.map_nil List.getD_cons_zero List.getD_cons_succ List.getD_nil List.length_cons List.length_nil List.take_succ_cons List.take_zero List.take_nil List.drop_zero List.drop_succ_cons List.drop_nil List.set_cons_zero List.set_cons_succ List.append_nil List.nil_append List.cons_append List.all_cons List.all_nil cond_false cond_true if_true if_false true_and and_true Bool.and_true Bool.true_and Option.map_some Option.map_none false_implies forall_const implies_true forall_eq imp_self Bool.cond_false_right Bool.cond_true_left beq_true beq_false Bool.not_eq_true' Bool.false_eq_true Nat.zero_add Nat.add_zero Aw.eqCells Aw.stopDraw Aw.skipS Aw.exactCap Aw.revealS Aw.srcEls Aw.srcSz
attribute [local go_sem ↓] Aw.look_nil Aw.look_ite Aw.wpL_nil Aw.wpL_op Aw.wpL_gd Aw.wpQ_nil Aw.wpQ_op Aw.wpQ_gd Aw.wpC_draw Aw.wpC_reg Aw.wpC_skip Aw.wpC_ret Aw.wpC_exit Aw.wpC_seq Aw.wpC_block Aw.wpC_loop Aw.wpC_cond Aw.stopAt_nil Aw.stopAt_cons Aw.wpD_skip Aw.wpD_ret Aw.wpD_exit Aw.wpD_region Aw.wpD_draw Aw.wpM_nil Aw.wpM_op Aw.wpM_gd Aw.wpD_seq Aw.wpD_block Aw.wpD_loop Aw.wpD_cond
/- gridhall/gridhallkeep4.swingFact -/
def a13 : ACode :=
  (.seq (.region false [] [
     ⟨(some 0), none, (.mov (.v (.bool false)))⟩])
  (.seq (.region false [] [
     ⟨(some 6), none, (.build (.agg #[(.int .i64 0), (.int .i64 0), (.int .i64 0), (.int .i64 0), (.string ⟨#[]⟩)]) [(0, (1, (.v (.int .i64 10)))), (2, (1, (.v (.int .i64 105)))), (3, (1, (.v (.int .i64 100)))), (4, (1, (.v (.string ⟨#[48]⟩))))])⟩,
     ⟨(some 7), none, (.call 12 [(.t 6)])⟩,
     ⟨(some 5), none, (.mov (.t 7))⟩,
     ⟨(some 8), none, (.ext 0 (.t 5))⟩,
     ⟨(some 9), none, (.ext 1 (.t 5))⟩,
     ⟨(some 1), none, (.alloc 24 (.agg #[(.int .i64 0), (.int .i64 0), (.int .i64 0), (.int .i64 0), (.string ⟨#[]⟩)]))⟩,
     ⟨none, none, (.store 5 (.t 1) (.t 8))⟩,
     ⟨(some 2), none, (.mov (.t 9))⟩])
  (.seq (.region false [] [
     ⟨(some 11), none, (.call 16 [(.v (.string ⟨#[49, 47, 50]⟩)), (.v (.string ⟨#[49, 47, 51]⟩))])⟩,
     ⟨(some 10), none, (.mov (.t 11))⟩,
     ⟨(some 12), none, (.ext 0 (.t 10))⟩,
     ⟨(some 13), none, (.ext 1 (.t 10))⟩,
     ⟨(some 3), none, (.mov (.t 12))⟩,
     ⟨(some 4), none, (.mov (.t 13))⟩])
  (.seq (.region false [] [
     ⟨(some 14), none, (.mov (.t 2))⟩,
     ⟨(some 15), none, (.bin .eql 25 (.t 14) (.v (.int .i64 0)))⟩,
     ⟨(some 16), none, (.mov (.t 15))⟩,
     ⟨(some 17), (some (16, true)), (.mov (.t 4))⟩,
     ⟨(some 18), (some (16, true)), (.bin .eql 25 (.t 17) (.v (.int .i64 0)))⟩,
     ⟨(some 19), none, (.pick (.t 16) (.t 18) (.v (.bool false)))⟩,
     ⟨(some 20), none, (.mov (.t 19))⟩,
     ⟨(some 21), (some (20, true)), (.fld 4 (.t 1))⟩,
     ⟨(some 22), (some (20, true)), (.load 1 false (.t 21))⟩,
     ⟨(some 23), (some (20, true)), (.bin .eql 22 (.t 22) (.v (.string ⟨#[49, 47, 50]⟩)))⟩,
     ⟨(some 24), none, (.pick (.t 20) (.t 23) (.v (.bool false)))⟩,
     ⟨(some 25), none, (.mov (.t 24))⟩,
     ⟨(some 26), (some (25, true)), (.mov (.t 3))⟩,
     ⟨(some 27), (some (25, true)), (.bin .eql 22 (.t 26) (.v (.string ⟨#[53, 47, 54]⟩)))⟩,
     ⟨(some 28), none, (.pick (.t 25) (.t 27) (.v (.bool false)))⟩,
     ⟨(some 0), none, (.mov (.t 28))⟩])
  .ret))))
theorem k13 : FnIs Tryd.prog 13 29 [.t 0] a13 := ⟨_, _, Tryd.func13, rfl, by kernel_rfl, by kernel_rfl, rfl⟩
/- gridhall/gridhallkeep4.SwingMomentum -/
def a3 : ACode :=
  (.seq (.region false [] [
     ⟨(some 1), none, (.box 24 (.t 0))⟩,
     ⟨(some 2), none, (.mov (.v (.bool false)))⟩])
  (.seq (.region false [] [
     ⟨(some 14), none, (.load 5 true (.t 1))⟩,
     ⟨(some 15), none, (.call 12 [(.t 14)])⟩,
     ⟨(some 13), none, (.mov (.t 15))⟩,
     ⟨(some 16), none, (.ext 0 (.t 13))⟩,
     ⟨(some 17), none, (.ext 1 (.t 13))⟩,
     ⟨(some 3), none, (.alloc 24 (.agg #[(.int .i64 0), (.int .i64 0), (.int .i64 0), (.int .i64 0), (.string ⟨#[]⟩)]))⟩,
     ⟨none, none, (.store 5 (.t 3) (.t 16))⟩,
     ⟨(some 4), none, (.mov (.t 17))⟩])
  (.seq (.seq (.region false [] [
     ⟨(some 18), none, (.mov (.t 4))⟩,
     ⟨(some 19), none, (.bin .neq 25 (.t 18) (.v (.int .i64 0)))⟩])
  (.cond (.t 19)
    (.seq (.region false [] [
       ⟨(some 20), none, (.call 13 [])⟩,
       ⟨(some 21), none, (.mov (.t 20))⟩,
       ⟨(some 22), (some (21, true)), (.load 5 true (.t 3))⟩,
       ⟨(some 23), (some (21, true)), (.build (.agg #[(.int .i64 0), (.int .i64 0), (.int .i64 0), (.int .i64 0), (.string ⟨#[]⟩)]) [])⟩,
       ⟨(some 24), (some (21, true)), (.aeq false [.i, .i, .i, .i, .s] (.t 22) (.t 23))⟩,
       ⟨(some 25), none, (.pick (.t 21) (.t 24) (.v (.bool false)))⟩,
       ⟨(some 2), none, (.mov (.t 25))⟩])
    .ret)
    .skip))
  (.seq (.region false [] [
     ⟨(some 27), none, (.load 5 true (.t 1))⟩,
     ⟨(some 28), none, (.call 14 [(.t 27)])⟩,
     ⟨(some 26), none, (.mov (.t 28))⟩,
     ⟨(some 29), none, (.ext 0 (.t 26))⟩,
     ⟨(some 30), none, (.ext 1 (.t 26))⟩,
     ⟨(some 5), none, (.mov (.t 29))⟩,
     ⟨(some 6), none, (.mov (.t 30))⟩])
  (.seq (.region false [] [
     ⟨(some 32), none, (.load 5 true (.t 3))⟩,
     ⟨(some 33), none, (.call 14 [(.t 32)])⟩,
     ⟨(some 31), none, (.mov (.t 33))⟩,
     ⟨(some 34), none, (.ext 0 (.t 31))⟩,
     ⟨(some 35), none, (.ext 1 (.t 31))⟩,
     ⟨(some 7), none, (.mov (.t 34))⟩,
     ⟨(some 8), none, (.mov (.t 35))⟩])
  (.seq (.region false [] [
     ⟨(some 37), none, (.load 5 true (.t 1))⟩,
     ⟨(some 38), none, (.call 15 [(.t 37)])⟩,
     ⟨(some 36), none, (.mov (.t 38))⟩,
     ⟨(some 39), none, (.ext 0 (.t 36))⟩,
     ⟨(some 40), none, (.ext 1 (.t 36))⟩,
     ⟨(some 9), none, (.mov (.t 39))⟩,
     ⟨(some 10), none, (.mov (.t 40))⟩])
  (.seq (.region false [] [
     ⟨(some 42), none, (.mov (.t 5))⟩,
     ⟨(some 43), none, (.mov (.t 9))⟩,
     ⟨(some 44), none, (.call 16 [(.t 42), (.t 43)])⟩,
     ⟨(some 41), none, (.mov (.t 44))⟩,
     ⟨(some 45), none, (.ext 0 (.t 41))⟩,
     ⟨(some 46), none, (.ext 1 (.t 41))⟩,
     ⟨(some 11), none, (.mov (.t 45))⟩,
     ⟨(some 12), none, (.mov (.t 46))⟩])
  (.seq (.seq (.region false [] [
     ⟨(some 47), none, (.mov (.t 6))⟩,
     ⟨(some 48), none, (.bin .neq 25 (.t 47) (.v (.int .i64 0)))⟩,
     ⟨(some 49), none, (.mov (.t 48))⟩,
     ⟨(some 50), (some (49, false)), (.mov (.t 8))⟩,
     ⟨(some 51), (some (49, false)), (.bin .neq 25 (.t 50) (.v (.int .i64 0)))⟩,
     ⟨(some 52), none, (.pick (.t 49) (.v (.bool true)) (.t 51))⟩,
     ⟨(some 53), none, (.mov (.t 52))⟩,
     ⟨(some 54), (some (53, false)), (.mov (.t 10))⟩,
     ⟨(some 55), (some (53, false)), (.bin .neq 25 (.t 54) (.v (.int .i64 0)))⟩,
     ⟨(some 56), none, (.pick (.t 53) (.v (.bool true)) (.t 55))⟩,
     ⟨(some 57), none, (.mov (.t 56))⟩,
     ⟨(some 58), (some (57, false)), (.mov (.t 12))⟩,
     ⟨(some 59), (some (57, false)), (.bin .neq 25 (.t 58) (.v (.int .i64 0)))⟩,
     ⟨(some 60), none, (.pick (.t 57) (.v (.bool true)) (.t 59))⟩])
  (.cond (.t 60)
    (.seq (.region false [] [
       ⟨(some 61), none, (.call 13 [])⟩,
       ⟨(some 62), none, (.mov (.t 61))⟩,
       ⟨(some 63), (some (62, true)), (.mov (.t 6))⟩,
       ⟨(some 64), (some (62, true)), (.bin .eql 25 (.t 63) (.v (.int .i64 2)))⟩,
       ⟨(some 65), (some (62, true)), (.mov (.t 64))⟩,
       ⟨(some 66), (some (65, false)), (.mov (.t 8))⟩,
       ⟨(some 67), (some (65, false)), (.bin .eql 25 (.t 66) (.v (.int .i64 2)))⟩,
       ⟨(some 68), (some (62, true)), (.pick (.t 65) (.v (.bool true)) (.t 67))⟩,
       ⟨(some 69), (some (62, true)), (.mov (.t 68))⟩,
       ⟨(some 70), (some (69, false)), (.mov (.t 10))⟩,
       ⟨(some 71), (some (69, false)), (.bin .eql 25 (.t 70) (.v (.int .i64 2)))⟩,
       ⟨(some 72), (some (62, true)), (.pick (.t 69) (.v (.bool true)) (.t 71))⟩,
       ⟨(some 73), (some (62, true)), (.mov (.t 72))⟩,
       ⟨(some 74), (some (73, false)), (.mov (.t 12))⟩,
       ⟨(some 75), (some (73, false)), (.bin .eql 25 (.t 74) (.v (.int .i64 2)))⟩,
       ⟨(some 76), (some (62, true)), (.pick (.t 73) (.v (.bool true)) (.t 75))⟩,
       ⟨(some 77), none, (.pick (.t 62) (.t 76) (.v (.bool false)))⟩,
       ⟨(some 2), none, (.mov (.t 77))⟩])
    .ret)
    .skip))
  (.seq (.region false [] [
     ⟨(some 78), none, (.call 13 [])⟩,
     ⟨(some 79), none, (.mov (.t 78))⟩,
     ⟨(some 80), (some (79, true)), (.mov (.t 11))⟩,
     ⟨(some 81), (some (79, true)), (.mov (.t 7))⟩,
     ⟨(some 82), (some (79, true)), (.bin .eql 22 (.t 80) (.t 81))⟩,
     ⟨(some 83), none, (.pick (.t 79) (.t 82) (.v (.bool false)))⟩,
     ⟨(some 2), none, (.mov (.t 83))⟩])
  .ret)))))))))
theorem k3 : FnIs Tryd.prog 3 84 [.t 2] a3 := ⟨_, _, Tryd.func3, rfl, by kernel_rfl, by kernel_rfl, rfl⟩

theorem txt_is {l : List UInt8} {n : Nat} (h : isNumB l = true) (hn : num (dgs l) = n) : txtL n = l := by
  rw [← hn]; exact txt_num ((isNumB_iff l).1 h)
/-- The text of a fraction. -/
theorem txt_frac {l : List UInt8} (h : ratCheck l = 0) {r : Rat} (hr : inR l = r) : txtR r = l ∧ fitsR r := by
  obtain ⟨h1, h2⟩ := valid_txt h
  rw [hr] at h1 h2
  exact ⟨h1.symm, h2⟩
theorem told_cases (r : Rat) : (fitsR r ∧ toldR r = (txtR r, 0)) ∨ (¬ fitsR r ∧ toldR r = ([], 2)) := by
  by_cases h : fitsR r
  · exact .inl ⟨h, toldR_fits h⟩
  · exact .inr ⟨h, toldR_large h⟩
theorem check_nil : ratCheck [] = 5 := by decide
theorem checkAll2 {l m : List UInt8} (h1 : ratCheck l = 0) (h2 : ratCheck m = 0) : checkAll [l, m] = 0 := by
  unfold checkAll
  rw [if_neg (by simp [h1])]
  unfold checkAll
  rw [if_neg (by simp [h2])]
  rfl
theorem add_txt {r s : Rat} (hr : fitsR r) (hs : fitsR s) : twoQ addQ (txtR r) (txtR s) = toldR (r + s) := by
  obtain ⟨h1, h2⟩ := txt_ok hr
  obtain ⟨h3, h4⟩ := txt_ok hs
  unfold twoQ
  rw [if_neg (by rw [checkAll2 h1 h3]; simp), (add_can (in_can h1) (in_can h3)).told, add_r]
  unfold inR at h2 h4
  rw [h2, h4]
theorem sub_txt {r s : Rat} (hr : fitsR r) (hs : fitsR s) : twoQ subQ (txtR r) (txtR s) = toldR (r - s) := by
  obtain ⟨h1, h2⟩ := txt_ok hr
  obtain ⟨h3, h4⟩ := txt_ok hs
  unfold twoQ
  rw [if_neg (by rw [checkAll2 h1 h3]; simp), (sub_can (in_can h1) (in_can h3)).told, sub_r]
  unfold inR at h2 h4
  rw [h2, h4]
theorem mul_txt {r s : Rat} (hr : fitsR r) (hs : fitsR s) : twoQ mulQ (txtR r) (txtR s) = toldR (r * s) := by
  obtain ⟨h1, h2⟩ := txt_ok hr
  obtain ⟨h3, h4⟩ := txt_ok hs
  unfold twoQ
  rw [if_neg (by rw [checkAll2 h1 h3]; simp), (mul_can _ _).told, mul_r]
  unfold inR at h2 h4
  rw [h2, h4]
theorem two_bad {op : QQ → QQ → QQ} {l m : List UInt8} (h : l = [] ∨ m = []) : (twoQ op l m).2 ≠ 0 := by
  have hc : checkAll [l, m] ≠ 0 := fun h0 => by
    obtain ⟨h1, h2⟩ := check2 h0
    rcases h with rfl | rfl
    · rw [check_nil] at h1; cases h1
    · rw [check_nil] at h2; cases h2
  unfold twoQ
  rw [if_pos hc]
  exact hc
theorem told_len (r : Rat) : (toldR r).1.length ≤ 9223372036854775807 := by
  rcases told_cases r with ⟨h1, h2⟩ | ⟨h1, h2⟩
  · rw [h2]
    dsimp only
    unfold fitsR fitsQ at h1
    unfold txtR outL
    have hw := of_whole r
    have hd : (QQ.of r).den = r.den := rfl
    rw [hw]
    rw [hd] at h1
    split at h1
    · cases h1
    · rename_i h3
      rw [not_or] at h3
      split
      · decide
      · rw [List.length_append]
        have g1 : (if (QQ.of r).neg = true then 45 :: txtL (QQ.of r).num else txtL (QQ.of r).num).length ≤ (txtL (QQ.of r).num).length + 1 := by
          split
          · rw [List.length_cons]; omega
          · omega
        have g2 : (if r.den = 1 then [] else 47 :: txtL r.den).length ≤ (txtL r.den).length + 1 := by
          split
          · exact Nat.zero_le _
          · rw [List.length_cons]; omega
        omega
  · rw [h2]; decide
def half : List UInt8 := [49, 47, 50]
theorem half_ok : txtR (1 / 2) = half ∧ fitsR (1 / 2) := txt_frac (by decide) (by decide +kernel)
theorem sixth_ok : txtR (5 / 6) = [53, 47, 54] ∧ fitsR (5 / 6) := txt_frac (by decide) (by decide +kernel)
theorem third_ok : txtR (1 / 3) = [49, 47, 51] ∧ fitsR (1 / 3) := txt_frac (by decide) (by decide +kernel)
theorem zero_in : inR [48] = 0 := by decide +kernel
def exIsl : Isl := ⟨10, 0, 105, 100, [48]⟩
theorem ex_step : stepS exIsl = (⟨10, 0, 105, 100, half⟩, 0) := by
  have h1 : checkS exIsl = 0 := by decide
  have h2 : stepR exIsl (inR exIsl.freq) = 1 / 2 := by
    show stepR exIsl (inR [48]) = 1 / 2
    rw [zero_in]
    decide +kernel
  unfold stepS
  rw [if_neg (by simp [h1]), h2, toldR_fits half_ok.2, half_ok.1]
  rfl
theorem ex_add : twoQ addQ half [49, 47, 51] = ([53, 47, 54], 0) := by
  have h := add_txt half_ok.2 third_ok.2
  rw [half_ok.1, third_ok.1] at h
  rw [h, show (1 / 2 + 1 / 3 : Rat) = 5 / 6 by decide +kernel, toldR_fits sixth_ok.2, sixth_ok.1]
theorem s13 : Aw.Spec Tryd.prog 13 [] [] (Gives (· = B true)) := by
  refine Spec.shut (Post := fun rg v => v = B true) ?_ fun rg v h => by subst h; exact ⟨rfl, rfl, rfl⟩
  refine Aw.Spec.regsW k13 rfl rfl fun E hn hnp hp => ?_
  unfold a13
  refine AWp.ofD [] [] hn mixed rfl ?_
  simp (config := { maxSteps := 2000000 }) only [go_sem, ↓reduceIte, Int.reduceToNat, Nat.reduceMul, Int.reduceBEq, Int.reduceBNe, Nat.reduceBEq, Nat.reduceAdd, Nat.reduceSub, Nat.reduceLeDiff, Nat.reduceEqDiff, Nat.reduceLT, reduceCtorEq]
  refine AWpL.calle (s12 exIsl (by show 1 ≤ _; decide)) rfl (by rw [hn]; rfl) (by simp (config := { maxSteps := 2000000 }) only [go_sem, ↓reduceIte, Int.reduceToNat, Nat.reduceMul, Int.reduceBEq, Int.reduceBNe, Nat.reduceBEq, Nat.reduceAdd, Nat.reduceSub, Nat.reduceLeDiff, Nat.reduceEqDiff, Nat.reduceLT, reduceCtorEq]) (AWpL.ofM hn rfl ?_)
  rw [ex_step]
  simp (config := { maxSteps := 2000000 }) only [go_sem, ↓reduceIte, Int.reduceToNat, Nat.reduceMul, Int.reduceBEq, Int.reduceBNe, Nat.reduceBEq, Nat.reduceAdd, Nat.reduceSub, Nat.reduceLeDiff, Nat.reduceEqDiff, Nat.reduceLT, reduceCtorEq]
  refine AWpL.calle (s16 half [49, 47, 51] (by decide) (by decide)) rfl (by rw [hn]; rfl) (by simp (config := { maxSteps := 2000000 }) only [go_sem, ↓reduceIte, Int.reduceToNat, Nat.reduceMul, Int.reduceBEq, Int.reduceBNe, Nat.reduceBEq, Nat.reduceAdd, Nat.reduceSub, Nat.reduceLeDiff, Nat.reduceEqDiff, Nat.reduceLT, reduceCtorEq]) (AWpL.ofM hn rfl ?_)
  rw [ex_add]
  have e1 : (bA half).toList == (⟨#[49, 47, 50]⟩ : ByteArray).toList := by rw [bA_toList, Lib.toList_data]; rfl
  have e2 : (bA [53, 47, 54]).toList == (⟨#[53, 47, 54]⟩ : ByteArray).toList := by rw [bA_toList, Lib.toList_data]; rfl
  simp (config := { maxSteps := 2000000 }) only [go_sem, ↓reduceIte, Int.reduceToNat, Nat.reduceMul, Int.reduceBEq, Int.reduceBNe, Nat.reduceBEq, Nat.reduceAdd, Nat.reduceSub, Nat.reduceLeDiff, Nat.reduceEqDiff, Nat.reduceLT, reduceCtorEq, e1, e2]
  refine Retn.ret (π := []) hp hnp ⟨rfl, ?_⟩
  simp (config := { maxSteps := 2000000 }) only [go_sem, ↓reduceIte, Int.reduceToNat, Nat.reduceMul, Int.reduceBEq, Int.reduceBNe, Nat.reduceBEq, Nat.reduceAdd, Nat.reduceSub, Nat.reduceLeDiff, Nat.reduceEqDiff, Nat.reduceLT, reduceCtorEq]
theorem empty_toList : (⟨#[]⟩ : ByteArray).toList = [] := by rw [Lib.toList_data]
theorem stepS_bad {x : Isl} (h1 : (stepS x).2 ≠ 0) : (stepS x).1 = Isl.zero := by
  unfold stepS at h1 ⊢
  split
  · rfl
  · rename_i h3
    rw [if_neg h3] at h1
    split
    · rfl
    · rename_i h4
      rw [if_neg h4] at h1
      exact absurd rfl h1
theorem txtR_len {r : Rat} (h : fitsR r) : (txtR r).length ≤ 9223372036854775807 := by
  have := told_len r
  rwa [toldR_fits h] at this
/-- An island with another frequency. -/
def Isl.withF (x : Isl) (r : Rat) : Isl := { x with freq := txtR r }
theorem stepS_ok {x : Isl} (h : (stepS x).2 = 0) : checkS x = 0 ∧ fitsR (stepR x (inR x.freq)) ∧ (stepS x).1 = x.withF (stepR x (inR x.freq)) := by
  unfold stepS at h ⊢
  split at h
  · rename_i h1; exact absurd h h1
  · rename_i h1
    split at h
    · rename_i h2; exact absurd h h2
    · rename_i h2
      have hf := told_fst (r := stepR x (inR x.freq)) (by omega)
      refine ⟨by omega, hf, ?_⟩
      rw [if_neg h1, if_neg h2, toldR_fits hf]; rfl
theorem withF_ok {x : Isl} {r : Rat} (hx : numsOk x) (hr : fitsR r) : checkS (x.withF r) = 0 ∧ inR (x.withF r).freq = r := by
  obtain ⟨h1, h2⟩ := txt_ok hr
  refine ⟨?_, h2⟩
  unfold checkS
  rw [if_pos (show numsOk (x.withF r) from hx)]
  exact h1
theorem onIsl_ok {x : Isl} (h : checkS x = 0) (r : Rat) : onIsl x r = toldR r := by
  unfold onIsl
  rw [if_neg (by simp [h])]
theorem told_err (r : Rat) : (toldR r).2 = 0 ∨ (toldR r).2 = 2 := by
  rcases told_cases r with ⟨_, h⟩ | ⟨_, h⟩ <;> (rw [h]; simp)
theorem told_txt {r : Rat} (h : (toldR r).2 = 0) : (toldR r).1 = txtR r := by rw [toldR_fits (told_fst h)]
theorem s3 (x : Isl) (hx : Sz x) : Aw.Spec Tryd.prog 3 [] [ia x] (Gives (· = B true)) := by
  refine Spec.shut (Post := fun rg v => v = B true) ?_ fun rg v h => by subst h; exact ⟨rfl, rfl, rfl⟩
  refine Aw.Spec.regsW k3 rfl rfl fun E hn hnp hp => ?_
  unfold a3
  refine AWp.ofD [] [60] hn mixed rfl ?_
  simp (config := { maxSteps := 2000000 }) only [go_sem, ↓reduceIte, Int.reduceToNat, Nat.reduceMul, Int.reduceBEq, Int.reduceBNe, Nat.reduceBEq, Nat.reduceAdd, Nat.reduceSub, Nat.reduceLeDiff, Nat.reduceEqDiff, Nat.reduceLT, reduceCtorEq]
  (refine AWpL.calle (s12 x hx) rfl (by rw [hn]; rfl) (by simp (config := { maxSteps := 2000000 }) only [go_sem, ↓reduceIte, Int.reduceToNat, Nat.reduceMul, Int.reduceBEq, Int.reduceBNe, Nat.reduceBEq, Nat.reduceAdd, Nat.reduceSub, Nat.reduceLeDiff, Nat.reduceEqDiff, Nat.reduceLT, reduceCtorEq]) (AWpL.ofM hn rfl ?_); simp (config := { maxSteps := 2000000 }) only [go_sem, ↓reduceIte, Int.reduceToNat, Nat.reduceMul, Int.reduceBEq, Int.reduceBNe, Nat.reduceBEq, Nat.reduceAdd, Nat.reduceSub, Nat.reduceLeDiff, Nat.reduceEqDiff, Nat.reduceLT, reduceCtorEq])
  refine ⟨fun h => ?_, fun h => ?_⟩
  · have h1 : (stepS x).2 ≠ 0 := by simpa using h
    rw [stepS_bad h1]
    (refine AWpL.calle (s13) rfl (by rw [hn]; rfl) (by simp (config := { maxSteps := 2000000 }) only [go_sem, ↓reduceIte, Int.reduceToNat, Nat.reduceMul, Int.reduceBEq, Int.reduceBNe, Nat.reduceBEq, Nat.reduceAdd, Nat.reduceSub, Nat.reduceLeDiff, Nat.reduceEqDiff, Nat.reduceLT, reduceCtorEq]) (AWpL.ofM hn rfl ?_); simp (config := { maxSteps := 2000000 }) only [go_sem, ↓reduceIte, Int.reduceToNat, Nat.reduceMul, Int.reduceBEq, Int.reduceBNe, Nat.reduceBEq, Nat.reduceAdd, Nat.reduceSub, Nat.reduceLeDiff, Nat.reduceEqDiff, Nat.reduceLT, reduceCtorEq])
    refine Retn.ret (π := []) hp hnp ⟨rfl, ?_⟩
    simp (config := { maxSteps := 2000000 }) only [go_sem, ↓reduceIte, Int.reduceToNat, Nat.reduceMul, Int.reduceBEq, Int.reduceBNe, Nat.reduceBEq, Nat.reduceAdd, Nat.reduceSub, Nat.reduceLeDiff, Nat.reduceEqDiff, Nat.reduceLT, reduceCtorEq, bA_toList, empty_toList]
    rfl
  obtain ⟨h1, h2, h3⟩ := stepS_ok (x := x) (by simpa using h)
  have hnum := (checkS_ok h1).1
  rw [h3]
  obtain ⟨h4, h5⟩ := withF_ok hnum h2
  generalize hf : stepR x (inR x.freq) = f' at *
  have m1 : momS x = toldR ((x.ine : Rat) * inR x.freq) := onIsl_ok h1 _
  have m2 : momS (x.withF f') = toldR ((x.ine : Rat) * f') := by
    unfold momS
    rw [onIsl_ok h4, h5]; rfl
  have m3 : excS x = toldR (excR x (inR x.freq)) := onIsl_ok h1 _
  have hid : (x.ine : Rat) * inR x.freq + excR x (inR x.freq) = (x.ine : Rat) * f' := by
    have h0 : (x.ine : Rat) ≠ 0 := by
      intro h6
      have h7 : x.ine = 0 := by exact_mod_cast h6
      have := hnum.1
      omega
    rw [← hf]
    unfold stepR
    generalize excR x (inR x.freq) = D
    grind
  (refine AWpL.calle (s14 x hx) rfl (by rw [hn]; rfl) (by simp (config := { maxSteps := 2000000 }) only [go_sem, ↓reduceIte, Int.reduceToNat, Nat.reduceMul, Int.reduceBEq, Int.reduceBNe, Nat.reduceBEq, Nat.reduceAdd, Nat.reduceSub, Nat.reduceLeDiff, Nat.reduceEqDiff, Nat.reduceLT, reduceCtorEq]) (AWpL.ofM hn rfl ?_); simp (config := { maxSteps := 2000000 }) only [go_sem, ↓reduceIte, Int.reduceToNat, Nat.reduceMul, Int.reduceBEq, Int.reduceBNe, Nat.reduceBEq, Nat.reduceAdd, Nat.reduceSub, Nat.reduceLeDiff, Nat.reduceEqDiff, Nat.reduceLT, reduceCtorEq])
  refine AWpL.calle (s14 (x.withF f') (txtR_len h2)) rfl (by rw [hn]; rfl) (by simp (config := { maxSteps := 2000000 }) only [go_sem, ↓reduceIte, Int.reduceToNat, Nat.reduceMul, Int.reduceBEq, Int.reduceBNe, Nat.reduceBEq, Nat.reduceAdd, Nat.reduceSub, Nat.reduceLeDiff, Nat.reduceEqDiff, Nat.reduceLT, reduceCtorEq]) (AWpL.ofM hn rfl ?_)
  simp (config := { maxSteps := 2000000 }) only [go_sem, ↓reduceIte, Int.reduceToNat, Nat.reduceMul, Int.reduceBEq, Int.reduceBNe, Nat.reduceBEq, Nat.reduceAdd, Nat.reduceSub, Nat.reduceLeDiff, Nat.reduceEqDiff, Nat.reduceLT, reduceCtorEq]
  (refine AWpL.calle (s15 x hx) rfl (by rw [hn]; rfl) (by simp (config := { maxSteps := 2000000 }) only [go_sem, ↓reduceIte, Int.reduceToNat, Nat.reduceMul, Int.reduceBEq, Int.reduceBNe, Nat.reduceBEq, Nat.reduceAdd, Nat.reduceSub, Nat.reduceLeDiff, Nat.reduceEqDiff, Nat.reduceLT, reduceCtorEq]) (AWpL.ofM hn rfl ?_); simp (config := { maxSteps := 2000000 }) only [go_sem, ↓reduceIte, Int.reduceToNat, Nat.reduceMul, Int.reduceBEq, Int.reduceBNe, Nat.reduceBEq, Nat.reduceAdd, Nat.reduceSub, Nat.reduceLeDiff, Nat.reduceEqDiff, Nat.reduceLT, reduceCtorEq])
  rw [m1, m2, m3]
  generalize hA : (x.ine : Rat) * inR x.freq = A at *
  generalize hD : excR x (inR x.freq) = D at *
  generalize hB : (x.ine : Rat) * f' = Bq at *
  (refine AWpL.calle (s16 (toldR A).1 (toldR D).1 (told_len A) (told_len D)) rfl (by rw [hn]; rfl) (by simp (config := { maxSteps := 2000000 }) only [go_sem, ↓reduceIte, Int.reduceToNat, Nat.reduceMul, Int.reduceBEq, Int.reduceBNe, Nat.reduceBEq, Nat.reduceAdd, Nat.reduceSub, Nat.reduceLeDiff, Nat.reduceEqDiff, Nat.reduceLT, reduceCtorEq]) (AWpL.ofM hn rfl ?_); simp (config := { maxSteps := 2000000 }) only [go_sem, ↓reduceIte, Int.reduceToNat, Nat.reduceMul, Int.reduceBEq, Int.reduceBNe, Nat.reduceBEq, Nat.reduceAdd, Nat.reduceSub, Nat.reduceLeDiff, Nat.reduceEqDiff, Nat.reduceLT, reduceCtorEq])
  have e1 := told_err A
  have e2 := told_err Bq
  have e3 := told_err D
  have e4 : (toldR A).2 = 0 → (toldR D).2 = 0 → twoQ addQ (toldR A).1 (toldR D).1 = toldR Bq := fun h6 h7 => by
    rw [told_txt h6, told_txt h7, add_txt (told_fst h6) (told_fst h7), hid]
  generalize hE1 : (toldR A).2 = E1 at *
  generalize hE2 : (toldR Bq).2 = E2 at *
  generalize hE3 : (toldR D).2 = E3 at *
  generalize hT : twoQ addQ (toldR A).1 (toldR D).1 = T at *
  have e5 : E1 = 0 → E3 = 0 → T.2 = 0 ∨ T.2 = 2 := fun h6 h7 => by rw [e4 h6 h7]; exact told_err _
  refine AWp.cond (by rfl) (fun h6 => ?_) (fun h6 => ?_)
  · refine AWp.ofD [] [] hn mixed rfl ?_
    simp (config := { maxSteps := 2000000 }) only [go_sem, ↓reduceIte, Int.reduceToNat, Nat.reduceMul, Int.reduceBEq, Int.reduceBNe, Nat.reduceBEq, Nat.reduceAdd, Nat.reduceSub, Nat.reduceLeDiff, Nat.reduceEqDiff, Nat.reduceLT, reduceCtorEq]
    (refine AWpL.calle (s13) rfl (by rw [hn]; rfl) (by simp (config := { maxSteps := 2000000 }) only [go_sem, ↓reduceIte, Int.reduceToNat, Nat.reduceMul, Int.reduceBEq, Int.reduceBNe, Nat.reduceBEq, Nat.reduceAdd, Nat.reduceSub, Nat.reduceLeDiff, Nat.reduceEqDiff, Nat.reduceLT, reduceCtorEq]) (AWpL.ofM hn rfl ?_); simp (config := { maxSteps := 2000000 }) only [go_sem, ↓reduceIte, Int.reduceToNat, Nat.reduceMul, Int.reduceBEq, Int.reduceBNe, Nat.reduceBEq, Nat.reduceAdd, Nat.reduceSub, Nat.reduceLeDiff, Nat.reduceEqDiff, Nat.reduceLT, reduceCtorEq])
    have h7 : (E1 == 2 || E2 == 2 || E3 == 2 || T.2 == 2) = true := by
      simp only [Bool.or_eq_true, bne_iff_ne, beq_iff_eq] at h6 ⊢
      omega
    rw [h7]
    refine Retn.ret (π := []) hp hnp ⟨rfl, ?_⟩
    simp (config := { maxSteps := 2000000 }) only [go_sem, ↓reduceIte, Int.reduceToNat, Nat.reduceMul, Int.reduceBEq, Int.reduceBNe, Nat.reduceBEq, Nat.reduceAdd, Nat.reduceSub, Nat.reduceLeDiff, Nat.reduceEqDiff, Nat.reduceLT, reduceCtorEq]
  · refine AWp.ofD [] [] hn mixed rfl ?_
    simp (config := { maxSteps := 2000000 }) only [go_sem, ↓reduceIte, Int.reduceToNat, Nat.reduceMul, Int.reduceBEq, Int.reduceBNe, Nat.reduceBEq, Nat.reduceAdd, Nat.reduceSub, Nat.reduceLeDiff, Nat.reduceEqDiff, Nat.reduceLT, reduceCtorEq]
    (refine AWpL.calle (s13) rfl (by rw [hn]; rfl) (by simp (config := { maxSteps := 2000000 }) only [go_sem, ↓reduceIte, Int.reduceToNat, Nat.reduceMul, Int.reduceBEq, Int.reduceBNe, Nat.reduceBEq, Nat.reduceAdd, Nat.reduceSub, Nat.reduceLeDiff, Nat.reduceEqDiff, Nat.reduceLT, reduceCtorEq]) (AWpL.ofM hn rfl ?_); simp (config := { maxSteps := 2000000 }) only [go_sem, ↓reduceIte, Int.reduceToNat, Nat.reduceMul, Int.reduceBEq, Int.reduceBNe, Nat.reduceBEq, Nat.reduceAdd, Nat.reduceSub, Nat.reduceLeDiff, Nat.reduceEqDiff, Nat.reduceLT, reduceCtorEq])
    simp only [Bool.or_eq_false_iff, bne_eq_false_iff_eq] at h6
    rw [e4 (by omega) (by omega)]
    refine Retn.ret (π := []) hp hnp ⟨rfl, ?_⟩
    simp (config := { maxSteps := 2000000 }) only [go_sem, ↓reduceIte, Int.reduceToNat, Nat.reduceMul, Int.reduceBEq, Int.reduceBNe, Nat.reduceBEq, Nat.reduceAdd, Nat.reduceSub, Nat.reduceLeDiff, Nat.reduceEqDiff, Nat.reduceLT, reduceCtorEq]
end Go.Proofs.YtjaakbkneeojnaaDoor
