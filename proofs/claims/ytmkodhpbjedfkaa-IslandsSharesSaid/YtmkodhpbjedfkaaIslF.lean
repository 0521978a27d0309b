/- Islands: the law of shares. -/
import Derived.Test.YtmkodhpbjedfkaaAwZh
import Derived.Test.YtmkodhpbjedfkaaIslC
import Derived.Test.YtmkodhpbjedfkaaIslD
set_option linter.unusedVariables false
set_option linter.unusedSimpArgs false
namespace Go.Proofs.Ytmkodhpbjedfkaa
open Go.Proofs.Ytmkodhpbjedfkaa.Aw
attribute [local go_sem] Int.natCast_zero Int.natCast_one bne_self_eq_false beq_self_eq_true Bool.not_true Bool.not_false Option.isSome_none Option.isSome_some Aw.bkM_nil Option.getD_some Option.getD_none Nat.sub_zero Int.toNat_zero Aw.frzS Aw.frzT Aw.frzA Aw.frzL Aw.frzR Aw.frzO Aw.frzOL Aw.frzOT Aw.frzOR Aw.killS Aw.mapT Aw.mapR Aw.killM Aw.resAVs Aw.resAV Aw.quietOps Aw.wpP Aw.wpT Aw.wpS Aw.AOp.mild List.getElem?_cons_zero List.getElem?_cons_succ Bool.and_false Bool.and_self Bool.false_and Aw.opOb Aw.gdB Aw.Rnd Aw.subTm List.length_map Int.toNat_natCast and_self Aw.SeqC Aw.stops Aw.Ends Aw.looks Aw.renA Aw.renL Aw.renT Aw.renS Aw.wpO Aw.aop Aw.putTm Aw.St.ev Aw.St.put Aw.St.putO Aw.binAV Aw.intBin Aw.strBin Aw.pickAV Aw.optInt Aw.AV.strip Aw.AV.guard Aw.AV.cells Aw.gdOb Aw.AOp.opds Aw.AOp.still Aw.ptrCells Aw.St.reg Aw.fillAV Aw.fillOb Aw.elsOb Aw.splice Aw.firm Aw.cellish Aw.AV.shut Aw.shutAll Aw.Seq Aw.Blk Aw.retS_nil Aw.mapA Aw.mapL Aw.borA Aw.borOb Aw.allOb Aw.tupOf Aw.params Aw.Opd.of Array.toList Value.cells List.map_cons List.map_nil List.getD_cons_zero List.getD_cons_succ List.getD_nil List.length_cons List.length_nil List.take_succ_cons List.take_zero List.take_nil List.drop_zero List.drop_succ_cons List.drop_nil List.set_cons_zero List.set_cons_succ List.append_nil List.nil_append List.cons_append List.all_cons List.all_nil cond_false cond_true if_true if_false true_and and_true Bool.and_true Bool.true_and Option.map_some Option.map_none false_implies forall_const implies_true forall_eq imp_self Bool.cond_false_right Bool.cond_true_left beq_true beq_false Bool.not_eq_true' Bool.false_eq_true Nat.zero_add Nat.add_zero Aw.eqCells Aw.stopDraw Aw.skipS Aw.exactCap Aw.revealS Aw.srcEls Aw.srcSz
attribute [local go_sem ↓] Aw.look_nil Aw.look_ite Aw.wpL_nil Aw.wpL_op Aw.wpL_gd Aw.wpQ_nil Aw.wpQ_op Aw.wpQ_gd Aw.wpC_draw Aw.wpC_reg Aw.wpC_skip Aw.wpC_ret Aw.wpC_exit Aw.wpC_seq Aw.wpC_block Aw.wpC_loop Aw.wpC_cond Aw.stopAt_nil Aw.stopAt_cons Aw.wpD_skip Aw.wpD_ret Aw.wpD_exit Aw.wpD_region Aw.wpD_draw Aw.wpM_nil Aw.wpM_op Aw.wpM_gd Aw.wpD_seq Aw.wpD_block Aw.wpD_loop Aw.wpD_cond
/- gridhall/gridhallkeep4.IslandsShares -/
def a3 : ACode :=
  (.seq (.region false [] [
     ⟨(some 1), none, (.box 29 (.t 0))⟩,
     ⟨(some 2), none, (.mov (.v (.bool false)))⟩])
  (.seq (.region false [] [
     ⟨(some 18), none, (.load 6 true (.t 1))⟩,
     ⟨(some 19), none, (.call 6 [(.t 18)])⟩,
     ⟨(some 17), none, (.mov (.t 19))⟩,
     ⟨(some 20), none, (.ext 0 (.t 17))⟩,
     ⟨(some 21), none, (.ext 1 (.t 17))⟩,
     ⟨(some 3), none, (.mov (.t 20))⟩,
     ⟨(some 4), none, (.mov (.t 21))⟩])
  (.seq (.region false [] [
     ⟨(some 23), none, (.load 6 true (.t 1))⟩,
     ⟨(some 24), none, (.call 7 [(.t 23)])⟩,
     ⟨(some 22), none, (.mov (.t 24))⟩,
     ⟨(some 25), none, (.ext 0 (.t 22))⟩,
     ⟨(some 26), none, (.ext 1 (.t 22))⟩,
     ⟨(some 5), none, (.mov (.t 25))⟩,
     ⟨(some 6), none, (.mov (.t 26))⟩])
  (.seq (.seq (.region false [] [
     ⟨(some 27), none, (.mov (.t 4))⟩,
     ⟨(some 28), none, (.bin .neq 31 (.t 27) (.v (.int .i64 0)))⟩])
  (.cond (.t 28)
    (.seq (.region false [] [
       ⟨(some 29), none, (.call 8 [])⟩,
       ⟨(some 30), none, (.mov (.t 29))⟩,
       ⟨(some 31), (some (30, true)), (.mov (.t 3))⟩,
       ⟨(some 32), (some (30, true)), (.len (.t 31))⟩,
       ⟨(some 33), (some (30, true)), (.bin .eql 3 (.t 32) (.v (.int .i64 0)))⟩,
       ⟨(some 34), none, (.pick (.t 30) (.t 33) (.v (.bool false)))⟩,
       ⟨(some 35), none, (.mov (.t 34))⟩,
       ⟨(some 36), (some (35, true)), (.mov (.t 6))⟩,
       ⟨(some 37), (some (35, true)), (.mov (.t 4))⟩,
       ⟨(some 38), (some (35, true)), (.bin .eql 31 (.t 36) (.t 37))⟩,
       ⟨(some 39), (some (35, true)), (.mov (.t 38))⟩,
       ⟨(some 40), (some (39, false)), (.mov (.t 6))⟩,
       ⟨(some 41), (some (39, false)), (.bin .eql 31 (.t 40) (.v (.int .i64 0)))⟩,
       ⟨(some 42), (some (39, false)), (.mov (.t 41))⟩,
       ⟨(some 43), (some (42, true)), (.mov (.t 4))⟩,
       ⟨(some 44), (some (42, true)), (.bin .eql 31 (.t 43) (.v (.int .i64 14)))⟩,
       ⟨(some 45), (some (39, false)), (.pick (.t 42) (.t 44) (.v (.bool false)))⟩,
       ⟨(some 46), (some (35, true)), (.pick (.t 39) (.v (.bool true)) (.t 45))⟩,
       ⟨(some 47), none, (.pick (.t 35) (.t 46) (.v (.bool false)))⟩,
       ⟨(some 2), none, (.mov (.t 47))⟩])
    .ret)
    .skip))
  (.seq (.seq (.region false [] [
     ⟨(some 48), none, (.mov (.t 6))⟩,
     ⟨(some 49), none, (.bin .neq 31 (.t 48) (.v (.int .i64 0)))⟩,
     ⟨(some 50), none, (.mov (.t 49))⟩,
     ⟨(some 51), (some (50, false)), (.mov (.t 3))⟩,
     ⟨(some 52), (some (50, false)), (.len (.t 51))⟩,
     ⟨(some 53), (some (50, false)), (.fld 3 (.t 1))⟩,
     ⟨(some 54), (some (50, false)), (.load 1 false (.t 53))⟩,
     ⟨(some 55), (some (50, false)), (.len (.t 54))⟩,
     ⟨(some 56), (some (50, false)), (.bin .neq 3 (.t 52) (.t 55))⟩,
     ⟨(some 57), none, (.pick (.t 50) (.v (.bool true)) (.t 56))⟩])
  (.cond (.t 57)
    (.seq (.region false [] [
       ⟨(some 2), none, (.mov (.v (.bool false)))⟩])
    .ret)
    .skip))
  (.seq (.region false [] [
     ⟨(some 7), none, (.mov (.v (.int .i64 0)))⟩,
     ⟨(some 8), none, (.mov (.v (.int .i64 0)))⟩])
  (.seq (.seq (.region false [] [
     ⟨(some 58), none, (.fld 3 (.t 1))⟩,
     ⟨(some 59), none, (.load 1 false (.t 58))⟩,
     ⟨(some 60), none, (.len (.t 59))⟩,
     ⟨(some 61), none, (.mov (.v (.int .i64 0)))⟩])
  (.block 0 (.loop (.seq (.region false [] [
       ⟨(some 62), none, (.bin .lss 3 (.t 61) (.t 60))⟩])
    (.seq (.cond (.t 62)
      .skip
      (.exit 0))
    (.seq (.block 1 (.seq (.region false [] [
        ⟨(some 63), none, (.mov (.t 61))⟩,
        ⟨(some 64), none, (.idx 5 (.t 59) (.t 61))⟩,
        ⟨(some 65), none, (.load 5 true (.t 64))⟩,
        ⟨(some 10), none, (.alloc 39 (.agg #[(.string ⟨#[]⟩), (.string ⟨#[]⟩), (.int .i64 0), (.int .i64 0), (.int .i64 0)]))⟩,
        ⟨(some 9), none, (.mov (.t 63))⟩,
        ⟨none, none, (.store 5 (.t 10) (.t 65))⟩])
     (.seq (.seq (.region true [[], [], [0, 1], [2], [3], [4], [5], [5], [6, 7, 5], [8, 5], [5], [10, 5], [9, 11, 5], [12, 5, 5], [13], [13], [14, 15, 13], [16, 13], [13], [18, 13], [17, 19, 13], [13, 20, 5], [5, 21]] [
        ⟨(some 66), none, (.mov (.t 3))⟩,
        ⟨(some 67), none, (.mov (.t 9))⟩,
        ⟨(some 68), none, (.idx 1 (.t 66) (.t 67))⟩,
        ⟨(some 69), none, (.load 1 false (.t 68))⟩,
        ⟨(some 70), none, (.bin .neq 3 (.t 69) (.v (.int .i64 0)))⟩,
        ⟨(some 71), none, (.mov (.t 70))⟩,
        ⟨(some 72), (some (71, true)), (.mov (.t 3))⟩,
        ⟨(some 73), (some (71, true)), (.mov (.t 9))⟩,
        ⟨(some 74), (some (71, true)), (.idx 1 (.t 72) (.t 73))⟩,
        ⟨(some 75), (some (71, true)), (.load 1 false (.t 74))⟩,
        ⟨(some 76), (some (71, true)), (.fld 2 (.t 10))⟩,
        ⟨(some 77), (some (71, true)), (.load 1 false (.t 76))⟩,
        ⟨(some 78), (some (71, true)), (.bin .lss 3 (.t 75) (.t 77))⟩,
        ⟨(some 79), (some (71, true)), (.mov (.t 78))⟩,
        ⟨(some 80), (some (79, false)), (.mov (.t 3))⟩,
        ⟨(some 81), (some (79, false)), (.mov (.t 9))⟩,
        ⟨(some 82), (some (79, false)), (.idx 1 (.t 80) (.t 81))⟩,
        ⟨(some 83), (some (79, false)), (.load 1 false (.t 82))⟩,
        ⟨(some 84), (some (79, false)), (.fld 3 (.t 10))⟩,
        ⟨(some 85), (some (79, false)), (.load 1 false (.t 84))⟩,
        ⟨(some 86), (some (79, false)), (.bin .gtr 3 (.t 83) (.t 85))⟩,
        ⟨(some 87), (some (71, true)), (.pick (.t 79) (.v (.bool true)) (.t 86))⟩,
        ⟨(some 88), none, (.pick (.t 71) (.t 87) (.v (.bool false)))⟩])
     (.cond (.t 88)
       (.seq (.region false [] [
          ⟨(some 2), none, (.mov (.v (.bool false)))⟩])
       .ret)
       .skip))
     (.region false [] [
        ⟨(some 89), none, (.mov (.t 7))⟩,
        ⟨(some 90), none, (.mov (.t 3))⟩,
        ⟨(some 91), none, (.mov (.t 9))⟩,
        ⟨(some 92), none, (.idx 1 (.t 90) (.t 91))⟩,
        ⟨(some 93), none, (.load 1 false (.t 92))⟩,
        ⟨(some 94), none, (.bin .add 3 (.t 89) (.t 93))⟩,
        ⟨(some 7), none, (.mov (.t 94))⟩]))))
    (.region false [] [
       ⟨(some 95), none, (.bin .add 3 (.t 61) (.v (.int .i64 1)))⟩,
       ⟨(some 61), none, (.mov (.t 95))⟩])))))))
  (.seq (.seq (.region false [] [
     ⟨(some 96), none, (.mov (.t 5))⟩,
     ⟨(some 97), none, (.len (.t 96))⟩,
     ⟨(some 98), none, (.mov (.v (.int .i64 0)))⟩])
  (.block 2 (.loop (.seq (.region false [] [
       ⟨(some 99), none, (.bin .lss 3 (.t 98) (.t 97))⟩])
    (.seq (.cond (.t 99)
      .skip
      (.exit 2))
    (.seq (.block 3 (.seq (.region false [] [
        ⟨(some 100), none, (.idx 3 (.t 96) (.t 98))⟩,
        ⟨(some 101), none, (.load 3 true (.t 100))⟩,
        ⟨(some 12), none, (.alloc 41 (.agg #[(.int .i64 0), (.int .i64 0), (.int .i64 0)]))⟩,
        ⟨none, none, (.store 3 (.t 12) (.t 101))⟩])
     (.seq (.seq (.region false [] [
        ⟨(some 102), none, (.fld 0 (.t 12))⟩,
        ⟨(some 103), none, (.load 1 false (.t 102))⟩,
        ⟨(some 104), none, (.fld 1 (.t 12))⟩,
        ⟨(some 105), none, (.load 1 false (.t 104))⟩,
        ⟨(some 106), none, (.bin .gtr 3 (.t 103) (.t 105))⟩])
     (.cond (.t 106)
       (.seq (.region false [] [
          ⟨(some 2), none, (.mov (.v (.bool false)))⟩])
       .ret)
       .skip))
     (.region false [] [
        ⟨(some 107), none, (.mov (.t 8))⟩,
        ⟨(some 108), none, (.fld 2 (.t 12))⟩,
        ⟨(some 109), none, (.load 1 false (.t 108))⟩,
        ⟨(some 110), none, (.bin .add 3 (.t 107) (.t 109))⟩,
        ⟨(some 8), none, (.mov (.t 110))⟩]))))
    (.region false [] [
       ⟨(some 111), none, (.bin .add 3 (.t 98) (.v (.int .i64 1)))⟩,
       ⟨(some 98), none, (.mov (.t 111))⟩])))))))
  (.seq (.seq (.region false [] [
     ⟨(some 112), none, (.fld 4 (.t 1))⟩,
     ⟨(some 113), none, (.load 1 false (.t 112))⟩,
     ⟨(some 114), none, (.len (.t 113))⟩,
     ⟨(some 115), none, (.mov (.v (.int .i64 0)))⟩])
  (.block 4 (.loop (.seq (.region false [] [
       ⟨(some 116), none, (.bin .lss 3 (.t 115) (.t 114))⟩])
    (.seq (.cond (.t 116)
      .skip
      (.exit 4))
    (.seq (.block 5 (.seq (.region false [] [
        ⟨(some 117), none, (.idx 3 (.t 113) (.t 115))⟩,
        ⟨(some 118), none, (.load 3 true (.t 117))⟩,
        ⟨(some 14), none, (.alloc 43 (.agg #[(.string ⟨#[]⟩), (.string ⟨#[]⟩), (.int .i64 0)]))⟩,
        ⟨none, none, (.store 3 (.t 14) (.t 118))⟩])
     (.region false [] [
        ⟨(some 119), none, (.mov (.t 8))⟩,
        ⟨(some 120), none, (.fld 2 (.t 14))⟩,
        ⟨(some 121), none, (.load 1 false (.t 120))⟩,
        ⟨(some 122), none, (.bin .sub 3 (.t 119) (.t 121))⟩,
        ⟨(some 8), none, (.mov (.t 122))⟩])))
    (.region false [] [
       ⟨(some 123), none, (.bin .add 3 (.t 115) (.v (.int .i64 1)))⟩,
       ⟨(some 115), none, (.mov (.t 123))⟩])))))))
  (.seq (.seq (.region false [] [
     ⟨(some 124), none, (.fld 4 (.t 1))⟩,
     ⟨(some 125), none, (.load 1 false (.t 124))⟩,
     ⟨(some 126), none, (.len (.t 125))⟩,
     ⟨(some 127), none, (.mov (.v (.int .i64 0)))⟩])
  (.block 6 (.loop (.seq (.region false [] [
       ⟨(some 128), none, (.bin .lss 3 (.t 127) (.t 126))⟩])
    (.seq (.cond (.t 128)
      .skip
      (.exit 6))
    (.seq (.block 7 (.seq (.region false [] [
        ⟨(some 129), none, (.idx 3 (.t 125) (.t 127))⟩,
        ⟨(some 130), none, (.load 3 true (.t 129))⟩,
        ⟨(some 16), none, (.alloc 43 (.agg #[(.string ⟨#[]⟩), (.string ⟨#[]⟩), (.int .i64 0)]))⟩,
        ⟨none, none, (.store 3 (.t 16) (.t 130))⟩])
     (.region false [] [
        ⟨(some 131), none, (.mov (.t 7))⟩,
        ⟨(some 132), none, (.fld 2 (.t 16))⟩,
        ⟨(some 133), none, (.load 1 false (.t 132))⟩,
        ⟨(some 134), none, (.bin .sub 3 (.t 131) (.t 133))⟩,
        ⟨(some 7), none, (.mov (.t 134))⟩])))
    (.region false [] [
       ⟨(some 135), none, (.bin .add 3 (.t 127) (.v (.int .i64 1)))⟩,
       ⟨(some 127), none, (.mov (.t 135))⟩])))))))
  (.seq (.region false [] [
     ⟨(some 136), none, (.call 8 [])⟩,
     ⟨(some 137), none, (.mov (.t 136))⟩,
     ⟨(some 138), (some (137, true)), (.mov (.t 7))⟩,
     ⟨(some 139), (some (137, true)), (.bin .eql 3 (.t 138) (.v (.int .i64 0)))⟩,
     ⟨(some 140), none, (.pick (.t 137) (.t 139) (.v (.bool false)))⟩,
     ⟨(some 141), none, (.mov (.t 140))⟩,
     ⟨(some 142), (some (141, true)), (.mov (.t 8))⟩,
     ⟨(some 143), (some (141, true)), (.bin .eql 3 (.t 142) (.v (.int .i64 0)))⟩,
     ⟨(some 144), none, (.pick (.t 141) (.t 143) (.v (.bool false)))⟩,
     ⟨(some 2), none, (.mov (.t 144))⟩])
  .ret)))))))))))
theorem k3 : FnIs Try.prog 3 145 [.t 2] a3 := ⟨_, _, Try.func3, rfl, by kernel_rfl, by kernel_rfl, rfl⟩

set_option maxRecDepth 20000 in
set_option maxHeartbeats 2000000 in
theorem s3 (n : Net) (hk : NetOk n) : Aw.Spec Try.prog 3 [] [neta n] (Gives (· = B true)) := by
  refine Aw.Spec.givesW k3 rfl rfl fun E hn hnp hp => ?_
  unfold a3
  have pin : ∀ r, E.pin r = none := fun r => hp.none hnp (Nat.zero_le _)
  refine AWp.ofD [] [] hn mixed rfl ?_
  simp (config := { maxSteps := 2000000 }) only [go_sem, ↓reduceIte, Int.reduceToNat, Nat.reduceMul, Int.reduceBEq, Int.reduceBNe, Nat.reduceBEq, Nat.reduceAdd, Nat.reduceSub, Nat.reduceLeDiff, Nat.reduceEqDiff, Nat.reduceLT, reduceCtorEq]
  refine AWpL.callA [] (s6 n hk) rfl rfl (by rw [hn]; rfl) rfl (fun r hr => by cases hr) fun rg v hv' => ?_
  obtain ⟨rfl, rfl⟩ := hv'
  refine ⟨Nat.zero_le _, ?_⟩
  rw [retS_nil]
  refine AWpL.ofM hn rfl ?_
  simp (config := { maxSteps := 2000000 }) only [go_sem, ↓reduceIte, Int.reduceToNat, Nat.reduceMul, Int.reduceBEq, Int.reduceBNe, Nat.reduceBEq, Nat.reduceAdd, Nat.reduceSub, Nat.reduceLeDiff, Nat.reduceEqDiff, Nat.reduceLT, reduceCtorEq]
  refine AWpL.callA [] (s7 n hk) rfl rfl (by rw [hn]; rfl) rfl (fun r hr => by cases hr) fun rg v hv' => ?_
  refine ⟨Nat.zero_le _, ?_⟩
  by_cases h0 : netF n = 0
  · obtain ⟨rfl, rfl⟩ := hv'.2 h0
    have hv := netF_zero.1 h0
    have hml := many_le hv
    obtain ⟨hsl, hsb⟩ := sumsF_ok hv
    clear hv'
    generalize hM : (manyF n).toNat = M at *
    rw [retS_new]
    refine AWpL.weak (weak_freeze 1 rfl (pin 1) ?_) (AWpL.ofM hn rfl ?_)
    · simp (config := { maxSteps := 2000000 }) only [go_sem, ↓reduceIte, Int.reduceToNat, Nat.reduceMul, Int.reduceBEq, Int.reduceBNe, Nat.reduceBEq, Nat.reduceAdd, Nat.reduceSub, Nat.reduceLeDiff, Nat.reduceEqDiff, Nat.reduceLT, reduceCtorEq, Nat.le_refl, List.length_map, hsl]
    have htk : ((sumsF n).map smc).take M = (sumsF n).map smc := List.take_of_length_le (by rw [List.length_map, hsl]; exact Nat.le_refl _)
    rcases shareE_cases n with hE | hE | hE
    · simp (config := { maxSteps := 2000000 }) only [go_sem, ↓reduceIte, Int.reduceToNat, Nat.reduceMul, Int.reduceBEq, Int.reduceBNe, Nat.reduceBEq, Nat.reduceAdd, Nat.reduceSub, Nat.reduceLeDiff, Nat.reduceEqDiff, Nat.reduceLT, reduceCtorEq, htk, hE]
      have hP : (shareL n).length = n.gens.l.length := by unfold shareL; rw [if_pos hE]; exact (shG_ok hv _ (Nat.le_refl _)).2.1
      have hG : ∀ j, j < n.gens.l.length → GenP (n.gens.l.getD j default) ((shareL n).getD j 0) := by unfold shareL; rw [if_pos hE]; exact shG_P hv _ (Nat.le_refl _)
      have hT := share_tot hE
      have hD : dem (sumsF n) = tot (ldem n) := dem_F hv
      have h10 := hv.nge
      have h12 := hv.nlo
      generalize shareL n = P at *
      have hPb : ∀ i, 0 ≤ tot (P.take i) ∧ tot (P.take i) ≤ 1000000 := fun i => by
        have := tot_le (c := 100000) (l := P.take i) fun x hx => by
          obtain ⟨j, hj, rfl⟩ := List.mem_iff_getElem.1 (List.mem_of_mem_take hx)
          have := hG j (by omega)
          unfold GenP at this
          rw [List.getD_eq_getElem?_getD (l := P), List.getElem?_eq_getElem hj] at this
          exact this.2
        have hl : (P.take i).length ≤ 10 := by rw [List.length_take]; omega
        omega
      have hbl : ∀ i, 0 ≤ tot ((ldem n).take i) ∧ tot ((ldem n).take i) ≤ 1200000 := fun i => by
        have := tot_le (c := 100000) (l := (ldem n).take i) fun x hx => by
          obtain ⟨y, hy, rfl⟩ := List.mem_map.1 (List.mem_of_mem_take hx)
          exact loaE_zero (hv.lo y hy).2
        have hl : ((ldem n).take i).length ≤ 12 := by rw [List.length_take]; unfold ldem; rw [List.length_map]; omega
        omega
      have hsd : ∀ i, 0 ≤ tot (((sumsF n).map Sm.demand).take i) ∧ tot (((sumsF n).map Sm.demand).take i) ≤ 100000000 := fun i => by
        have := tot_le (c := 1200000) (l := ((sumsF n).map Sm.demand).take i) fun x hx => by
          obtain ⟨y, hy, rfl⟩ := List.mem_map.1 (List.mem_of_mem_take hx)
          have := sumsF_mem hv hy
          unfold SmB at this
          exact ⟨by omega, by omega⟩
        have hl : (((sumsF n).map Sm.demand).take i).length ≤ 24 := by rw [List.length_take, List.length_map]; omega
        omega
      have h00 : ∀ z : Int, z - tot [] = z := fun z => by show z - 0 = z; omega
      have e9 : ((P.length : Int) != (n.gens.l.length : Int)) = false := by rw [hP]; simp
      refine ⟨(fun h => by rw [e9] at h; cases h), fun _ => ?_⟩
      refine AWp.loop (fun k s => ∃ i : Nat, i + k = n.gens.l.length ∧ Weak E s ⟨[(1, .ptr 0 0 0), (3, .imm none false 1 (P.map ic)), (5, .imm none true 3 ((sumsF n).map smc)), (7, I (tot (P.take i))), (8, I 0), (59, n.gens.av 5 gec), (60, I n.gens.l.length), (61, I i)], [.box 29 (netc n)]⟩) (n := n.gens.l.length)
        ⟨0, by omega, weak_to [0] hp hnp rfl (by simp (config := { maxSteps := 2000000 }) only [go_sem, ↓reduceIte, Int.reduceToNat, Nat.reduceMul, Int.reduceBEq, Int.reduceBNe, Nat.reduceBEq, Nat.reduceAdd, Nat.reduceSub, Nat.reduceLeDiff, Nat.reduceEqDiff, Nat.reduceLT, reduceCtorEq, Int.natCast_zero, Aw.pos]; rfl) (by simp (config := { maxSteps := 2000000 }) only [go_sem, ↓reduceIte, Int.reduceToNat, Nat.reduceMul, Int.reduceBEq, Int.reduceBNe, Nat.reduceBEq, Nat.reduceAdd, Nat.reduceSub, Nat.reduceLeDiff, Nat.reduceEqDiff, Nat.reduceLT, reduceCtorEq, Aw.renR, Aw.pos])⟩ ?_
      rintro k s ⟨i, hik, hw⟩
      refine AWp.weak hw (AWp.ofD [] [] hn mixed rfl ?_)
      rcases Nat.lt_or_ge i n.gens.l.length with hlt | hge
      · have e0 : decide ((i : Int) < (n.gens.l.length : Int)) = true := decide_eq_true (by omega)
        have e1 := getD_mapD default gec hlt
        have e2 : IntKind.i64.wrap ((i : Int) + 1) = ((i + 1 : Nat) : Int) := by rw [w64 (by omega) (by omega)]; omega
        have e3 := getD_mapD 0 ic (l := P) (i := i) (by omega)
        have ht : tot (P.take (i + 1)) = tot (P.take i) + P.getD i 0 := by rw [tot_take (by omega), List.getD_eq_getElem?_getD, List.getElem?_eq_getElem (by omega)]; rfl
        have hg := hG i hlt
        have hb1 := hPb i
        generalize n.gens.l.getD i default = x at *
        generalize P.getD i 0 = p at *
        unfold GenP at hg
        have e4 : IntKind.i64.wrap (tot (P.take i) + p) = tot (P.take (i + 1)) := by rw [ht]; exact w64 (by omega) (by omega)
        simp (config := { maxSteps := 2000000 }) only [go_sem, ↓reduceIte, Int.reduceToNat, Nat.reduceMul, Int.reduceBEq, Int.reduceBNe, Nat.reduceBEq, Nat.reduceAdd, Nat.reduceSub, Nat.reduceLeDiff, Nat.reduceEqDiff, Nat.reduceLT, reduceCtorEq, e0, e1, e2, e3, e4]
        refine ⟨⟨by omega, by omega⟩, ⟨by omega, by omega⟩, fun h => ⟨h, by omega, by omega⟩, fun h => ⟨h, by omega, by omega⟩, fun h => ⟨h, fun h2 => by rw [h, h2]; rfl⟩, fun h => ?_, fun h => ⟨⟨by omega, by omega⟩, ?_⟩⟩
        · rw [Bool.and_eq_true, bne_iff_ne, Bool.or_eq_true, decide_eq_true_eq, decide_eq_true_eq] at h
          exfalso
          have := h.1
          rcases hg.1 with h3 | h3
          · exact this h3
          · omega
        · exact ⟨k - 1, by omega, i + 1, by omega, weak_to [0] hp hnp rfl (by simp (config := { maxSteps := 2000000 }) only [go_sem, ↓reduceIte, Int.reduceToNat, Nat.reduceMul, Int.reduceBEq, Int.reduceBNe, Nat.reduceBEq, Nat.reduceAdd, Nat.reduceSub, Nat.reduceLeDiff, Nat.reduceEqDiff, Nat.reduceLT, reduceCtorEq, Aw.pos]) (by simp (config := { maxSteps := 2000000 }) only [go_sem, ↓reduceIte, Int.reduceToNat, Nat.reduceMul, Int.reduceBEq, Int.reduceBNe, Nat.reduceBEq, Nat.reduceAdd, Nat.reduceSub, Nat.reduceLeDiff, Nat.reduceEqDiff, Nat.reduceLT, reduceCtorEq, Aw.renR, Aw.pos])⟩
      have e0 : decide ((i : Int) < (n.gens.l.length : Int)) = false := decide_eq_false (by omega)
      have htk2 : P.take i = P := List.take_of_length_le (by omega)
      simp (config := { maxSteps := 2000000 }) only [go_sem, ↓reduceIte, Int.reduceToNat, Nat.reduceMul, Int.reduceBEq, Int.reduceBNe, Nat.reduceBEq, Nat.reduceAdd, Nat.reduceSub, Nat.reduceLeDiff, Nat.reduceEqDiff, Nat.reduceLT, reduceCtorEq, e0, htk2]
      clear hw hik hge e0 htk2
      refine AWp.loop (fun k s => ∃ i : Nat, i + k = M ∧ Weak E s ⟨[(1, .ptr 0 0 0), (7, I (tot P)), (8, I (tot (((sumsF n).map Sm.demand).take i))), (96, .imm none true 3 ((sumsF n).map smc)), (97, I M), (98, I i)], [.box 29 (netc n)]⟩) (n := M)
        ⟨0, by omega, weak_to [0] hp hnp rfl (by simp (config := { maxSteps := 2000000 }) only [go_sem, ↓reduceIte, Int.reduceToNat, Nat.reduceMul, Int.reduceBEq, Int.reduceBNe, Nat.reduceBEq, Nat.reduceAdd, Nat.reduceSub, Nat.reduceLeDiff, Nat.reduceEqDiff, Nat.reduceLT, reduceCtorEq, Int.natCast_zero, Aw.pos, hsl]; rfl) (by simp (config := { maxSteps := 2000000 }) only [go_sem, ↓reduceIte, Int.reduceToNat, Nat.reduceMul, Int.reduceBEq, Int.reduceBNe, Nat.reduceBEq, Nat.reduceAdd, Nat.reduceSub, Nat.reduceLeDiff, Nat.reduceEqDiff, Nat.reduceLT, reduceCtorEq, Aw.renR, Aw.pos])⟩ ?_
      rintro k s ⟨i, hik, hw⟩
      refine AWp.weak hw (AWp.ofD [] [] hn mixed rfl ?_)
      rcases Nat.lt_or_ge i M with hlt | hge
      · have e0 : decide ((i : Int) < (M : Int)) = true := decide_eq_true (by omega)
        have e1 := getD_mapD default smc (l := sumsF n) (i := i) (by omega)
        have e2 : IntKind.i64.wrap ((i : Int) + 1) = ((i + 1 : Nat) : Int) := by rw [w64 (by omega) (by omega)]; omega
        have ht : tot (((sumsF n).map Sm.demand).take (i + 1)) = tot (((sumsF n).map Sm.demand).take i) + ((sumsF n).getD i default).demand := by
          rw [tot_take (by rw [List.length_map]; omega), List.getElem_map, List.getD_eq_getElem?_getD, List.getElem?_eq_getElem (by omega)]; rfl
        have hb := hsb i hlt
        have hb1 := hsd i
        generalize (sumsF n).getD i default = x at *
        unfold SmB at hb
        have e4 : IntKind.i64.wrap (tot (((sumsF n).map Sm.demand).take i) + x.demand) = tot (((sumsF n).map Sm.demand).take (i + 1)) := by rw [ht]; exact w64 (by omega) (by omega)
        have e5 : decide (x.least > x.most) = false := decide_eq_false (by omega)
        simp (config := { maxSteps := 2000000 }) only [go_sem, ↓reduceIte, Int.reduceToNat, Nat.reduceMul, Int.reduceBEq, Int.reduceBNe, Nat.reduceBEq, Nat.reduceAdd, Nat.reduceSub, Nat.reduceLeDiff, Nat.reduceEqDiff, Nat.reduceLT, reduceCtorEq, e0, e1, e2, e4, e5]
        (repeat (refine And.intro (by first | omega | (refine ⟨by omega, by omega⟩) | (refine ⟨by omega, by omega, by omega⟩) | (simp only [List.length_map, List.length_range, List.length_append, List.length_cons, List.length_nil, List.length_replicate, List.length_set]; omega) | (simp; omega) | (intro hgd; cases hgd) | (intro hgd; refine ⟨hgd, ?_⟩; first | omega | (refine ⟨by omega, by omega⟩) | (simp; omega))) ?_))
        exact ⟨k - 1, by omega, i + 1, by omega, weak_to [0] hp hnp rfl (by simp (config := { maxSteps := 2000000 }) only [go_sem, ↓reduceIte, Int.reduceToNat, Nat.reduceMul, Int.reduceBEq, Int.reduceBNe, Nat.reduceBEq, Nat.reduceAdd, Nat.reduceSub, Nat.reduceLeDiff, Nat.reduceEqDiff, Nat.reduceLT, reduceCtorEq, Aw.pos]) (by simp (config := { maxSteps := 2000000 }) only [go_sem, ↓reduceIte, Int.reduceToNat, Nat.reduceMul, Int.reduceBEq, Int.reduceBNe, Nat.reduceBEq, Nat.reduceAdd, Nat.reduceSub, Nat.reduceLeDiff, Nat.reduceEqDiff, Nat.reduceLT, reduceCtorEq, Aw.renR, Aw.pos])⟩
      have e0 : decide ((i : Int) < (M : Int)) = false := decide_eq_false (by omega)
      have htk3 : ((sumsF n).map Sm.demand).take i = (sumsF n).map Sm.demand := List.take_of_length_le (by rw [List.length_map]; omega)
      have hDD : tot ((sumsF n).map Sm.demand) = tot (ldem n) := hD
      have hTb := hbl n.loads.l.length
      rw [show (ldem n).take n.loads.l.length = ldem n from List.take_of_length_le (by unfold ldem; rw [List.length_map]; exact Nat.le_refl _)] at hTb
      simp (config := { maxSteps := 2000000 }) only [go_sem, ↓reduceIte, Int.reduceToNat, Nat.reduceMul, Int.reduceBEq, Int.reduceBNe, Nat.reduceBEq, Nat.reduceAdd, Nat.reduceSub, Nat.reduceLeDiff, Nat.reduceEqDiff, Nat.reduceLT, reduceCtorEq, e0, htk3, hDD, hT]
      clear hw hik hge e0 htk3
      refine AWp.loop (fun k s => ∃ i : Nat, i + k = n.loads.l.length ∧ Weak E s ⟨[(1, .ptr 0 0 0), (8, I (tot (ldem n) - tot ((ldem n).take i))), (7, I (tot (ldem n))), (113, n.loads.av 3 loc), (114, I n.loads.l.length), (115, I i)], [.box 29 (netc n)]⟩) (n := n.loads.l.length)
        ⟨0, by omega, weak_to [0] hp hnp rfl (by simp (config := { maxSteps := 2000000 }) only [go_sem, ↓reduceIte, Int.reduceToNat, Nat.reduceMul, Int.reduceBEq, Int.reduceBNe, Nat.reduceBEq, Nat.reduceAdd, Nat.reduceSub, Nat.reduceLeDiff, Nat.reduceEqDiff, Nat.reduceLT, reduceCtorEq, Int.natCast_zero, Aw.pos, h00]) (by simp (config := { maxSteps := 2000000 }) only [go_sem, ↓reduceIte, Int.reduceToNat, Nat.reduceMul, Int.reduceBEq, Int.reduceBNe, Nat.reduceBEq, Nat.reduceAdd, Nat.reduceSub, Nat.reduceLeDiff, Nat.reduceEqDiff, Nat.reduceLT, reduceCtorEq, Aw.renR, Aw.pos])⟩ ?_
      rintro k s ⟨i, hik, hw⟩
      refine AWp.weak hw (AWp.ofD [] [] hn mixed rfl ?_)
      rcases Nat.lt_or_ge i n.loads.l.length with hlt | hge
      · have e0 : decide ((i : Int) < (n.loads.l.length : Int)) = true := decide_eq_true (by omega)
        have e1 := getD_map loc hlt
        have e2 : IntKind.i64.wrap ((i : Int) + 1) = ((i + 1 : Nat) : Int) := by rw [w64 (by omega) (by omega)]; omega
        have ht : tot ((ldem n).take (i + 1)) = tot ((ldem n).take i) + n.loads.l[i].demand := by
          rw [tot_take (by unfold ldem; rw [List.length_map]; exact hlt)]
          unfold ldem
          rw [List.getElem_map]
        have hb1 := hbl i
        have hb2 := hbl (i + 1)
        generalize n.loads.l[i] = x at *
        have e3 : IntKind.i64.wrap (tot (ldem n) - tot ((ldem n).take i) - x.demand) = tot (ldem n) - tot ((ldem n).take (i + 1)) := by rw [ht, w64 (by omega) (by omega)]; omega
        simp (config := { maxSteps := 2000000 }) only [go_sem, ↓reduceIte, Int.reduceToNat, Nat.reduceMul, Int.reduceBEq, Int.reduceBNe, Nat.reduceBEq, Nat.reduceAdd, Nat.reduceSub, Nat.reduceLeDiff, Nat.reduceEqDiff, Nat.reduceLT, reduceCtorEq, e0, e1, e2, e3]
        (repeat (refine And.intro (by first | omega | (refine ⟨by omega, by omega⟩) | (refine ⟨by omega, by omega, by omega⟩) | (simp only [List.length_map, List.length_range, List.length_append, List.length_cons, List.length_nil, List.length_replicate, List.length_set]; omega) | (simp; omega) | (intro hgd; cases hgd) | (intro hgd; refine ⟨hgd, ?_⟩; first | omega | (refine ⟨by omega, by omega⟩) | (simp; omega))) ?_))
        exact ⟨k - 1, by omega, i + 1, by omega, weak_to [0] hp hnp rfl (by simp (config := { maxSteps := 2000000 }) only [go_sem, ↓reduceIte, Int.reduceToNat, Nat.reduceMul, Int.reduceBEq, Int.reduceBNe, Nat.reduceBEq, Nat.reduceAdd, Nat.reduceSub, Nat.reduceLeDiff, Nat.reduceEqDiff, Nat.reduceLT, reduceCtorEq, Aw.pos]) (by simp (config := { maxSteps := 2000000 }) only [go_sem, ↓reduceIte, Int.reduceToNat, Nat.reduceMul, Int.reduceBEq, Int.reduceBNe, Nat.reduceBEq, Nat.reduceAdd, Nat.reduceSub, Nat.reduceLeDiff, Nat.reduceEqDiff, Nat.reduceLT, reduceCtorEq, Aw.renR, Aw.pos])⟩
      have e0 : decide ((i : Int) < (n.loads.l.length : Int)) = false := decide_eq_false (by omega)
      have htk4 : (ldem n).take i = ldem n := List.take_of_length_le (by unfold ldem; rw [List.length_map]; omega)
      simp (config := { maxSteps := 2000000 }) only [go_sem, ↓reduceIte, Int.reduceToNat, Nat.reduceMul, Int.reduceBEq, Int.reduceBNe, Nat.reduceBEq, Nat.reduceAdd, Nat.reduceSub, Nat.reduceLeDiff, Nat.reduceEqDiff, Nat.reduceLT, reduceCtorEq, e0, htk4]
      clear hw hik hge e0 htk4
      refine AWp.loop (fun k s => ∃ i : Nat, i + k = n.loads.l.length ∧ Weak E s ⟨[(1, .ptr 0 0 0), (7, I (tot (ldem n) - tot ((ldem n).take i))), (8, I (tot (ldem n) - tot (ldem n))), (125, n.loads.av 3 loc), (126, I n.loads.l.length), (127, I i)], [.box 29 (netc n)]⟩) (n := n.loads.l.length)
        ⟨0, by omega, weak_to [0] hp hnp rfl (by simp (config := { maxSteps := 2000000 }) only [go_sem, ↓reduceIte, Int.reduceToNat, Nat.reduceMul, Int.reduceBEq, Int.reduceBNe, Nat.reduceBEq, Nat.reduceAdd, Nat.reduceSub, Nat.reduceLeDiff, Nat.reduceEqDiff, Nat.reduceLT, reduceCtorEq, Int.natCast_zero, Aw.pos, h00]) (by simp (config := { maxSteps := 2000000 }) only [go_sem, ↓reduceIte, Int.reduceToNat, Nat.reduceMul, Int.reduceBEq, Int.reduceBNe, Nat.reduceBEq, Nat.reduceAdd, Nat.reduceSub, Nat.reduceLeDiff, Nat.reduceEqDiff, Nat.reduceLT, reduceCtorEq, Aw.renR, Aw.pos])⟩ ?_
      rintro k s ⟨i, hik, hw⟩
      refine AWp.weak hw (AWp.ofD [] [] hn mixed rfl ?_)
      rcases Nat.lt_or_ge i n.loads.l.length with hlt | hge
      · have e0 : decide ((i : Int) < (n.loads.l.length : Int)) = true := decide_eq_true (by omega)
        have e1 := getD_map loc hlt
        have e2 : IntKind.i64.wrap ((i : Int) + 1) = ((i + 1 : Nat) : Int) := by rw [w64 (by omega) (by omega)]; omega
        have ht : tot ((ldem n).take (i + 1)) = tot ((ldem n).take i) + n.loads.l[i].demand := by
          rw [tot_take (by unfold ldem; rw [List.length_map]; exact hlt)]
          unfold ldem
          rw [List.getElem_map]
        have hb1 := hbl i
        have hb2 := hbl (i + 1)
        generalize n.loads.l[i] = x at *
        have e3 : IntKind.i64.wrap (tot (ldem n) - tot ((ldem n).take i) - x.demand) = tot (ldem n) - tot ((ldem n).take (i + 1)) := by rw [ht, w64 (by omega) (by omega)]; omega
        simp (config := { maxSteps := 2000000 }) only [go_sem, ↓reduceIte, Int.reduceToNat, Nat.reduceMul, Int.reduceBEq, Int.reduceBNe, Nat.reduceBEq, Nat.reduceAdd, Nat.reduceSub, Nat.reduceLeDiff, Nat.reduceEqDiff, Nat.reduceLT, reduceCtorEq, e0, e1, e2, e3]
        (repeat (refine And.intro (by first | omega | (refine ⟨by omega, by omega⟩) | (refine ⟨by omega, by omega, by omega⟩) | (simp only [List.length_map, List.length_range, List.length_append, List.length_cons, List.length_nil, List.length_replicate, List.length_set]; omega) | (simp; omega) | (intro hgd; cases hgd) | (intro hgd; refine ⟨hgd, ?_⟩; first | omega | (refine ⟨by omega, by omega⟩) | (simp; omega))) ?_))
        exact ⟨k - 1, by omega, i + 1, by omega, weak_to [0] hp hnp rfl (by simp (config := { maxSteps := 2000000 }) only [go_sem, ↓reduceIte, Int.reduceToNat, Nat.reduceMul, Int.reduceBEq, Int.reduceBNe, Nat.reduceBEq, Nat.reduceAdd, Nat.reduceSub, Nat.reduceLeDiff, Nat.reduceEqDiff, Nat.reduceLT, reduceCtorEq, Aw.pos]) (by simp (config := { maxSteps := 2000000 }) only [go_sem, ↓reduceIte, Int.reduceToNat, Nat.reduceMul, Int.reduceBEq, Int.reduceBNe, Nat.reduceBEq, Nat.reduceAdd, Nat.reduceSub, Nat.reduceLeDiff, Nat.reduceEqDiff, Nat.reduceLT, reduceCtorEq, Aw.renR, Aw.pos])⟩
      have e0 : decide ((i : Int) < (n.loads.l.length : Int)) = false := decide_eq_false (by omega)
      have htk4 : (ldem n).take i = ldem n := List.take_of_length_le (by unfold ldem; rw [List.length_map]; omega)
      simp (config := { maxSteps := 2000000 }) only [go_sem, ↓reduceIte, Int.reduceToNat, Nat.reduceMul, Int.reduceBEq, Int.reduceBNe, Nat.reduceBEq, Nat.reduceAdd, Nat.reduceSub, Nat.reduceLeDiff, Nat.reduceEqDiff, Nat.reduceLT, reduceCtorEq, e0, htk4]
      clear hw hik hge e0 htk4
      (refine AWpL.calle (s8) rfl (by rw [hn]; rfl) (by simp (config := { maxSteps := 2000000 }) only [go_sem, ↓reduceIte, Int.reduceToNat, Nat.reduceMul, Int.reduceBEq, Int.reduceBNe, Nat.reduceBEq, Nat.reduceAdd, Nat.reduceSub, Nat.reduceLeDiff, Nat.reduceEqDiff, Nat.reduceLT, reduceCtorEq]) (AWpL.ofM hn rfl ?_); simp (config := { maxSteps := 2000000 }) only [go_sem, ↓reduceIte, Int.reduceToNat, Nat.reduceMul, Int.reduceBEq, Int.reduceBNe, Nat.reduceBEq, Nat.reduceAdd, Nat.reduceSub, Nat.reduceLeDiff, Nat.reduceEqDiff, Nat.reduceLT, reduceCtorEq])
      have e8 : (tot (ldem n) - tot (ldem n) == 0) = true := by simp
      simp (config := { maxSteps := 2000000 }) only [go_sem, ↓reduceIte, Int.reduceToNat, Nat.reduceMul, Int.reduceBEq, Int.reduceBNe, Nat.reduceBEq, Nat.reduceAdd, Nat.reduceSub, Nat.reduceLeDiff, Nat.reduceEqDiff, Nat.reduceLT, reduceCtorEq, e8]
    · have hL : shareL n = [] := if_neg (by rw [hE]; decide)
      simp (config := { maxSteps := 2000000 }) only [go_sem, ↓reduceIte, Int.reduceToNat, Nat.reduceMul, Int.reduceBEq, Int.reduceBNe, Nat.reduceBEq, Nat.reduceAdd, Nat.reduceSub, Nat.reduceLeDiff, Nat.reduceEqDiff, Nat.reduceLT, reduceCtorEq, htk, hE, hL]
      (refine AWpL.calle (s8) rfl (by rw [hn]; rfl) (by simp (config := { maxSteps := 2000000 }) only [go_sem, ↓reduceIte, Int.reduceToNat, Nat.reduceMul, Int.reduceBEq, Int.reduceBNe, Nat.reduceBEq, Nat.reduceAdd, Nat.reduceSub, Nat.reduceLeDiff, Nat.reduceEqDiff, Nat.reduceLT, reduceCtorEq]) (AWpL.ofM hn rfl ?_); simp (config := { maxSteps := 2000000 }) only [go_sem, ↓reduceIte, Int.reduceToNat, Nat.reduceMul, Int.reduceBEq, Int.reduceBNe, Nat.reduceBEq, Nat.reduceAdd, Nat.reduceSub, Nat.reduceLeDiff, Nat.reduceEqDiff, Nat.reduceLT, reduceCtorEq])
    · exact absurd h0 hE.1
  · obtain ⟨rfl, rfl⟩ := hv'.1 h0
    have h1 : (netF n != 0) = true := by simpa using h0
    have h2 : shareE n = netF n := if_pos h0
    have h3 : shareL n = [] := if_neg (by rw [h2]; exact h0)
    have e9 : (netF n == netF n) = true := by simp
    rw [retS_nil]
    refine AWpL.ofM hn rfl ?_
    simp (config := { maxSteps := 2000000 }) only [go_sem, ↓reduceIte, Int.reduceToNat, Nat.reduceMul, Int.reduceBEq, Int.reduceBNe, Nat.reduceBEq, Nat.reduceAdd, Nat.reduceSub, Nat.reduceLeDiff, Nat.reduceEqDiff, Nat.reduceLT, reduceCtorEq, h1, h2, h3]
    (refine AWpL.calle (s8) rfl (by rw [hn]; rfl) (by simp (config := { maxSteps := 2000000 }) only [go_sem, ↓reduceIte, Int.reduceToNat, Nat.reduceMul, Int.reduceBEq, Int.reduceBNe, Nat.reduceBEq, Nat.reduceAdd, Nat.reduceSub, Nat.reduceLeDiff, Nat.reduceEqDiff, Nat.reduceLT, reduceCtorEq]) (AWpL.ofM hn rfl ?_); simp (config := { maxSteps := 2000000 }) only [go_sem, ↓reduceIte, Int.reduceToNat, Nat.reduceMul, Int.reduceBEq, Int.reduceBNe, Nat.reduceBEq, Nat.reduceAdd, Nat.reduceSub, Nat.reduceLeDiff, Nat.reduceEqDiff, Nat.reduceLT, reduceCtorEq])
end Go.Proofs.Ytmkodhpbjedfkaa
