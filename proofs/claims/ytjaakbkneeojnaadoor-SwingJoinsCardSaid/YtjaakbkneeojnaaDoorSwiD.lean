/- Swing: Join and its law. -/
import Derived.Test.YtjaakbkneeojnaaDoorAwZl
import Derived.Test.YtjaakbkneeojnaaDoorSwiC
set_option linter.unusedVariables false
set_option linter.unusedSimpArgs false
namespace Go.Proofs.YtjaakbkneeojnaaDoor
open Go.Proofs.YtjaakbkneeojnaaDoor.Aw
attribute [local go_sem] Int.natCast_zero Int.natCast_one bne_self_eq_false beq_self_eq_true Bool.not_true Bool.not_false Option.isSome_none Option.isSome_some Aw.bkM_nil Option.getD_some Option.getD_none Nat.sub_zero Int.toNat_zero Aw.frzS Aw.frzT Aw.frzA Aw.frzL Aw.frzR Aw.frzO Aw.frzOL Aw.frzOT Aw.frzOR Aw.killS Aw.mapT Aw.mapR Aw.killM Aw.resAVs Aw.resAV Aw.quietOps Aw.wpP Aw.wpT Aw.wpS Aw.AOp.mild List.getElem?_cons_zero List.getElem?_cons_succ Bool.and_false Bool.and_self Bool.false_and Aw.opOb Aw.gdB Aw.Rnd Aw.subTm List.length_map Int.toNat_natCast and_self Aw.SeqC Aw.stops Aw.Ends Aw.looks Aw.renA Aw.renL Aw.renT Aw.renS Aw.wpO Aw.aop Aw.putTm Aw.St.ev Aw.St.put Aw.St.putO Aw.binAV Aw.intBin Aw.strBin Aw.pickAV Aw.optInt Aw.AV.strip Aw.AV.guard Aw.AV.cells Aw.gdOb Aw.AOp.opds Aw.AOp.still Aw.ptrCells Aw.St.reg Aw.fillAV Aw.fillOb Aw.elsOb Aw.splice Aw.firm Aw.cellish Aw.AV.shut Aw.shutAll Aw.Seq Aw.Blk Aw.retS_nil Aw.mapA Aw.mapL Aw.borA Aw.borOb Aw.allOb Aw.tupOf Aw.params Aw.Opd.of Array.toList Value.cells List.map_cons List.map_nil List.getD_cons_zero List.getD_cons_succ List.getD_nil List.length_cons List.length_nil List.take_succ_cons List.take_zero List.take_nil List.drop_zero List.drop_succ_cons List.drop_nil List.set_cons_zero List.set_cons_succ List.append_nil List.nil_append List.cons_append List.all_cons List.all_nil cond_false cond_true if_true if_false true_and and_true Bool.and_true Bool.true_and Option.map_some Option.map_none false_implies forall_const implies_true forall_eq imp_self Bool.cond_false_right Bool.cond_true_left beq_true beq_false Bool.not_eq_true' Bool.false_eq_true Nat.zero_add Nat.add_zero Aw.eqCells Aw.stopDraw Aw.skipS Aw.exactCap Aw.revealS Aw.srcEls Aw.srcSz
attribute [local go_sem ↓] Aw.look_nil Aw.look_ite Aw.wpL_nil Aw.wpL_op Aw.wpL_gd Aw.wpQ_nil Aw.wpQ_op Aw.wpQ_gd Aw.wpC_draw Aw.wpC_reg Aw.wpC_skip Aw.wpC_ret Aw.wpC_exit Aw.wpC_seq Aw.wpC_block Aw.wpC_loop Aw.wpC_cond Aw.stopAt_nil Aw.stopAt_cons Aw.wpD_skip Aw.wpD_ret Aw.wpD_exit Aw.wpD_region Aw.wpD_draw Aw.wpM_nil Aw.wpM_op Aw.wpM_gd Aw.wpD_seq Aw.wpD_block Aw.wpD_loop Aw.wpD_cond
/- gridhall/swing.Join -/
def a22 : ACode :=
  (.seq (.region false [] [
     ⟨(some 2), none, (.box 24 (.t 0))⟩,
     ⟨(some 3), none, (.box 24 (.t 1))⟩,
     ⟨(some 4), none, (.alloc 24 (.agg #[(.int .i64 0), (.int .i64 0), (.int .i64 0), (.int .i64 0), (.string ⟨#[]⟩)]))⟩,
     ⟨(some 5), none, (.mov (.v (.int .i64 0)))⟩])
  (.seq (.seq (.region false [] [
     ⟨(some 13), none, (.load 5 true (.t 2))⟩,
     ⟨(some 14), none, (.load 5 true (.t 3))⟩,
     ⟨(some 15), none, (.build (.agg #[(.int .i64 0), (.int .i64 0), (.int .i64 0), (.int .i64 0), (.string ⟨#[]⟩), (.int .i64 0), (.int .i64 0), (.int .i64 0), (.int .i64 0), (.string ⟨#[]⟩)]) [(0, (5, (.t 13))), (5, (5, (.t 14)))])⟩,
     ⟨(some 16), none, (.mov (.v (.int .i64 0)))⟩])
  (.block 0 (.loop (.seq (.region false [] [
       ⟨(some 17), none, (.bin .lss 3 (.t 16) (.v (.int .i64 2)))⟩])
    (.seq (.cond (.t 17)
      .skip
      (.exit 0))
    (.seq (.block 1 (.seq (.region false [] [
        ⟨(some 18), none, (.idxv 2 5 true (.t 15) (.t 16))⟩,
        ⟨(some 7), none, (.alloc 24 (.agg #[(.int .i64 0), (.int .i64 0), (.int .i64 0), (.int .i64 0), (.string ⟨#[]⟩)]))⟩,
        ⟨none, none, (.store 5 (.t 7) (.t 18))⟩])
     (.seq (.region false [] [
        ⟨(some 19), none, (.load 5 true (.t 7))⟩,
        ⟨(some 20), none, (.call 18 [(.t 19)])⟩,
        ⟨(some 8), none, (.mov (.t 20))⟩])
     (.seq (.region false [] [
        ⟨(some 21), none, (.mov (.t 8))⟩,
        ⟨(some 22), none, (.bin .neq 25 (.t 21) (.v (.int .i64 0)))⟩])
     (.cond (.t 22)
       (.seq (.region false [] [
          ⟨(some 23), none, (.build (.agg #[(.int .i64 0), (.int .i64 0), (.int .i64 0), (.int .i64 0), (.string ⟨#[]⟩)]) [])⟩,
          ⟨(some 24), none, (.mov (.t 8))⟩,
          ⟨none, none, (.store 5 (.t 4) (.t 23))⟩,
          ⟨(some 5), none, (.mov (.t 24))⟩])
       .ret)
       .skip)))))
    (.region false [] [
       ⟨(some 25), none, (.bin .add 3 (.t 16) (.v (.int .i64 1)))⟩,
       ⟨(some 16), none, (.mov (.t 25))⟩])))))))
  (.seq (.region false [] [
     ⟨(some 26), none, (.fld 0 (.t 2))⟩,
     ⟨(some 27), none, (.load 1 false (.t 26))⟩,
     ⟨(some 28), none, (.fld 0 (.t 3))⟩,
     ⟨(some 29), none, (.load 1 false (.t 28))⟩,
     ⟨(some 30), none, (.bin .add 3 (.t 27) (.t 29))⟩,
     ⟨(some 31), none, (.fld 1 (.t 2))⟩,
     ⟨(some 32), none, (.load 1 false (.t 31))⟩,
     ⟨(some 33), none, (.fld 1 (.t 3))⟩,
     ⟨(some 34), none, (.load 1 false (.t 33))⟩,
     ⟨(some 35), none, (.bin .add 3 (.t 32) (.t 34))⟩,
     ⟨(some 36), none, (.fld 2 (.t 2))⟩,
     ⟨(some 37), none, (.load 1 false (.t 36))⟩,
     ⟨(some 38), none, (.fld 2 (.t 3))⟩,
     ⟨(some 39), none, (.load 1 false (.t 38))⟩,
     ⟨(some 40), none, (.bin .add 3 (.t 37) (.t 39))⟩,
     ⟨(some 41), none, (.fld 3 (.t 2))⟩,
     ⟨(some 42), none, (.load 1 false (.t 41))⟩,
     ⟨(some 43), none, (.fld 3 (.t 3))⟩,
     ⟨(some 44), none, (.load 1 false (.t 43))⟩,
     ⟨(some 45), none, (.bin .add 3 (.t 42) (.t 44))⟩,
     ⟨(some 46), none, (.build (.agg #[(.int .i64 0), (.int .i64 0), (.int .i64 0), (.int .i64 0), (.string ⟨#[]⟩)]) [(0, (1, (.t 30))), (1, (1, (.t 35))), (2, (1, (.t 40))), (3, (1, (.t 45)))])⟩,
     ⟨(some 9), none, (.alloc 24 (.agg #[(.int .i64 0), (.int .i64 0), (.int .i64 0), (.int .i64 0), (.string ⟨#[]⟩)]))⟩,
     ⟨none, none, (.store 5 (.t 9) (.t 46))⟩])
  (.seq (.seq (.region false [] [
     ⟨(some 47), none, (.fld 0 (.t 9))⟩,
     ⟨(some 48), none, (.load 1 false (.t 47))⟩,
     ⟨(some 49), none, (.bin .gtr 3 (.t 48) (.v (.int .i64 1000)))⟩,
     ⟨(some 50), none, (.mov (.t 49))⟩,
     ⟨(some 51), (some (50, false)), (.fld 2 (.t 9))⟩,
     ⟨(some 52), (some (50, false)), (.load 1 false (.t 51))⟩,
     ⟨(some 53), (some (50, false)), (.bin .gtr 3 (.t 52) (.v (.int .i64 100000)))⟩,
     ⟨(some 54), none, (.pick (.t 50) (.v (.bool true)) (.t 53))⟩,
     ⟨(some 55), none, (.mov (.t 54))⟩,
     ⟨(some 56), (some (55, false)), (.fld 3 (.t 9))⟩,
     ⟨(some 57), (some (55, false)), (.load 1 false (.t 56))⟩,
     ⟨(some 58), (some (55, false)), (.bin .gtr 3 (.t 57) (.v (.int .i64 100000)))⟩,
     ⟨(some 59), none, (.pick (.t 55) (.v (.bool true)) (.t 58))⟩])
  (.cond (.t 59)
    (.seq (.region false [] [
       ⟨(some 60), none, (.build (.agg #[(.int .i64 0), (.int .i64 0), (.int .i64 0), (.int .i64 0), (.string ⟨#[]⟩)]) [])⟩,
       ⟨none, none, (.store 5 (.t 4) (.t 60))⟩,
       ⟨(some 5), none, (.mov (.v (.int .i64 2)))⟩])
    .ret)
    .skip))
  (.seq (.region true [[], [0], [1], [], [3], [4, 2], [2, 5, 5], [], [7], [8, 6], [], [10], [11, 9], [9, 12, 12], [6, 13, 13], [], [15, 14, 14, 0, 1, 2, 3, 4, 5, 6, 7, 8, 9, 10, 11, 12, 13, 14, 15]] [
     ⟨(some 61), none, (.fld 0 (.t 2))⟩,
     ⟨(some 62), none, (.load 1 false (.t 61))⟩,
     ⟨(some 63), none, (.call 42 [(.t 62)])⟩,
     ⟨(some 64), none, (.fld 4 (.t 2))⟩,
     ⟨(some 65), none, (.load 1 false (.t 64))⟩,
     ⟨(some 66), none, (.call 41 [(.t 65)])⟩,
     ⟨(some 67), none, (.call 43 [(.t 63), (.t 66)])⟩,
     ⟨(some 68), none, (.fld 0 (.t 3))⟩,
     ⟨(some 69), none, (.load 1 false (.t 68))⟩,
     ⟨(some 70), none, (.call 42 [(.t 69)])⟩,
     ⟨(some 71), none, (.fld 4 (.t 3))⟩,
     ⟨(some 72), none, (.load 1 false (.t 71))⟩,
     ⟨(some 73), none, (.call 41 [(.t 72)])⟩,
     ⟨(some 74), none, (.call 43 [(.t 70), (.t 73)])⟩,
     ⟨(some 75), none, (.call 46 [(.t 67), (.t 74)])⟩,
     ⟨(some 10), none, (.alloc 62 (.agg #[(.bool false), (.slice none 0 0), (.slice none 0 0)]))⟩,
     ⟨none, none, (.store 3 (.t 10) (.t 75))⟩])
  (.seq (.region true [[], [], [1], [2], [0, 3, 3], [4, 4], [5], [6], [6], [7, 5, 0, 1, 2, 3, 4, 5, 6, 7], [8, 9, 0, 1, 2, 3, 4, 5, 6, 7, 8, 9]] [
     ⟨(some 77), none, (.load 3 true (.t 10))⟩,
     ⟨(some 78), none, (.fld 0 (.t 9))⟩,
     ⟨(some 79), none, (.load 1 false (.t 78))⟩,
     ⟨(some 80), none, (.call 42 [(.t 79)])⟩,
     ⟨(some 81), none, (.call 52 [(.t 77), (.t 80)])⟩,
     ⟨(some 82), none, (.call 39 [(.t 81)])⟩,
     ⟨(some 76), none, (.mov (.t 82))⟩,
     ⟨(some 83), none, (.ext 0 (.t 76))⟩,
     ⟨(some 84), none, (.ext 1 (.t 76))⟩,
     ⟨(some 11), none, (.mov (.t 83))⟩,
     ⟨(some 12), none, (.mov (.t 84))⟩])
  (.seq (.seq (.region false [] [
     ⟨(some 85), none, (.mov (.t 12))⟩,
     ⟨(some 86), none, (.bin .neq 25 (.t 85) (.v (.int .i64 0)))⟩])
  (.cond (.t 86)
    (.seq (.region false [] [
       ⟨(some 87), none, (.build (.agg #[(.int .i64 0), (.int .i64 0), (.int .i64 0), (.int .i64 0), (.string ⟨#[]⟩)]) [])⟩,
       ⟨(some 88), none, (.mov (.t 12))⟩,
       ⟨none, none, (.store 5 (.t 4) (.t 87))⟩,
       ⟨(some 5), none, (.mov (.t 88))⟩])
    .ret)
    .skip))
  (.seq (.region false [] [
     ⟨(some 89), none, (.mov (.t 11))⟩,
     ⟨(some 90), none, (.fld 4 (.t 9))⟩,
     ⟨none, none, (.store 1 (.t 90) (.t 89))⟩])
  (.seq (.region false [] [
     ⟨(some 91), none, (.load 5 true (.t 9))⟩,
     ⟨none, none, (.store 5 (.t 4) (.t 91))⟩,
     ⟨(some 5), none, (.mov (.v (.int .i64 0)))⟩])
  .ret)))))))))
theorem k22 : FnIs Tryd.prog 22 92 [.c 4 5 true, .t 5] a22 := ⟨_, _, Tryd.func22, rfl, by kernel_rfl, by kernel_rfl, rfl⟩
/- gridhall/gridhallkeep4.SwingJoins -/
def a6 : ACode :=
  (.seq (.region false [] [
     ⟨(some 2), none, (.box 24 (.t 0))⟩,
     ⟨(some 3), none, (.box 24 (.t 1))⟩,
     ⟨(some 4), none, (.mov (.v (.bool false)))⟩])
  (.seq (.region false [] [
     ⟨(some 18), none, (.load 5 true (.t 2))⟩,
     ⟨(some 19), none, (.load 5 true (.t 3))⟩,
     ⟨(some 20), none, (.call 22 [(.t 18), (.t 19)])⟩,
     ⟨(some 17), none, (.mov (.t 20))⟩,
     ⟨(some 21), none, (.ext 0 (.t 17))⟩,
     ⟨(some 22), none, (.ext 1 (.t 17))⟩,
     ⟨(some 5), none, (.alloc 24 (.agg #[(.int .i64 0), (.int .i64 0), (.int .i64 0), (.int .i64 0), (.string ⟨#[]⟩)]))⟩,
     ⟨none, none, (.store 5 (.t 5) (.t 21))⟩,
     ⟨(some 6), none, (.mov (.t 22))⟩])
  (.seq (.region false [] [
     ⟨(some 24), none, (.load 5 true (.t 3))⟩,
     ⟨(some 25), none, (.load 5 true (.t 2))⟩,
     ⟨(some 26), none, (.call 22 [(.t 24), (.t 25)])⟩,
     ⟨(some 23), none, (.mov (.t 26))⟩,
     ⟨(some 27), none, (.ext 0 (.t 23))⟩,
     ⟨(some 28), none, (.ext 1 (.t 23))⟩,
     ⟨(some 7), none, (.alloc 24 (.agg #[(.int .i64 0), (.int .i64 0), (.int .i64 0), (.int .i64 0), (.string ⟨#[]⟩)]))⟩,
     ⟨none, none, (.store 5 (.t 7) (.t 27))⟩,
     ⟨(some 8), none, (.mov (.t 28))⟩])
  (.seq (.seq (.region false [] [
     ⟨(some 29), none, (.mov (.t 6))⟩,
     ⟨(some 30), none, (.bin .neq 25 (.t 29) (.v (.int .i64 0)))⟩])
  (.cond (.t 30)
    (.seq (.region false [] [
       ⟨(some 31), none, (.call 13 [])⟩,
       ⟨(some 32), none, (.mov (.t 31))⟩,
       ⟨(some 33), (some (32, true)), (.load 5 true (.t 5))⟩,
       ⟨(some 34), (some (32, true)), (.build (.agg #[(.int .i64 0), (.int .i64 0), (.int .i64 0), (.int .i64 0), (.string ⟨#[]⟩)]) [])⟩,
       ⟨(some 35), (some (32, true)), (.aeq false [.i, .i, .i, .i, .s] (.t 33) (.t 34))⟩,
       ⟨(some 36), none, (.pick (.t 32) (.t 35) (.v (.bool false)))⟩,
       ⟨(some 37), none, (.mov (.t 36))⟩,
       ⟨(some 38), (some (37, true)), (.load 5 true (.t 7))⟩,
       ⟨(some 39), (some (37, true)), (.build (.agg #[(.int .i64 0), (.int .i64 0), (.int .i64 0), (.int .i64 0), (.string ⟨#[]⟩)]) [])⟩,
       ⟨(some 40), (some (37, true)), (.aeq false [.i, .i, .i, .i, .s] (.t 38) (.t 39))⟩,
       ⟨(some 41), none, (.pick (.t 37) (.t 40) (.v (.bool false)))⟩,
       ⟨(some 4), none, (.mov (.t 41))⟩])
    .ret)
    .skip))
  (.seq (.region false [] [
     ⟨(some 43), none, (.load 5 true (.t 2))⟩,
     ⟨(some 44), none, (.call 14 [(.t 43)])⟩,
     ⟨(some 42), none, (.mov (.t 44))⟩,
     ⟨(some 45), none, (.ext 0 (.t 42))⟩,
     ⟨(some 46), none, (.ext 1 (.t 42))⟩,
     ⟨(some 9), none, (.mov (.t 45))⟩,
     ⟨(some 10), none, (.mov (.t 46))⟩])
  (.seq (.region false [] [
     ⟨(some 48), none, (.load 5 true (.t 3))⟩,
     ⟨(some 49), none, (.call 14 [(.t 48)])⟩,
     ⟨(some 47), none, (.mov (.t 49))⟩,
     ⟨(some 50), none, (.ext 0 (.t 47))⟩,
     ⟨(some 51), none, (.ext 1 (.t 47))⟩,
     ⟨(some 11), none, (.mov (.t 50))⟩,
     ⟨(some 12), none, (.mov (.t 51))⟩])
  (.seq (.region false [] [
     ⟨(some 53), none, (.mov (.t 9))⟩,
     ⟨(some 54), none, (.mov (.t 11))⟩,
     ⟨(some 55), none, (.call 16 [(.t 53), (.t 54)])⟩,
     ⟨(some 52), none, (.mov (.t 55))⟩,
     ⟨(some 56), none, (.ext 0 (.t 52))⟩,
     ⟨(some 57), none, (.ext 1 (.t 52))⟩,
     ⟨(some 13), none, (.mov (.t 56))⟩,
     ⟨(some 14), none, (.mov (.t 57))⟩])
  (.seq (.region false [] [
     ⟨(some 59), none, (.load 5 true (.t 5))⟩,
     ⟨(some 60), none, (.call 14 [(.t 59)])⟩,
     ⟨(some 58), none, (.mov (.t 60))⟩,
     ⟨(some 61), none, (.ext 0 (.t 58))⟩,
     ⟨(some 62), none, (.ext 1 (.t 58))⟩,
     ⟨(some 15), none, (.mov (.t 61))⟩,
     ⟨(some 16), none, (.mov (.t 62))⟩])
  (.seq (.seq (.region false [] [
     ⟨(some 63), none, (.mov (.t 10))⟩,
     ⟨(some 64), none, (.bin .neq 25 (.t 63) (.v (.int .i64 0)))⟩,
     ⟨(some 65), none, (.mov (.t 64))⟩,
     ⟨(some 66), (some (65, false)), (.mov (.t 12))⟩,
     ⟨(some 67), (some (65, false)), (.bin .neq 25 (.t 66) (.v (.int .i64 0)))⟩,
     ⟨(some 68), none, (.pick (.t 65) (.v (.bool true)) (.t 67))⟩,
     ⟨(some 69), none, (.mov (.t 68))⟩,
     ⟨(some 70), (some (69, false)), (.mov (.t 14))⟩,
     ⟨(some 71), (some (69, false)), (.bin .neq 25 (.t 70) (.v (.int .i64 0)))⟩,
     ⟨(some 72), none, (.pick (.t 69) (.v (.bool true)) (.t 71))⟩,
     ⟨(some 73), none, (.mov (.t 72))⟩,
     ⟨(some 74), (some (73, false)), (.mov (.t 16))⟩,
     ⟨(some 75), (some (73, false)), (.bin .neq 25 (.t 74) (.v (.int .i64 0)))⟩,
     ⟨(some 76), none, (.pick (.t 73) (.v (.bool true)) (.t 75))⟩])
  (.cond (.t 76)
    (.seq (.region false [] [
       ⟨(some 77), none, (.call 13 [])⟩,
       ⟨(some 4), none, (.mov (.t 77))⟩])
    .ret)
    .skip))
  (.seq (.region false [] [
     ⟨(some 78), none, (.call 13 [])⟩,
     ⟨(some 79), none, (.mov (.t 78))⟩,
     ⟨(some 80), (some (79, true)), (.mov (.t 8))⟩,
     ⟨(some 81), (some (79, true)), (.bin .eql 25 (.t 80) (.v (.int .i64 0)))⟩,
     ⟨(some 82), none, (.pick (.t 79) (.t 81) (.v (.bool false)))⟩,
     ⟨(some 83), none, (.mov (.t 82))⟩,
     ⟨(some 84), (some (83, true)), (.load 5 true (.t 5))⟩,
     ⟨(some 85), (some (83, true)), (.load 5 true (.t 7))⟩,
     ⟨(some 86), (some (83, true)), (.aeq false [.i, .i, .i, .i, .s] (.t 84) (.t 85))⟩,
     ⟨(some 87), none, (.pick (.t 83) (.t 86) (.v (.bool false)))⟩,
     ⟨(some 88), none, (.mov (.t 87))⟩,
     ⟨(some 89), (some (88, true)), (.mov (.t 13))⟩,
     ⟨(some 90), (some (88, true)), (.mov (.t 15))⟩,
     ⟨(some 91), (some (88, true)), (.bin .eql 22 (.t 89) (.t 90))⟩,
     ⟨(some 92), none, (.pick (.t 88) (.t 91) (.v (.bool false)))⟩,
     ⟨(some 4), none, (.mov (.t 92))⟩])
  .ret))))))))))
theorem k6 : FnIs Tryd.prog 6 93 [.t 4] a6 := ⟨_, _, Tryd.func6, rfl, by kernel_rfl, by kernel_rfl, rfl⟩

def joinR (a b : Isl) : Rat := ((a.ine : Rat) * inR a.freq + (b.ine : Rat) * inR b.freq) / ((a.ine + b.ine : Int) : Rat)
def joinI (a b : Isl) : Isl := ⟨a.ine + b.ine, a.dam + b.dam, a.sup + b.sup, a.dem + b.dem, []⟩
def joinS (a b : Isl) : Isl × Int :=
  if checkS a ≠ 0 then (Isl.zero, checkS a) else if checkS b ≠ 0 then (Isl.zero, checkS b) else
  if a.ine + b.ine > 1000 ∨ a.sup + b.sup > 100000 ∨ a.dem + b.dem > 100000 then (Isl.zero, 2) else
  if (toldR (joinR a b)).2 ≠ 0 then (Isl.zero, (toldR (joinR a b)).2) else ((joinI a b).withF (joinR a b), 0)
def sumQ (a b : Isl) : QQ := addQ (mulQ (intQ a.ine) (ratIn a.freq)) (mulQ (intQ b.ine) (ratIn b.freq))
set_option maxRecDepth 20000 in
set_option maxHeartbeats 4000000 in
theorem s22 (a b : Isl) (ha : Sz a) (hb : Sz b) : Aw.Spec Tryd.prog 22 [] [ia a, ia b] (Gives (· = .tup [ia (joinS a b).1, I (joinS a b).2])) := by
  refine Spec.shut (Post := fun rg v => v = .tup [ia (joinS a b).1, I (joinS a b).2]) ?_ fun rg v h => by subst h; exact ⟨rfl, rfl, rfl⟩
  refine Aw.Spec.regsW k22 rfl rfl fun E hn hnp hp => ?_
  unfold a22
  have pin : ∀ r, E.pin r = none := fun r => hp.none hnp (Nat.zero_le _)
  refine AWp.ofD [999] [] hn mixed rfl ?_
  simp (config := { maxSteps := 2000000 }) only [go_sem, ↓reduceIte, Int.reduceToNat, Nat.reduceMul, Int.reduceBEq, Int.reduceBNe, Nat.reduceBEq, Nat.reduceAdd, Nat.reduceSub, Nat.reduceLeDiff, Nat.reduceEqDiff, Nat.reduceLT, reduceCtorEq]
  refine AWp.loop (fun k s => ∃ i : Nat, i + k = 2 ∧ (1 ≤ i → checkS a = 0) ∧ (2 ≤ i → checkS b = 0) ∧ Weak E s ⟨[(2, .ptr 0 0 0), (3, .ptr 1 0 0), (4, .ptr 2 0 0), (15, .agg (ic a ++ ic b)), (16, I i)], [.box 24 (ic a), .box 24 (ic b), .box 24 [I 0, I 0, I 0, I 0, S ⟨#[]⟩]]⟩) (n := 2)
    ⟨0, rfl, fun h => (by omega), fun h => (by omega), weak_to [0, 1, 2] hp hnp rfl (by simp (config := { maxSteps := 2000000 }) only [go_sem, ↓reduceIte, Int.reduceToNat, Nat.reduceMul, Int.reduceBEq, Int.reduceBNe, Nat.reduceBEq, Nat.reduceAdd, Nat.reduceSub, Nat.reduceLeDiff, Nat.reduceEqDiff, Nat.reduceLT, reduceCtorEq, Aw.pos] <;> rfl) (by simp (config := { maxSteps := 2000000 }) only [go_sem, ↓reduceIte, Int.reduceToNat, Nat.reduceMul, Int.reduceBEq, Int.reduceBNe, Nat.reduceBEq, Nat.reduceAdd, Nat.reduceSub, Nat.reduceLeDiff, Nat.reduceEqDiff, Nat.reduceLT, reduceCtorEq, Aw.renR, Aw.pos] <;> rfl)⟩ ?_
  rintro k s ⟨i, hi, h1, h2, hw⟩
  refine AWp.weak hw (AWp.ofD [999] [] hn mixed rfl ?_)
  rcases Nat.lt_or_ge i 2 with hlt | hge
  · have e0 : decide ((i : Int) < 2) = true := decide_eq_true (by omega)
    have hi2 : i = 0 ∨ i = 1 := by omega
    rcases hi2 with rfl | rfl
    · have e1 : decide ((0 : Int) < 2) = true := rfl
      simp (config := { maxSteps := 2000000 }) only [go_sem, ↓reduceIte, Int.reduceToNat, Nat.reduceMul, Int.reduceBEq, Int.reduceBNe, Nat.reduceBEq, Nat.reduceAdd, Nat.reduceSub, Nat.reduceLeDiff, Nat.reduceEqDiff, Nat.reduceLT, reduceCtorEq, e1]
      (repeat (refine And.intro (by first | omega | (refine ⟨by omega, by omega⟩) | (refine ⟨by omega, by omega, by omega⟩) | (simp only [List.length_map, List.length_range, List.length_append, List.length_cons, List.length_nil, List.length_replicate, List.length_set]; omega) | (simp; omega) | (intro hgd; cases hgd) | (intro hgd; refine ⟨hgd, ?_⟩; first | omega | (refine ⟨by omega, by omega⟩) | (simp; omega))) ?_))
      (refine AWpL.calle (s18 a ha) rfl (by rw [hn]; rfl) (by simp (config := { maxSteps := 2000000 }) only [go_sem, ↓reduceIte, Int.reduceToNat, Nat.reduceMul, Int.reduceBEq, Int.reduceBNe, Nat.reduceBEq, Nat.reduceAdd, Nat.reduceSub, Nat.reduceLeDiff, Nat.reduceEqDiff, Nat.reduceLT, reduceCtorEq]) (AWpL.ofM hn rfl ?_); simp (config := { maxSteps := 2000000 }) only [go_sem, ↓reduceIte, Int.reduceToNat, Nat.reduceMul, Int.reduceBEq, Int.reduceBNe, Nat.reduceBEq, Nat.reduceAdd, Nat.reduceSub, Nat.reduceLeDiff, Nat.reduceEqDiff, Nat.reduceLT, reduceCtorEq])
      refine ⟨fun h => ?_, fun h => ?_⟩
      · unfold joinS
        rw [if_pos (by simpa using h)]
        refine Retn.ret (π := [2]) hp hnp ⟨rfl, ?_⟩
        simp (config := { maxSteps := 2000000 }) only [go_sem, ↓reduceIte, Int.reduceToNat, Nat.reduceMul, Int.reduceBEq, Int.reduceBNe, Nat.reduceBEq, Nat.reduceAdd, Nat.reduceSub, Nat.reduceLeDiff, Nat.reduceEqDiff, Nat.reduceLT, reduceCtorEq, Aw.renR, Aw.pos]
        rfl
      · have h0 : checkS a = 0 := by simpa using h
        exact ⟨1, by omega, 1, rfl, fun _ => h0, fun h => (by omega), weak_to [0, 1, 2] hp hnp rfl (by simp (config := { maxSteps := 2000000 }) only [go_sem, ↓reduceIte, Int.reduceToNat, Nat.reduceMul, Int.reduceBEq, Int.reduceBNe, Nat.reduceBEq, Nat.reduceAdd, Nat.reduceSub, Nat.reduceLeDiff, Nat.reduceEqDiff, Nat.reduceLT, reduceCtorEq, Aw.pos] <;> rfl) (by simp (config := { maxSteps := 2000000 }) only [go_sem, ↓reduceIte, Int.reduceToNat, Nat.reduceMul, Int.reduceBEq, Int.reduceBNe, Nat.reduceBEq, Nat.reduceAdd, Nat.reduceSub, Nat.reduceLeDiff, Nat.reduceEqDiff, Nat.reduceLT, reduceCtorEq, Aw.renR, Aw.pos] <;> rfl)⟩
    · have e1 : decide ((1 : Int) < 2) = true := rfl
      have hca := h1 (Nat.le_refl 1)
      simp (config := { maxSteps := 2000000 }) only [go_sem, ↓reduceIte, Int.reduceToNat, Nat.reduceMul, Int.reduceBEq, Int.reduceBNe, Nat.reduceBEq, Nat.reduceAdd, Nat.reduceSub, Nat.reduceLeDiff, Nat.reduceEqDiff, Nat.reduceLT, reduceCtorEq, e1]
      (repeat (refine And.intro (by first | omega | (refine ⟨by omega, by omega⟩) | (refine ⟨by omega, by omega, by omega⟩) | (simp only [List.length_map, List.length_range, List.length_append, List.length_cons, List.length_nil, List.length_replicate, List.length_set]; omega) | (simp; omega) | (intro hgd; cases hgd) | (intro hgd; refine ⟨hgd, ?_⟩; first | omega | (refine ⟨by omega, by omega⟩) | (simp; omega))) ?_))
      (refine AWpL.calle (s18 b hb) rfl (by rw [hn]; rfl) (by simp (config := { maxSteps := 2000000 }) only [go_sem, ↓reduceIte, Int.reduceToNat, Nat.reduceMul, Int.reduceBEq, Int.reduceBNe, Nat.reduceBEq, Nat.reduceAdd, Nat.reduceSub, Nat.reduceLeDiff, Nat.reduceEqDiff, Nat.reduceLT, reduceCtorEq]) (AWpL.ofM hn rfl ?_); simp (config := { maxSteps := 2000000 }) only [go_sem, ↓reduceIte, Int.reduceToNat, Nat.reduceMul, Int.reduceBEq, Int.reduceBNe, Nat.reduceBEq, Nat.reduceAdd, Nat.reduceSub, Nat.reduceLeDiff, Nat.reduceEqDiff, Nat.reduceLT, reduceCtorEq])
      refine ⟨fun h => ?_, fun h => ?_⟩
      · unfold joinS
        rw [if_neg (by simp [hca]), if_pos (by simpa using h)]
        refine Retn.ret (π := [2]) hp hnp ⟨rfl, ?_⟩
        simp (config := { maxSteps := 2000000 }) only [go_sem, ↓reduceIte, Int.reduceToNat, Nat.reduceMul, Int.reduceBEq, Int.reduceBNe, Nat.reduceBEq, Nat.reduceAdd, Nat.reduceSub, Nat.reduceLeDiff, Nat.reduceEqDiff, Nat.reduceLT, reduceCtorEq, Aw.renR, Aw.pos]
        rfl
      · have h0 : checkS b = 0 := by simpa using h
        exact ⟨0, by omega, 2, rfl, fun _ => hca, fun _ => h0, weak_to [0, 1, 2] hp hnp rfl (by simp (config := { maxSteps := 2000000 }) only [go_sem, ↓reduceIte, Int.reduceToNat, Nat.reduceMul, Int.reduceBEq, Int.reduceBNe, Nat.reduceBEq, Nat.reduceAdd, Nat.reduceSub, Nat.reduceLeDiff, Nat.reduceEqDiff, Nat.reduceLT, reduceCtorEq, Aw.pos] <;> rfl) (by simp (config := { maxSteps := 2000000 }) only [go_sem, ↓reduceIte, Int.reduceToNat, Nat.reduceMul, Int.reduceBEq, Int.reduceBNe, Nat.reduceBEq, Nat.reduceAdd, Nat.reduceSub, Nat.reduceLeDiff, Nat.reduceEqDiff, Nat.reduceLT, reduceCtorEq, Aw.renR, Aw.pos] <;> rfl)⟩
  have e0 : decide ((i : Int) < 2) = false := decide_eq_false (by omega)
  have hca := h1 (by omega)
  have hcb := h2 hge
  obtain ⟨hna, hva⟩ := checkS_ok hca
  obtain ⟨hnb, hvb⟩ := checkS_ok hcb
  have hQa := ratIn_QB hva
  have hQb := ratIn_QB hvb
  obtain ⟨_, _, hia⟩ := nums_int hna
  obtain ⟨_, _, hib⟩ := nums_int hnb
  obtain ⟨g1, g2, g3, g4, g5, g6, g7, g8⟩ := hna
  obtain ⟨f1, f2, f3, f4, f5, f6, f7, f8⟩ := hnb
  have w1 : IntKind.i64.wrap (a.ine + b.ine) = a.ine + b.ine := w64 (by omega) (by omega)
  have w2 : IntKind.i64.wrap (a.dam + b.dam) = a.dam + b.dam := w64 (by omega) (by omega)
  have w3 : IntKind.i64.wrap (a.sup + b.sup) = a.sup + b.sup := w64 (by omega) (by omega)
  have w4 : IntKind.i64.wrap (a.dem + b.dem) = a.dem + b.dem := w64 (by omega) (by omega)
  simp (config := { maxSteps := 2000000 }) only [go_sem, ↓reduceIte, Int.reduceToNat, Nat.reduceMul, Int.reduceBEq, Int.reduceBNe, Nat.reduceBEq, Nat.reduceAdd, Nat.reduceSub, Nat.reduceLeDiff, Nat.reduceEqDiff, Nat.reduceLT, reduceCtorEq, e0, w1, w2, w3, w4]
  unfold joinS
  rw [if_neg (by simp [hca]), if_neg (by simp [hcb])]
  refine ⟨fun h => ?_, fun h => ?_⟩
  · simp only [Bool.or_eq_true, decide_eq_true_eq] at h
    rw [if_pos (by omega)]
    refine Retn.ret (π := [2]) hp hnp ⟨rfl, ?_⟩
    simp (config := { maxSteps := 2000000 }) only [go_sem, ↓reduceIte, Int.reduceToNat, Nat.reduceMul, Int.reduceBEq, Int.reduceBNe, Nat.reduceBEq, Nat.reduceAdd, Nat.reduceSub, Nat.reduceLeDiff, Nat.reduceEqDiff, Nat.reduceLT, reduceCtorEq, Aw.renR, Aw.pos]
    rfl
  simp only [Bool.or_eq_false_iff, decide_eq_false_iff_not] at h
  rw [if_neg (by omega)]
  have hma := mulQ_QB hia hQa (by decide)
  have hmb := mulQ_QB hib hQb (by decide)
  have hsum : QB 893 (sumQ a b) := addQ_QB (k := 446) hma hmb (by decide)
  have hio : QB 223 (intQ (a.ine + b.ine)) := (intQ_QB (by omega) (by omega)).mono (by decide)
  refine AWp.cut ⟨[(2, .ptr 0 0 0), (3, .ptr 1 0 0), (4, .ptr 2 0 0), (9, .ptr 3 0 0), (10, .ptr 4 0 0)], [.box 24 (ic a), .box 24 (ic b), .box 24 [I 0, I 0, I 0, I 0, S ⟨#[]⟩], .box 24 (ic (joinI a b)), .box 62 (qv (sumQ a b)).cells]⟩ ?_ ?_
  · refine AWp.plan (.take 0 [false, false, false, true, true, false, false, true, true, false, true, true, false, false, false, true, false] (.take 1 [true, false, false, true, true, false, false, true, true, false, true, true, false, false, false, true, false] (.take 3 [true, true, true, false, false, false, false, true, true, false, true, true, false, false, false, true, false] (.take 4 [true, true, true, true, false, false, false, true, true, false, true, true, false, false, false, true, false] (.take 7 [true, true, true, true, true, true, true, false, false, false, true, true, false, false, false, true, false] (.take 8 [true, true, true, true, true, true, true, true, false, false, true, true, false, false, false, true, false] (.take 10 [true, true, true, true, true, true, true, true, true, true, false, false, false, false, false, true, false] (.take 11 [true, true, true, true, true, true, true, true, true, true, true, false, false, false, false, true, false] (.two 2 (.two 5 (.two 6 (.two 9 (.two 12 (.two 13 (.two 14 (.one 15 (.one 16 .done)) 15 (.one 14 (.one 16 .done))) 15 (.one 13 (.one 14 (.one 16 .done)))) 15 (.one 12 (.one 13 (.one 14 (.one 16 .done))))) 15 (.one 9 (.one 12 (.one 13 (.one 14 (.one 16 .done)))))) 15 (.one 6 (.one 9 (.one 12 (.one 13 (.one 14 (.one 16 .done))))))) 15 (.one 5 (.one 6 (.one 9 (.one 12 (.one 13 (.one 14 (.one 16 .done)))))))) 15 (.one 2 (.one 5 (.one 6 (.one 9 (.one 12 (.one 13 (.one 14 (.one 16 .done))))))))))))))))) [true, true, true, true, true, true, true, true, true, true, true, true, true, true, true, true, false] mixed hn rfl rfl ?_
    simp (config := { maxSteps := 2000000 }) only [go_sem, ↓reduceIte, Int.reduceToNat, Nat.reduceMul, Int.reduceBEq, Int.reduceBNe, Nat.reduceBEq, Nat.reduceAdd, Nat.reduceSub, Nat.reduceLeDiff, Nat.reduceEqDiff, Nat.reduceLT, reduceCtorEq]
    repeat' first | (refine And.intro ?_ ?_) | (refine AOne.callA (s42 a.ine (by omega) (by omega)) rfl (by rw [hn]; rfl) (fun rg v hv => ?_); obtain ⟨rfl, rfl⟩ := hv; rw [retS_nil]; simp (config := { maxSteps := 2000000 }) only [go_sem, ↓reduceIte, Int.reduceToNat, Nat.reduceMul, Int.reduceBEq, Int.reduceBNe, Nat.reduceBEq, Nat.reduceAdd, Nat.reduceSub, Nat.reduceLeDiff, Nat.reduceEqDiff, Nat.reduceLT, reduceCtorEq]) | (refine AOne.callA (s42 b.ine (by omega) (by omega)) rfl (by rw [hn]; rfl) (fun rg v hv => ?_); obtain ⟨rfl, rfl⟩ := hv; rw [retS_nil]; simp (config := { maxSteps := 2000000 }) only [go_sem, ↓reduceIte, Int.reduceToNat, Nat.reduceMul, Int.reduceBEq, Int.reduceBNe, Nat.reduceBEq, Nat.reduceAdd, Nat.reduceSub, Nat.reduceLeDiff, Nat.reduceEqDiff, Nat.reduceLT, reduceCtorEq]) | (refine AOne.callA (in_of hva ha) rfl (by rw [hn]; rfl) (fun rg v hv => ?_); obtain ⟨rfl, rfl⟩ := hv; rw [retS_nil]; simp (config := { maxSteps := 2000000 }) only [go_sem, ↓reduceIte, Int.reduceToNat, Nat.reduceMul, Int.reduceBEq, Int.reduceBNe, Nat.reduceBEq, Nat.reduceAdd, Nat.reduceSub, Nat.reduceLeDiff, Nat.reduceEqDiff, Nat.reduceLT, reduceCtorEq]) | (refine AOne.callA (in_of hvb hb) rfl (by rw [hn]; rfl) (fun rg v hv => ?_); obtain ⟨rfl, rfl⟩ := hv; rw [retS_nil]; simp (config := { maxSteps := 2000000 }) only [go_sem, ↓reduceIte, Int.reduceToNat, Nat.reduceMul, Int.reduceBEq, Int.reduceBNe, Nat.reduceBEq, Nat.reduceAdd, Nat.reduceSub, Nat.reduceLeDiff, Nat.reduceEqDiff, Nat.reduceLT, reduceCtorEq]) | (refine AOne.callA (s43 (intQ a.ine) (ratIn a.freq) (hia.mono (by decide)) (hQa.mono (by decide))) rfl (by rw [hn]; rfl) (fun rg v hv => ?_); obtain ⟨rfl, rfl⟩ := hv; rw [retS_nil]; simp (config := { maxSteps := 2000000 }) only [go_sem, ↓reduceIte, Int.reduceToNat, Nat.reduceMul, Int.reduceBEq, Int.reduceBNe, Nat.reduceBEq, Nat.reduceAdd, Nat.reduceSub, Nat.reduceLeDiff, Nat.reduceEqDiff, Nat.reduceLT, reduceCtorEq]) | (refine AOne.callA (s43 (intQ b.ine) (ratIn b.freq) (hib.mono (by decide)) (hQb.mono (by decide))) rfl (by rw [hn]; rfl) (fun rg v hv => ?_); obtain ⟨rfl, rfl⟩ := hv; rw [retS_nil]; simp (config := { maxSteps := 2000000 }) only [go_sem, ↓reduceIte, Int.reduceToNat, Nat.reduceMul, Int.reduceBEq, Int.reduceBNe, Nat.reduceBEq, Nat.reduceAdd, Nat.reduceSub, Nat.reduceLeDiff, Nat.reduceEqDiff, Nat.reduceLT, reduceCtorEq]) | (refine AOne.callA (s46 (mulQ (intQ a.ine) (ratIn a.freq)) (mulQ (intQ b.ine) (ratIn b.freq)) (hma.mono (by decide)) (hmb.mono (by decide))) rfl (by rw [hn]; rfl) (fun rg v hv => ?_); obtain ⟨rfl, rfl⟩ := hv; rw [retS_nil]; simp (config := { maxSteps := 2000000 }) only [go_sem, ↓reduceIte, Int.reduceToNat, Nat.reduceMul, Int.reduceBEq, Int.reduceBNe, Nat.reduceBEq, Nat.reduceAdd, Nat.reduceSub, Nat.reduceLeDiff, Nat.reduceEqDiff, Nat.reduceLT, reduceCtorEq]) | exact weak_to [0, 1, 2, 3, 4] hp hnp rfl (by simp (config := { maxSteps := 2000000 }) only [go_sem, ↓reduceIte, Int.reduceToNat, Nat.reduceMul, Int.reduceBEq, Int.reduceBNe, Nat.reduceBEq, Nat.reduceAdd, Nat.reduceSub, Nat.reduceLeDiff, Nat.reduceEqDiff, Nat.reduceLT, reduceCtorEq, Aw.pos] <;> rfl) (by simp (config := { maxSteps := 2000000 }) only [go_sem, ↓reduceIte, Int.reduceToNat, Nat.reduceMul, Int.reduceBEq, Int.reduceBNe, Nat.reduceBEq, Nat.reduceAdd, Nat.reduceSub, Nat.reduceLeDiff, Nat.reduceEqDiff, Nat.reduceLT, reduceCtorEq, Aw.renR, Aw.pos] <;> rfl)
  simp (config := { maxSteps := 2000000 }) only [go_sem, ↓reduceIte, Int.reduceToNat, Nat.reduceMul, Int.reduceBEq, Int.reduceBNe, Nat.reduceBEq, Nat.reduceAdd, Nat.reduceSub, Nat.reduceLeDiff, Nat.reduceEqDiff, Nat.reduceLT, reduceCtorEq]
  have hq : quoQ (sumQ a b) (intQ (a.ine + b.ine)) = quoQ (sumQ a b) (intQ (a.ine + b.ine)) := rfl
  have ht : toldQ (quoQ (sumQ a b) (intQ (a.ine + b.ine))) = toldR (joinR a b) := by
    rw [(quo_can _ _).told, quo_r, int_r]
    unfold sumQ joinR
    rw [add_r, mul_r, mul_r, int_r, int_r]
    rfl
  refine AWp.plan (.take 0 [false, true, true, true, false, false, false, false, false, false, false] (.take 1 [true, false, false, false, false, false, false, false, false, false, false] (.take 2 [true, true, false, false, false, false, false, false, false, false, false] (.one 3 (.one 4 (.one 5 (.take 6 [true, true, true, true, true, true, false, false, false, false, false] (.take 7 [true, true, true, true, true, true, true, false, true, false, false] (.take 8 [true, true, true, true, true, true, true, true, false, true, false] (.take 9 [true, true, true, true, true, true, true, true, true, false, false] (.take 10 [true, true, true, true, true, true, true, true, true, true, false] .done))))))))))) [true, true, true, true, true, true, true, true, true, true, true] mixed hn rfl rfl ?_
  simp (config := { maxSteps := 2000000 }) only [go_sem, ↓reduceIte, Int.reduceToNat, Nat.reduceMul, Int.reduceBEq, Int.reduceBNe, Nat.reduceBEq, Nat.reduceAdd, Nat.reduceSub, Nat.reduceLeDiff, Nat.reduceEqDiff, Nat.reduceLT, reduceCtorEq]
  repeat' first | (refine And.intro ?_ ?_) | (refine AOne.callA (s42 (a.ine + b.ine) (by omega) (by omega)) rfl (by rw [hn]; rfl) (fun rg v hv => ?_); obtain ⟨rfl, rfl⟩ := hv; rw [retS_nil]; simp (config := { maxSteps := 2000000 }) only [go_sem, ↓reduceIte, Int.reduceToNat, Nat.reduceMul, Int.reduceBEq, Int.reduceBNe, Nat.reduceBEq, Nat.reduceAdd, Nat.reduceSub, Nat.reduceLeDiff, Nat.reduceEqDiff, Nat.reduceLT, reduceCtorEq]) | (refine AOne.callA (s52 (sumQ a b) (intQ (a.ine + b.ine)) (hsum.mono (by decide)) (hio.mono (by decide))) rfl (by rw [hn]; rfl) (fun rg v hv => ?_); obtain ⟨rfl, rfl⟩ := hv; rw [retS_nil]; simp (config := { maxSteps := 2000000 }) only [go_sem, ↓reduceIte, Int.reduceToNat, Nat.reduceMul, Int.reduceBEq, Int.reduceBNe, Nat.reduceBEq, Nat.reduceAdd, Nat.reduceSub, Nat.reduceLeDiff, Nat.reduceEqDiff, Nat.reduceLT, reduceCtorEq])
  refine AOne.calle (s39 (quoQ (sumQ a b) (intQ (a.ine + b.ine))) ((quoQ_QB (k := 893) hsum (hio.mono (by decide)) (by decide)).mono (by decide))) rfl (by rw [hn]; rfl) (by simp (config := { maxSteps := 2000000 }) only [go_sem, ↓reduceIte, Int.reduceToNat, Nat.reduceMul, Int.reduceBEq, Int.reduceBNe, Nat.reduceBEq, Nat.reduceAdd, Nat.reduceSub, Nat.reduceLeDiff, Nat.reduceEqDiff, Nat.reduceLT, reduceCtorEq]) ?_
  simp (config := { maxSteps := 2000000 }) only [go_sem, ↓reduceIte, Int.reduceToNat, Nat.reduceMul, Int.reduceBEq, Int.reduceBNe, Nat.reduceBEq, Nat.reduceAdd, Nat.reduceSub, Nat.reduceLeDiff, Nat.reduceEqDiff, Nat.reduceLT, reduceCtorEq]
  rw [ht]
  refine ⟨fun h6 => ?_, fun h6 => ?_⟩
  · rw [if_pos (by simpa using h6)]
    refine Retn.ret (π := [2]) hp hnp ⟨rfl, ?_⟩
    simp (config := { maxSteps := 2000000 }) only [go_sem, ↓reduceIte, Int.reduceToNat, Nat.reduceMul, Int.reduceBEq, Int.reduceBNe, Nat.reduceBEq, Nat.reduceAdd, Nat.reduceSub, Nat.reduceLeDiff, Nat.reduceEqDiff, Nat.reduceLT, reduceCtorEq, Aw.renR, Aw.pos]
    rfl
  · have h7 : (toldR (joinR a b)).2 = 0 := by simpa using h6
    rw [if_neg (by simp [h7]), told_txt h7]
    refine Retn.ret (π := [2]) hp hnp ⟨rfl, ?_⟩
    simp (config := { maxSteps := 2000000 }) only [go_sem, ↓reduceIte, Int.reduceToNat, Nat.reduceMul, Int.reduceBEq, Int.reduceBNe, Nat.reduceBEq, Nat.reduceAdd, Nat.reduceSub, Nat.reduceLeDiff, Nat.reduceEqDiff, Nat.reduceLT, reduceCtorEq, Aw.renR, Aw.pos]
    rfl
theorem join_comm (a b : Isl) : joinR a b = joinR b a := by
  unfold joinR
  rw [Int.add_comm a.ine b.ine, Rat.add_comm]
theorem joinI_comm (a b : Isl) : joinI a b = joinI b a := by
  unfold joinI
  rw [Int.add_comm a.ine, Int.add_comm a.dam, Int.add_comm a.sup, Int.add_comm a.dem]
theorem joinS_ok {a b : Isl} (h : (joinS a b).2 = 0) : checkS a = 0 ∧ checkS b = 0 ∧ (a.ine + b.ine ≤ 1000 ∧ a.sup + b.sup ≤ 100000 ∧ a.dem + b.dem ≤ 100000) ∧ fitsR (joinR a b) ∧ joinS a b = ((joinI a b).withF (joinR a b), 0) := by
  unfold joinS at h ⊢
  split at h
  · rename_i h1; exact absurd h h1
  · rename_i h1
    split at h
    · rename_i h2; exact absurd h h2
    · rename_i h2
      split at h
      · cases h
      · rename_i h3
        split at h
        · rename_i h4; exact absurd h h4
        · rename_i h4
          rw [if_neg h1, if_neg h2, if_neg h3, if_neg h4]
          exact ⟨by omega, by omega, by omega, told_fst (r := joinR a b) (by omega), rfl⟩
theorem joinS_bad {a b : Isl} (h : (joinS a b).2 ≠ 0) : (joinS a b).1 = Isl.zero ∧ (joinS b a).1 = Isl.zero := by
  have key : ∀ a b : Isl, (joinS a b).2 ≠ 0 → (joinS a b).1 = Isl.zero := fun a b h => by
    unfold joinS at h ⊢
    split
    · rfl
    · rename_i h1
      split
      · rfl
      · rename_i h2
        split
        · rfl
        · rename_i h3
          split
          · rfl
          · rename_i h4
            rw [if_neg h1, if_neg h2, if_neg h3, if_neg h4] at h
            exact absurd rfl h
  refine ⟨key a b h, key b a fun h0 => h ?_⟩
  obtain ⟨h1, h2, h3, h4, h5⟩ := joinS_ok h0
  unfold joinS
  rw [if_neg (by simp [h2]), if_neg (by simp [h1]), if_neg (by omega), if_neg (by rw [join_comm, toldR_fits h4]; simp)]
theorem joinS_len (a b : Isl) : Sz (joinS a b).1 := by
  unfold Sz
  by_cases h : (joinS a b).2 = 0
  · obtain ⟨h1, h2, h3, h4, h5⟩ := joinS_ok h
    rw [h5]; exact txtR_len h4
  · rw [(joinS_bad h).1]; exact Nat.zero_le _
set_option maxHeartbeats 1000000 in
theorem s6 (a b : Isl) (ha : Sz a) (hb : Sz b) : Aw.Spec Tryd.prog 6 [] [ia a, ia b] (Gives (· = B true)) := by
  refine Spec.shut (Post := fun rg v => v = B true) ?_ fun rg v h => by subst h; exact ⟨rfl, rfl, rfl⟩
  refine Aw.Spec.regsW k6 rfl rfl fun E hn hnp hp => ?_
  unfold a6
  refine AWp.ofD [] [76] hn mixed rfl ?_
  simp (config := { maxSteps := 2000000 }) only [go_sem, ↓reduceIte, Int.reduceToNat, Nat.reduceMul, Int.reduceBEq, Int.reduceBNe, Nat.reduceBEq, Nat.reduceAdd, Nat.reduceSub, Nat.reduceLeDiff, Nat.reduceEqDiff, Nat.reduceLT, reduceCtorEq]
  (refine AWpL.calle (s22 a b ha hb) rfl (by rw [hn]; rfl) (by simp (config := { maxSteps := 2000000 }) only [go_sem, ↓reduceIte, Int.reduceToNat, Nat.reduceMul, Int.reduceBEq, Int.reduceBNe, Nat.reduceBEq, Nat.reduceAdd, Nat.reduceSub, Nat.reduceLeDiff, Nat.reduceEqDiff, Nat.reduceLT, reduceCtorEq]) (AWpL.ofM hn rfl ?_); simp (config := { maxSteps := 2000000 }) only [go_sem, ↓reduceIte, Int.reduceToNat, Nat.reduceMul, Int.reduceBEq, Int.reduceBNe, Nat.reduceBEq, Nat.reduceAdd, Nat.reduceSub, Nat.reduceLeDiff, Nat.reduceEqDiff, Nat.reduceLT, reduceCtorEq])
  (refine AWpL.calle (s22 b a hb ha) rfl (by rw [hn]; rfl) (by simp (config := { maxSteps := 2000000 }) only [go_sem, ↓reduceIte, Int.reduceToNat, Nat.reduceMul, Int.reduceBEq, Int.reduceBNe, Nat.reduceBEq, Nat.reduceAdd, Nat.reduceSub, Nat.reduceLeDiff, Nat.reduceEqDiff, Nat.reduceLT, reduceCtorEq]) (AWpL.ofM hn rfl ?_); simp (config := { maxSteps := 2000000 }) only [go_sem, ↓reduceIte, Int.reduceToNat, Nat.reduceMul, Int.reduceBEq, Int.reduceBNe, Nat.reduceBEq, Nat.reduceAdd, Nat.reduceSub, Nat.reduceLeDiff, Nat.reduceEqDiff, Nat.reduceLT, reduceCtorEq])
  refine ⟨fun h => ?_, fun h => ?_⟩
  · obtain ⟨h1, h2⟩ := joinS_bad (a := a) (b := b) (by simpa using h)
    rw [h1, h2]
    (refine AWpL.calle (s13) rfl (by rw [hn]; rfl) (by simp (config := { maxSteps := 2000000 }) only [go_sem, ↓reduceIte, Int.reduceToNat, Nat.reduceMul, Int.reduceBEq, Int.reduceBNe, Nat.reduceBEq, Nat.reduceAdd, Nat.reduceSub, Nat.reduceLeDiff, Nat.reduceEqDiff, Nat.reduceLT, reduceCtorEq]) (AWpL.ofM hn rfl ?_); simp (config := { maxSteps := 2000000 }) only [go_sem, ↓reduceIte, Int.reduceToNat, Nat.reduceMul, Int.reduceBEq, Int.reduceBNe, Nat.reduceBEq, Nat.reduceAdd, Nat.reduceSub, Nat.reduceLeDiff, Nat.reduceEqDiff, Nat.reduceLT, reduceCtorEq])
    refine Retn.ret (π := []) hp hnp ⟨rfl, ?_⟩
    simp (config := { maxSteps := 2000000 }) only [go_sem, ↓reduceIte, Int.reduceToNat, Nat.reduceMul, Int.reduceBEq, Int.reduceBNe, Nat.reduceBEq, Nat.reduceAdd, Nat.reduceSub, Nat.reduceLeDiff, Nat.reduceEqDiff, Nat.reduceLT, reduceCtorEq, bA_toList, empty_toList]
    rfl
  obtain ⟨h1, h2, ⟨l1, l2, l3⟩, h4, h5⟩ := joinS_ok (a := a) (b := b) (by simpa using h)
  have h6 : joinS b a = joinS a b := by
    rw [h5]
    unfold joinS
    rw [if_neg (by simp [h2]), if_neg (by simp [h1]), if_neg (by omega), if_neg (by rw [join_comm, toldR_fits h4]; simp), join_comm, joinI_comm]
  obtain ⟨hna, hva⟩ := checkS_ok h1
  obtain ⟨hnb, hvb⟩ := checkS_ok h2
  have hno : numsOk (joinI a b) := by
    obtain ⟨g1, g2, g3, g4, g5, g6, g7, g8⟩ := hna
    obtain ⟨f1, f2, f3, f4, f5, f6, f7, f8⟩ := hnb
    unfold numsOk joinI
    dsimp only
    omega
  obtain ⟨k1, k2⟩ := withF_ok hno h4
  have m1 : momS a = toldR ((a.ine : Rat) * inR a.freq) := onIsl_ok h1 _
  have m2 : momS b = toldR ((b.ine : Rat) * inR b.freq) := onIsl_ok h2 _
  have m3 : momS ((joinI a b).withF (joinR a b)) = toldR (((a.ine + b.ine : Int) : Rat) * joinR a b) := by
    unfold momS
    rw [onIsl_ok k1, k2]; rfl
  have hid : (a.ine : Rat) * inR a.freq + (b.ine : Rat) * inR b.freq = ((a.ine + b.ine : Int) : Rat) * joinR a b := by
    have g1 := hna.1
    have f1 := hnb.1
    have k3 : ((a.ine + b.ine : Int) : Rat) ≠ 0 := cast_ne (by omega)
    unfold joinR
    generalize (a.ine : Rat) * inR a.freq + (b.ine : Rat) * inR b.freq = X
    generalize ((a.ine + b.ine : Int) : Rat) = Y at *
    grind
  rw [h6, h5]
  dsimp only
  (refine AWpL.calle (s14 a ha) rfl (by rw [hn]; rfl) (by simp (config := { maxSteps := 2000000 }) only [go_sem, ↓reduceIte, Int.reduceToNat, Nat.reduceMul, Int.reduceBEq, Int.reduceBNe, Nat.reduceBEq, Nat.reduceAdd, Nat.reduceSub, Nat.reduceLeDiff, Nat.reduceEqDiff, Nat.reduceLT, reduceCtorEq]) (AWpL.ofM hn rfl ?_); simp (config := { maxSteps := 2000000 }) only [go_sem, ↓reduceIte, Int.reduceToNat, Nat.reduceMul, Int.reduceBEq, Int.reduceBNe, Nat.reduceBEq, Nat.reduceAdd, Nat.reduceSub, Nat.reduceLeDiff, Nat.reduceEqDiff, Nat.reduceLT, reduceCtorEq])
  (refine AWpL.calle (s14 b hb) rfl (by rw [hn]; rfl) (by simp (config := { maxSteps := 2000000 }) only [go_sem, ↓reduceIte, Int.reduceToNat, Nat.reduceMul, Int.reduceBEq, Int.reduceBNe, Nat.reduceBEq, Nat.reduceAdd, Nat.reduceSub, Nat.reduceLeDiff, Nat.reduceEqDiff, Nat.reduceLT, reduceCtorEq]) (AWpL.ofM hn rfl ?_); simp (config := { maxSteps := 2000000 }) only [go_sem, ↓reduceIte, Int.reduceToNat, Nat.reduceMul, Int.reduceBEq, Int.reduceBNe, Nat.reduceBEq, Nat.reduceAdd, Nat.reduceSub, Nat.reduceLeDiff, Nat.reduceEqDiff, Nat.reduceLT, reduceCtorEq])
  rw [m1, m2]
  generalize (a.ine : Rat) * inR a.freq = A at *
  generalize (b.ine : Rat) * inR b.freq = C at *
  (refine AWpL.calle (s16 (toldR A).1 (toldR C).1 (told_len A) (told_len C)) rfl (by rw [hn]; rfl) (by simp (config := { maxSteps := 2000000 }) only [go_sem, ↓reduceIte, Int.reduceToNat, Nat.reduceMul, Int.reduceBEq, Int.reduceBNe, Nat.reduceBEq, Nat.reduceAdd, Nat.reduceSub, Nat.reduceLeDiff, Nat.reduceEqDiff, Nat.reduceLT, reduceCtorEq]) (AWpL.ofM hn rfl ?_); simp (config := { maxSteps := 2000000 }) only [go_sem, ↓reduceIte, Int.reduceToNat, Nat.reduceMul, Int.reduceBEq, Int.reduceBNe, Nat.reduceBEq, Nat.reduceAdd, Nat.reduceSub, Nat.reduceLeDiff, Nat.reduceEqDiff, Nat.reduceLT, reduceCtorEq])
  refine AWpL.calle (s14 ((joinI a b).withF (joinR a b)) (txtR_len h4)) rfl (by rw [hn]; rfl) (by simp (config := { maxSteps := 2000000 }) only [go_sem, ↓reduceIte, Int.reduceToNat, Nat.reduceMul, Int.reduceBEq, Int.reduceBNe, Nat.reduceBEq, Nat.reduceAdd, Nat.reduceSub, Nat.reduceLeDiff, Nat.reduceEqDiff, Nat.reduceLT, reduceCtorEq]) (AWpL.ofM hn rfl ?_)
  rw [m3]
  generalize ((a.ine + b.ine : Int) : Rat) * joinR a b = D at *
  simp (config := { maxSteps := 2000000 }) only [go_sem, ↓reduceIte, Int.reduceToNat, Nat.reduceMul, Int.reduceBEq, Int.reduceBNe, Nat.reduceBEq, Nat.reduceAdd, Nat.reduceSub, Nat.reduceLeDiff, Nat.reduceEqDiff, Nat.reduceLT, reduceCtorEq]
  refine AWp.cond (by rfl) (fun h7 => ?_) (fun h7 => ?_)
  · refine AWp.ofD [] [] hn mixed rfl ?_
    simp (config := { maxSteps := 2000000 }) only [go_sem, ↓reduceIte, Int.reduceToNat, Nat.reduceMul, Int.reduceBEq, Int.reduceBNe, Nat.reduceBEq, Nat.reduceAdd, Nat.reduceSub, Nat.reduceLeDiff, Nat.reduceEqDiff, Nat.reduceLT, reduceCtorEq]
    (refine AWpL.calle (s13) rfl (by rw [hn]; rfl) (by simp (config := { maxSteps := 2000000 }) only [go_sem, ↓reduceIte, Int.reduceToNat, Nat.reduceMul, Int.reduceBEq, Int.reduceBNe, Nat.reduceBEq, Nat.reduceAdd, Nat.reduceSub, Nat.reduceLeDiff, Nat.reduceEqDiff, Nat.reduceLT, reduceCtorEq]) (AWpL.ofM hn rfl ?_); simp (config := { maxSteps := 2000000 }) only [go_sem, ↓reduceIte, Int.reduceToNat, Nat.reduceMul, Int.reduceBEq, Int.reduceBNe, Nat.reduceBEq, Nat.reduceAdd, Nat.reduceSub, Nat.reduceLeDiff, Nat.reduceEqDiff, Nat.reduceLT, reduceCtorEq])
    refine Retn.ret (π := []) hp hnp ⟨rfl, ?_⟩
    simp (config := { maxSteps := 2000000 }) only [go_sem, ↓reduceIte, Int.reduceToNat, Nat.reduceMul, Int.reduceBEq, Int.reduceBNe, Nat.reduceBEq, Nat.reduceAdd, Nat.reduceSub, Nat.reduceLeDiff, Nat.reduceEqDiff, Nat.reduceLT, reduceCtorEq]
  · refine AWp.ofD [] [] hn mixed rfl ?_
    simp (config := { maxSteps := 2000000 }) only [go_sem, ↓reduceIte, Int.reduceToNat, Nat.reduceMul, Int.reduceBEq, Int.reduceBNe, Nat.reduceBEq, Nat.reduceAdd, Nat.reduceSub, Nat.reduceLeDiff, Nat.reduceEqDiff, Nat.reduceLT, reduceCtorEq]
    (refine AWpL.calle (s13) rfl (by rw [hn]; rfl) (by simp (config := { maxSteps := 2000000 }) only [go_sem, ↓reduceIte, Int.reduceToNat, Nat.reduceMul, Int.reduceBEq, Int.reduceBNe, Nat.reduceBEq, Nat.reduceAdd, Nat.reduceSub, Nat.reduceLeDiff, Nat.reduceEqDiff, Nat.reduceLT, reduceCtorEq]) (AWpL.ofM hn rfl ?_); simp (config := { maxSteps := 2000000 }) only [go_sem, ↓reduceIte, Int.reduceToNat, Nat.reduceMul, Int.reduceBEq, Int.reduceBNe, Nat.reduceBEq, Nat.reduceAdd, Nat.reduceSub, Nat.reduceLeDiff, Nat.reduceEqDiff, Nat.reduceLT, reduceCtorEq])
    simp only [Bool.or_eq_false_iff, bne_eq_false_iff_eq] at h7
    obtain ⟨⟨⟨i1, i2⟩, i3⟩, i4⟩ := h7
    have m4 : twoQ addQ (toldR A).1 (toldR C).1 = toldR D := by
      rw [told_txt i1, told_txt i2, add_txt (told_fst i1) (told_fst i2), hid]
    rw [m4]
    refine Retn.ret (π := []) hp hnp ⟨rfl, ?_⟩
    simp (config := { maxSteps := 2000000 }) only [go_sem, ↓reduceIte, Int.reduceToNat, Nat.reduceMul, Int.reduceBEq, Int.reduceBNe, Nat.reduceBEq, Nat.reduceAdd, Nat.reduceSub, Nat.reduceLeDiff, Nat.reduceEqDiff, Nat.reduceLT, reduceCtorEq]
end Go.Proofs.YtjaakbkneeojnaaDoor
