/- Orders: Verify, and the law of safe orders. -/
import Derived.Test.YtkbipopkemfhaaaAwZg
import Derived.Test.YtkbipopkemfhaaaOrdQ
import Derived.Test.YtkbipopkemfhaaaOrdM
set_option linter.unusedVariables false
set_option linter.unusedSimpArgs false
namespace Go.Proofs.Ytkbipopkemfhaaa
open Go.Proofs.Ytkbipopkemfhaaa.Aw
attribute [local go_sem] Int.natCast_zero Int.natCast_one bne_self_eq_false beq_self_eq_true Bool.not_true Bool.not_false Option.isSome_none Option.isSome_some Aw.bkM_nil Option.getD_some Option.getD_none Nat.sub_zero Int.toNat_zero Aw.frzS Aw.frzT Aw.frzA Aw.frzL Aw.frzR Aw.frzO Aw.frzOL Aw.frzOT Aw.frzOR Aw.killS Aw.mapT Aw.mapR Aw.killM Aw.resAVs Aw.resAV Aw.quietOps Aw.wpP Aw.wpT Aw.wpS Aw.AOp.mild List.getElem?_cons_zero List.getElem?_cons_succ Bool.and_false Bool.and_self Bool.false_and Aw.opOb Aw.gdB Aw.Rnd Aw.subTm List.length_map Int.toNat_natCast and_self Aw.SeqC Aw.stops Aw.Ends Aw.looks Aw.renA Aw.renL Aw.renT Aw.renS Aw.wpO Aw.aop Aw.putTm Aw.St.ev Aw.St.put Aw.St.putO Aw.binAV Aw.intBin Aw.strBin Aw.pickAV Aw.optInt Aw.AV.strip Aw.AV.guard Aw.AV.cells Aw.gdOb Aw.AOp.opds Aw.AOp.still Aw.ptrCells Aw.St.reg Aw.fillAV Aw.fillOb Aw.elsOb Aw.splice Aw.firm Aw.cellish Aw.AV.shut Aw.shutAll Aw.Seq Aw.Blk Aw.retS_nil Aw.mapA Aw.mapL Aw.borA Aw.borOb Aw.allOb Aw.tupOf Aw.params Aw.Opd.of Array.toList Value.cells List.map_cons List.map_nil List.getD_cons_zero List.getD_cons_succ List.getD_nil List.length_cons List.length_nil List.take_succ_cons List.take_zero List.take_nil List.drop_zero List.drop_succ_cons List.drop_nil List.set_cons_zero List.set_cons_succ List.append_nil List.nil_append List.cons_append List.all_cons List.all_nil cond_false cond_true if_true if_false true_and and_true Bool.and_true Bool.true_and Option.map_some Option.map_none false_implies forall_const implies_true forall_eq imp_self Bool.cond_false_right Bool.cond_true_left beq_true beq_false Bool.not_eq_true' Bool.false_eq_true Nat.zero_add Nat.add_zero Aw.eqCells Aw.stopDraw Aw.skipS Aw.exactCap Aw.revealS Aw.srcEls Aw.srcSz
attribute [local go_sem ↓] Aw.look_nil Aw.look_ite Aw.wpL_nil Aw.wpL_op Aw.wpL_gd Aw.wpQ_nil Aw.wpQ_op Aw.wpQ_gd Aw.wpC_draw Aw.wpC_reg Aw.wpC_skip Aw.wpC_ret Aw.wpC_exit Aw.wpC_seq Aw.wpC_block Aw.wpC_loop Aw.wpC_cond Aw.stopAt_nil Aw.stopAt_cons Aw.wpD_skip Aw.wpD_ret Aw.wpD_exit Aw.wpD_region Aw.wpD_draw Aw.wpM_nil Aw.wpM_op Aw.wpM_gd Aw.wpD_seq Aw.wpD_block Aw.wpD_loop Aw.wpD_cond
/- gridhall/order.Verify -/
def a16 : ACode :=
  (.seq (.region false [] [
     ⟨(some 8), none, (.mov (.v (.slice none 0 0)))⟩,
     ⟨(some 9), none, (.mov (.v (.int .i64 0)))⟩,
     ⟨(some 10), none, (.mov (.v (.int .i64 0)))⟩])
  (.seq (.seq (.region false [] [
     ⟨(some 20), none, (.mov (.t 0))⟩,
     ⟨(some 21), none, (.call 18 [(.t 20)])⟩,
     ⟨(some 11), none, (.mov (.t 21))⟩])
  (.seq (.region false [] [
     ⟨(some 22), none, (.mov (.t 11))⟩,
     ⟨(some 23), none, (.bin .neq 26 (.t 22) (.v (.int .i64 0)))⟩])
  (.cond (.t 23)
    (.seq (.region false [] [
       ⟨(some 24), none, (.mov (.t 11))⟩,
       ⟨(some 8), none, (.mov (.v (.slice none 0 0)))⟩,
       ⟨(some 9), none, (.mov (.v (.int .i64 0)))⟩,
       ⟨(some 10), none, (.mov (.t 24))⟩])
    .ret)
    .skip)))
  (.seq (.seq (.region false [] [
     ⟨(some 25), none, (.mov (.t 1))⟩,
     ⟨(some 26), none, (.call 19 [(.t 25)])⟩,
     ⟨(some 12), none, (.mov (.t 26))⟩])
  (.seq (.region false [] [
     ⟨(some 27), none, (.mov (.t 12))⟩,
     ⟨(some 28), none, (.bin .neq 26 (.t 27) (.v (.int .i64 0)))⟩])
  (.cond (.t 28)
    (.seq (.region false [] [
       ⟨(some 29), none, (.mov (.t 12))⟩,
       ⟨(some 8), none, (.mov (.v (.slice none 0 0)))⟩,
       ⟨(some 9), none, (.mov (.v (.int .i64 0)))⟩,
       ⟨(some 10), none, (.mov (.t 29))⟩])
    .ret)
    .skip)))
  (.seq (.seq (.region false [] [
     ⟨(some 30), none, (.mov (.t 3))⟩,
     ⟨(some 31), none, (.len (.t 30))⟩,
     ⟨(some 32), none, (.bin .gtr 3 (.t 31) (.v (.int .i64 256)))⟩,
     ⟨(some 33), none, (.mov (.t 32))⟩,
     ⟨(some 34), (some (33, false)), (.mov (.t 2))⟩,
     ⟨(some 35), (some (33, false)), (.len (.t 34))⟩,
     ⟨(some 36), (some (33, false)), (.bin .gtr 3 (.t 35) (.v (.int .i64 256)))⟩,
     ⟨(some 37), none, (.pick (.t 33) (.v (.bool true)) (.t 36))⟩])
  (.cond (.t 37)
    (.seq (.region false [] [
       ⟨(some 8), none, (.mov (.v (.slice none 0 0)))⟩,
       ⟨(some 9), none, (.mov (.v (.int .i64 0)))⟩,
       ⟨(some 10), none, (.mov (.v (.int .i64 2)))⟩])
    .ret)
    .skip))
  (.seq (.region false [] [
     ⟨(some 38), none, (.mov (.t 1))⟩,
     ⟨(some 39), none, (.call 14 [(.t 38)])⟩,
     ⟨(some 13), none, (.mov (.t 39))⟩])
  (.seq (.seq (.region false [] [
     ⟨(some 40), none, (.mov (.t 3))⟩,
     ⟨(some 41), none, (.len (.t 40))⟩,
     ⟨(some 42), none, (.mov (.v (.int .i64 0)))⟩])
  (.block 0 (.loop (.seq (.region false [] [
       ⟨(some 43), none, (.bin .lss 3 (.t 42) (.t 41))⟩])
    (.seq (.cond (.t 43)
      .skip
      (.exit 0))
    (.seq (.block 1 (.seq (.region false [] [
        ⟨(some 44), none, (.mov (.t 42))⟩,
        ⟨(some 45), none, (.idx 2 (.t 40) (.t 42))⟩,
        ⟨(some 46), none, (.load 2 true (.t 45))⟩,
        ⟨(some 15), none, (.alloc 36 (.agg #[(.bool false), (.string ⟨#[]⟩)]))⟩,
        ⟨(some 14), none, (.mov (.t 44))⟩,
        ⟨none, none, (.store 2 (.t 15) (.t 46))⟩])
     (.seq (.region false [] [
        ⟨(some 48), none, (.mov (.t 13))⟩,
        ⟨(some 49), none, (.fld 0 (.t 15))⟩,
        ⟨(some 50), none, (.load 1 false (.t 49))⟩,
        ⟨(some 51), none, (.fld 1 (.t 15))⟩,
        ⟨(some 52), none, (.load 1 false (.t 51))⟩,
        ⟨(some 53), none, (.call 27 [(.t 48), (.t 50), (.t 52)])⟩,
        ⟨(some 47), none, (.mov (.t 53))⟩,
        ⟨(some 54), none, (.ext 0 (.t 47))⟩,
        ⟨(some 55), none, (.ext 1 (.t 47))⟩,
        ⟨(some 16), none, (.mov (.t 54))⟩,
        ⟨(some 17), none, (.mov (.t 55))⟩])
     (.seq (.seq (.region false [] [
        ⟨(some 56), none, (.mov (.t 17))⟩,
        ⟨(some 57), none, (.bin .eql 26 (.t 56) (.v (.int .i64 0)))⟩,
        ⟨(some 58), none, (.mov (.t 57))⟩,
        ⟨(some 59), (some (58, true)), (.mov (.t 2))⟩,
        ⟨(some 60), (some (58, true)), (.fld 1 (.t 15))⟩,
        ⟨(some 61), (some (58, true)), (.load 1 false (.t 60))⟩,
        ⟨(some 62), (some (58, true)), (.call 28 [(.t 59), (.t 61)])⟩,
        ⟨(some 63), none, (.pick (.t 58) (.t 62) (.v (.bool false)))⟩])
     (.cond (.t 63)
       (.region false [] [
          ⟨(some 17), none, (.mov (.v (.int .i64 18)))⟩])
       .skip))
     (.seq (.seq (.region false [] [
        ⟨(some 65), none, (.mov (.t 0))⟩,
        ⟨(some 66), none, (.mov (.t 13))⟩,
        ⟨(some 67), none, (.fld 0 (.t 15))⟩,
        ⟨(some 68), none, (.load 1 false (.t 67))⟩,
        ⟨(some 69), none, (.fld 1 (.t 15))⟩,
        ⟨(some 70), none, (.load 1 false (.t 69))⟩,
        ⟨(some 71), none, (.call 29 [(.t 65), (.t 66), (.t 68), (.t 70)])⟩,
        ⟨(some 64), none, (.mov (.t 71))⟩,
        ⟨(some 72), none, (.ext 0 (.t 64))⟩,
        ⟨(some 73), none, (.ext 1 (.t 64))⟩,
        ⟨(some 18), none, (.mov (.t 72))⟩,
        ⟨(some 19), none, (.mov (.t 73))⟩])
     (.seq (.region false [] [
        ⟨(some 74), none, (.mov (.t 17))⟩,
        ⟨(some 75), none, (.bin .eql 26 (.t 74) (.v (.int .i64 0)))⟩,
        ⟨(some 76), none, (.mov (.t 75))⟩,
        ⟨(some 77), (some (76, true)), (.mov (.t 18))⟩,
        ⟨(some 78), (some (76, true)), (.un .not (.t 77))⟩,
        ⟨(some 79), none, (.pick (.t 76) (.t 78) (.v (.bool false)))⟩])
     (.cond (.t 79)
       (.region false [] [
          ⟨(some 17), none, (.mov (.v (.int .i64 19)))⟩])
       .skip)))
     (.seq (.seq (.region false [] [
        ⟨(some 80), none, (.mov (.t 17))⟩,
        ⟨(some 81), none, (.bin .neq 26 (.t 80) (.v (.int .i64 0)))⟩])
     (.cond (.t 81)
       (.seq (.region false [] [
          ⟨(some 82), none, (.mov (.t 14))⟩,
          ⟨(some 83), none, (.mov (.t 17))⟩,
          ⟨(some 8), none, (.mov (.v (.slice none 0 0)))⟩,
          ⟨(some 9), none, (.mov (.t 82))⟩,
          ⟨(some 10), none, (.mov (.t 83))⟩])
       .ret)
       .skip))
     (.region false [] [
        ⟨(some 84), none, (.mov (.t 16))⟩,
        ⟨(some 13), none, (.mov (.t 84))⟩])))))))
    (.region false [] [
       ⟨(some 85), none, (.bin .add 3 (.t 42) (.v (.int .i64 1)))⟩,
       ⟨(some 42), none, (.mov (.t 85))⟩])))))))
  (.seq (.region false [] [
     ⟨(some 86), none, (.mov (.t 13))⟩,
     ⟨(some 8), none, (.mov (.t 86))⟩,
     ⟨(some 9), none, (.mov (.v (.int .i64 0)))⟩,
     ⟨(some 10), none, (.mov (.v (.int .i64 0)))⟩])
  .ret)))))))
theorem k16 : FnIs Try.prog 16 87 [.t 8, .t 9, .t 10] a16 := ⟨_, _, Try.func16, rfl, by kernel_rfl, by kernel_rfl, rfl⟩
/- gridhall/gridhallkeep4.OrderSafe -/
def a7 : ACode :=
  (.seq (.region false [] [
     ⟨(some 8), none, (.mov (.v (.bool false)))⟩])
  (.seq (.region true [[], [], [1], [2], [0, 3], [], [], [6], [7], [5, 8], [4, 0, 1, 2, 3, 4], [9, 10, 0, 1, 2, 3, 4, 5, 6, 7, 8, 9, 10]] [
     ⟨(some 17), none, (.mov (.t 1))⟩,
     ⟨(some 18), none, (.mov (.t 1))⟩,
     ⟨(some 19), none, (.len (.t 18))⟩,
     ⟨(some 20), none, (.mni (.t 19) (.v (.int .i64 6)))⟩,
     ⟨(some 21), none, (.slc 2 (.t 17) none (some (.t 20)) none)⟩,
     ⟨(some 22), none, (.mov (.t 2))⟩,
     ⟨(some 23), none, (.mov (.t 2))⟩,
     ⟨(some 24), none, (.len (.t 23))⟩,
     ⟨(some 25), none, (.mni (.t 24) (.v (.int .i64 6)))⟩,
     ⟨(some 26), none, (.slc 2 (.t 22) none (some (.t 25)) none)⟩,
     ⟨(some 1), none, (.mov (.t 21))⟩,
     ⟨(some 2), none, (.mov (.t 26))⟩])
  (.seq (.region false [] [
     ⟨(some 28), none, (.mov (.t 0))⟩,
     ⟨(some 29), none, (.mov (.t 1))⟩,
     ⟨(some 30), none, (.mov (.t 2))⟩,
     ⟨(some 31), none, (.mov (.t 3))⟩,
     ⟨(some 32), none, (.call 8 [(.t 28), (.t 29), (.t 30), (.t 31)])⟩,
     ⟨(some 27), none, (.mov (.t 32))⟩,
     ⟨(some 33), none, (.ext 0 (.t 27))⟩,
     ⟨(some 34), none, (.ext 1 (.t 27))⟩,
     ⟨(some 9), none, (.mov (.t 33))⟩,
     ⟨(some 10), none, (.mov (.t 34))⟩])
  (.seq (.seq (.region false [] [
     ⟨(some 35), none, (.mov (.t 10))⟩,
     ⟨(some 36), none, (.bin .neq 26 (.t 35) (.v (.int .i64 0)))⟩])
  (.cond (.t 36)
    (.seq (.region false [] [
       ⟨(some 37), none, (.call 9 [])⟩,
       ⟨(some 38), none, (.mov (.t 37))⟩,
       ⟨(some 39), (some (38, true)), (.mov (.t 9))⟩,
       ⟨(some 40), (some (38, true)), (.len (.t 39))⟩,
       ⟨(some 41), (some (38, true)), (.bin .eql 3 (.t 40) (.v (.int .i64 0)))⟩,
       ⟨(some 42), none, (.pick (.t 38) (.t 41) (.v (.bool false)))⟩,
       ⟨(some 8), none, (.mov (.t 42))⟩])
    .ret)
    .skip))
  (.seq (.region false [] [
     ⟨(some 44), none, (.mov (.t 0))⟩,
     ⟨(some 45), none, (.mov (.t 1))⟩,
     ⟨(some 46), none, (.mov (.t 3))⟩,
     ⟨(some 47), none, (.mov (.t 9))⟩,
     ⟨(some 48), none, (.call 16 [(.t 44), (.t 45), (.t 46), (.t 47)])⟩,
     ⟨(some 43), none, (.mov (.t 48))⟩,
     ⟨(some 49), none, (.ext 0 (.t 43))⟩,
     ⟨(some 50), none, (.ext 1 (.t 43))⟩,
     ⟨(some 51), none, (.ext 2 (.t 43))⟩,
     ⟨(some 11), none, (.mov (.t 49))⟩,
     ⟨(some 12), none, (.mov (.t 50))⟩,
     ⟨(some 13), none, (.mov (.t 51))⟩])
  (.seq (.region false [] [
     ⟨(some 14), none, (.mov (.v (.int .i64 0)))⟩])
  (.seq (.seq (.region false [] [
     ⟨(some 52), none, (.mov (.t 1))⟩,
     ⟨(some 53), none, (.len (.t 52))⟩,
     ⟨(some 54), none, (.mov (.v (.int .i64 0)))⟩])
  (.block 0 (.loop (.seq (.region false [] [
       ⟨(some 55), none, (.bin .lss 3 (.t 54) (.t 53))⟩])
    (.seq (.cond (.t 55)
      .skip
      (.exit 0))
    (.seq (.block 1 (.seq (.region false [] [
        ⟨(some 56), none, (.mov (.t 54))⟩,
        ⟨(some 57), none, (.idx 2 (.t 52) (.t 54))⟩,
        ⟨(some 58), none, (.load 2 true (.t 57))⟩,
        ⟨(some 16), none, (.alloc 33 (.agg #[(.string ⟨#[]⟩), (.bool false)]))⟩,
        ⟨(some 15), none, (.mov (.t 56))⟩,
        ⟨none, none, (.store 2 (.t 16) (.t 58))⟩])
     (.seq (.region true [[], [], [1], [0, 2], [3], [4], [4], [4], [6, 7, 4], [8, 4], [5, 9, 4], [4, 10]] [
        ⟨(some 59), none, (.mov (.t 15))⟩,
        ⟨(some 60), none, (.mov (.t 2))⟩,
        ⟨(some 61), none, (.len (.t 60))⟩,
        ⟨(some 62), none, (.bin .geq 3 (.t 59) (.t 61))⟩,
        ⟨(some 63), none, (.mov (.t 62))⟩,
        ⟨(some 64), (some (63, false)), (.load 2 true (.t 16))⟩,
        ⟨(some 65), (some (63, false)), (.mov (.t 2))⟩,
        ⟨(some 66), (some (63, false)), (.mov (.t 15))⟩,
        ⟨(some 67), (some (63, false)), (.idx 2 (.t 65) (.t 66))⟩,
        ⟨(some 68), (some (63, false)), (.load 2 true (.t 67))⟩,
        ⟨(some 69), (some (63, false)), (.aeq true [.s, .b] (.t 64) (.t 68))⟩,
        ⟨(some 70), none, (.pick (.t 63) (.v (.bool true)) (.t 69))⟩])
     (.cond (.t 70)
       (.region false [] [
          ⟨(some 71), none, (.mov (.t 14))⟩,
          ⟨(some 72), none, (.bin .add 3 (.t 71) (.v (.int .i64 1)))⟩,
          ⟨(some 14), none, (.mov (.t 72))⟩])
       .skip))))
    (.region false [] [
       ⟨(some 73), none, (.bin .add 3 (.t 54) (.v (.int .i64 1)))⟩,
       ⟨(some 54), none, (.mov (.t 73))⟩])))))))
  (.seq (.region false [] [
     ⟨(some 74), none, (.call 9 [])⟩,
     ⟨(some 75), none, (.mov (.t 74))⟩,
     ⟨(some 76), (some (75, true)), (.mov (.t 13))⟩,
     ⟨(some 77), (some (75, true)), (.bin .eql 26 (.t 76) (.v (.int .i64 0)))⟩,
     ⟨(some 78), none, (.pick (.t 75) (.t 77) (.v (.bool false)))⟩,
     ⟨(some 79), none, (.mov (.t 78))⟩,
     ⟨(some 80), (some (79, true)), (.mov (.t 12))⟩,
     ⟨(some 81), (some (79, true)), (.bin .eql 3 (.t 80) (.v (.int .i64 0)))⟩,
     ⟨(some 82), none, (.pick (.t 79) (.t 81) (.v (.bool false)))⟩,
     ⟨(some 83), none, (.mov (.t 82))⟩,
     ⟨(some 84), (some (83, true)), (.mov (.t 11))⟩,
     ⟨(some 85), (some (83, true)), (.mov (.t 2))⟩,
     ⟨(some 86), (some (83, true)), (.call 17 [(.t 84), (.t 85)])⟩,
     ⟨(some 87), none, (.pick (.t 83) (.t 86) (.v (.bool false)))⟩,
     ⟨(some 88), none, (.mov (.t 87))⟩,
     ⟨(some 89), (some (88, true)), (.mov (.t 9))⟩,
     ⟨(some 90), (some (88, true)), (.len (.t 89))⟩,
     ⟨(some 91), (some (88, true)), (.mov (.t 14))⟩,
     ⟨(some 92), (some (88, true)), (.bin .geq 3 (.t 90) (.t 91))⟩,
     ⟨(some 93), none, (.pick (.t 88) (.t 92) (.v (.bool false)))⟩,
     ⟨(some 94), none, (.mov (.t 93))⟩,
     ⟨(some 95), (some (94, true)), (.mov (.t 9))⟩,
     ⟨(some 96), (some (94, true)), (.len (.t 95))⟩,
     ⟨(some 97), (some (94, true)), (.mov (.t 14))⟩,
     ⟨(some 98), (some (94, true)), (.bin .sub 3 (.t 96) (.t 97))⟩,
     ⟨(some 99), (some (94, true)), (.bin .rem 3 (.t 98) (.v (.int .i64 2)))⟩,
     ⟨(some 100), (some (94, true)), (.bin .eql 3 (.t 99) (.v (.int .i64 0)))⟩,
     ⟨(some 101), none, (.pick (.t 94) (.t 100) (.v (.bool false)))⟩,
     ⟨(some 8), none, (.mov (.t 101))⟩])
  .ret))))))))
theorem k7 : FnIs Try.prog 7 102 [.t 8] a7 := ⟨_, _, Try.func7, rfl, by kernel_rfl, by kernel_rfl, rfl⟩
/- slices.Equal[[]gridhall/api.InterlockState,gridhall/api.InterlockState] -/
def a17 : ACode :=
  (.seq (.region false [] [
     ⟨(some 4), none, (.mov (.v (.bool false)))⟩])
  (.seq (.seq (.region false [] [
     ⟨(some 6), none, (.mov (.t 0))⟩,
     ⟨(some 7), none, (.len (.t 6))⟩,
     ⟨(some 8), none, (.mov (.t 1))⟩,
     ⟨(some 9), none, (.len (.t 8))⟩,
     ⟨(some 10), none, (.bin .neq 3 (.t 7) (.t 9))⟩])
  (.cond (.t 10)
    (.seq (.region false [] [
       ⟨(some 4), none, (.mov (.v (.bool false)))⟩])
    .ret)
    .skip))
  (.seq (.seq (.region false [] [
     ⟨(some 11), none, (.mov (.t 0))⟩,
     ⟨(some 12), none, (.len (.t 11))⟩,
     ⟨(some 13), none, (.mov (.v (.int .i64 0)))⟩])
  (.block 0 (.loop (.seq (.region false [] [
       ⟨(some 14), none, (.bin .lss 3 (.t 13) (.t 12))⟩])
    (.seq (.cond (.t 14)
      .skip
      (.exit 0))
    (.seq (.block 1 (.seq (.region false [] [
        ⟨(some 15), none, (.mov (.t 13))⟩,
        ⟨(some 5), none, (.mov (.t 15))⟩])
     (.seq (.region true [[], [], [0, 1], [2], [], [], [4, 5], [6], [3, 7]] [
        ⟨(some 16), none, (.mov (.t 0))⟩,
        ⟨(some 17), none, (.mov (.t 5))⟩,
        ⟨(some 18), none, (.idx 2 (.t 16) (.t 17))⟩,
        ⟨(some 19), none, (.load 2 true (.t 18))⟩,
        ⟨(some 20), none, (.mov (.t 1))⟩,
        ⟨(some 21), none, (.mov (.t 5))⟩,
        ⟨(some 22), none, (.idx 2 (.t 20) (.t 21))⟩,
        ⟨(some 23), none, (.load 2 true (.t 22))⟩,
        ⟨(some 24), none, (.aeq true [.s, .b] (.t 19) (.t 23))⟩])
     (.cond (.t 24)
       (.seq (.region false [] [
          ⟨(some 4), none, (.mov (.v (.bool false)))⟩])
       .ret)
       .skip))))
    (.region false [] [
       ⟨(some 25), none, (.bin .add 3 (.t 13) (.v (.int .i64 1)))⟩,
       ⟨(some 13), none, (.mov (.t 25))⟩])))))))
  (.seq (.region false [] [
     ⟨(some 4), none, (.mov (.v (.bool true)))⟩])
  .ret))))
theorem k17 : FnIs Try.prog 17 26 [.t 4] a17 := ⟨_, _, Try.func17, rfl, by kernel_rfl, by kernel_rfl, rfl⟩

/-- Equal states. -/
def staEq (x y : Sta) : Bool := x.name.toList == y.name.toList && x.closed == y.closed
/-- A list is equal to itself. -/
theorem s17 (nl fl nm' fm) (l : List Sta) (hl : l.length ≤ 1000) : Aw.Spec Try.prog 17 [] [sts' nl fl l, sts' nm' fm l] (Gives (· = B true)) := by
  refine Aw.Spec.givesD k17 mixed rfl rfl rfl fun E hn hnp hp => ?_
  unfold a17
  have e9 : ((l.length : Int) != (l.length : Int)) = false := by simp
  simp (config := { maxSteps := 2000000 }) only [go_sem, ↓reduceIte, Int.reduceToNat, Nat.reduceMul, Int.reduceBEq, Int.reduceBNe, Nat.reduceBEq, Nat.reduceAdd, Nat.reduceSub, Nat.reduceLeDiff, Nat.reduceEqDiff, Nat.reduceLT, reduceCtorEq, e9]
  refine AWp.loop (fun k s => ∃ i : Nat, i + k = l.length ∧ Weak E s ⟨[(0, sts' nl fl l), (1, sts' nm' fm l), (12, I l.length), (13, I i)], []⟩) (n := l.length)
    ⟨0, by omega, weak_to [] hp hnp rfl (by simp (config := { maxSteps := 2000000 }) only [go_sem, ↓reduceIte, Int.reduceToNat, Nat.reduceMul, Int.reduceBEq, Int.reduceBNe, Nat.reduceBEq, Nat.reduceAdd, Nat.reduceSub, Nat.reduceLeDiff, Nat.reduceEqDiff, Nat.reduceLT, reduceCtorEq, Int.natCast_zero]) rfl⟩ ?_
  rintro k s ⟨i, hi, hw⟩
  refine AWp.weak hw (AWp.ofD [] [] hn mixed rfl ?_)
  rcases Nat.lt_or_ge i l.length with hlt | hge
  · have e0 : decide ((i : Int) < (l.length : Int)) = true := by simp; omega
    have e1 := getD_map stc hlt
    have e2 : IntKind.i64.wrap ((i : Int) + 1) = ((i + 1 : Nat) : Int) := by rw [w64 (by omega) (by omega)]; omega
    simp (config := { maxSteps := 2000000 }) only [go_sem, ↓reduceIte, Int.reduceToNat, Nat.reduceMul, Int.reduceBEq, Int.reduceBNe, Nat.reduceBEq, Nat.reduceAdd, Nat.reduceSub, Nat.reduceLeDiff, Nat.reduceEqDiff, Nat.reduceLT, reduceCtorEq, e0, e1, e2]
    (repeat (refine And.intro (by first | omega | (refine ⟨by omega, by omega⟩) | (refine ⟨by omega, by omega, by omega⟩) | (simp only [List.length_map, List.length_range, List.length_append, List.length_cons, List.length_nil, List.length_replicate, List.length_set]; omega) | (simp; omega) | (intro hgd; cases hgd) | (intro hgd; refine ⟨hgd, ?_⟩; first | omega | (refine ⟨by omega, by omega⟩) | (simp; omega))) ?_))
    exact ⟨k - 1, by omega, i + 1, by omega, weak_to [] hp hnp rfl (by simp (config := { maxSteps := 2000000 }) only [go_sem, ↓reduceIte, Int.reduceToNat, Nat.reduceMul, Int.reduceBEq, Int.reduceBNe, Nat.reduceBEq, Nat.reduceAdd, Nat.reduceSub, Nat.reduceLeDiff, Nat.reduceEqDiff, Nat.reduceLT, reduceCtorEq]) rfl⟩
  · have e0 : decide ((i : Int) < (l.length : Int)) = false := by simp; omega
    simp (config := { maxSteps := 2000000 }) only [go_sem, ↓reduceIte, Int.reduceToNat, Nat.reduceMul, Int.reduceBEq, Int.reduceBNe, Nat.reduceBEq, Nat.reduceAdd, Nat.reduceSub, Nat.reduceLeDiff, Nat.reduceEqDiff, Nat.reduceLT, reduceCtorEq, e0]
theorem setL_ok {now : List Sta} {cl : Bool} {n : ByteArray} (h : ∀ x ∈ now, x.name.size ≤ 9223372036854775807) (h0 : setE now cl n = 0) (hr : 0 ≤ findF now n) : ∀ x ∈ setL now cl n, x.name.size ≤ 9223372036854775807 := fun x hx => by
  unfold setL at hx
  rw [if_pos h0] at hx
  have hf := findF_range now n
  rcases List.mem_or_eq_of_mem_set hx with hx | rfl
  · exact h x hx
  · have hk : (findF now n).toNat < now.length := by omega
    dsimp only
    rw [List.getD_eq_getElem?_getD, List.getElem?_eq_getElem hk]
    exact h _ (List.getElem_mem hk)
theorem setE_ok {now : List Sta} {cl : Bool} {n : ByteArray} (h0 : setE now cl n = 0) : statesF now = 0 ∧ 0 ≤ findF now n := by
  unfold setE at h0
  split at h0
  · rename_i h1; exact absurd h0 h1
  rename_i h1
  split at h0
  · cases h0
  · exact ⟨by simpa using h1, by omega⟩
set_option maxRecDepth 20000 in
set_option maxHeartbeats 1000000 in
theorem s16 (nr fr) (rules : List Rul) (na fa) (a b : List Sta) (nh fh) (held : List ByteArray) (nl fl) (l : List Stp) (hc : checkF rules = 0) (hst : statesF a = 0) (hl : l.length ≤ 256) (hh : held.length ≤ 256) (hs : ∀ r ∈ rules, RulOk r) (ha : ∀ x ∈ a, x.name.size ≤ 9223372036854775807) (hv : verOk rules held a l b) :
    Aw.Spec Try.prog 16 [] [rs nr fr rules, sts' na fa a, ss nh fh held, .imm nl fl 2 (l.map spc)] (fun rg v => rg = [] ∧ v = .tup [sts' none false b, I 0, I 0]) := by
  refine Aw.Spec.regsD k16 mixed rfl rfl rfl fun E hn hnp hp => ?_
  unfold a16
  have pin : ∀ r, E.pin r = none := fun r => hp.none hnp (Nat.zero_le _)
  have h32 := statesF_len hst
  simp (config := { maxSteps := 2000000 }) only [go_sem, ↓reduceIte, Int.reduceToNat, Nat.reduceMul, Int.reduceBEq, Int.reduceBNe, Nat.reduceBEq, Nat.reduceAdd, Nat.reduceSub, Nat.reduceLeDiff, Nat.reduceEqDiff, Nat.reduceLT, reduceCtorEq]
  (refine AWpL.calle (s18 nr fr rules hs) rfl (by rw [hn]; rfl) (by simp (config := { maxSteps := 2000000 }) only [go_sem, ↓reduceIte, Int.reduceToNat, Nat.reduceMul, Int.reduceBEq, Int.reduceBNe, Nat.reduceBEq, Nat.reduceAdd, Nat.reduceSub, Nat.reduceLeDiff, Nat.reduceEqDiff, Nat.reduceLT, reduceCtorEq]) (AWpL.ofM hn rfl ?_); simp (config := { maxSteps := 2000000 }) only [go_sem, ↓reduceIte, Int.reduceToNat, Nat.reduceMul, Int.reduceBEq, Int.reduceBNe, Nat.reduceBEq, Nat.reduceAdd, Nat.reduceSub, Nat.reduceLeDiff, Nat.reduceEqDiff, Nat.reduceLT, reduceCtorEq])
  rw [hc]
  simp (config := { maxSteps := 2000000 }) only [go_sem, ↓reduceIte, Int.reduceToNat, Nat.reduceMul, Int.reduceBEq, Int.reduceBNe, Nat.reduceBEq, Nat.reduceAdd, Nat.reduceSub, Nat.reduceLeDiff, Nat.reduceEqDiff, Nat.reduceLT, reduceCtorEq, bne_self_eq_false]
  (refine AWpL.calle (s19 na fa a ha) rfl (by rw [hn]; rfl) (by simp (config := { maxSteps := 2000000 }) only [go_sem, ↓reduceIte, Int.reduceToNat, Nat.reduceMul, Int.reduceBEq, Int.reduceBNe, Nat.reduceBEq, Nat.reduceAdd, Nat.reduceSub, Nat.reduceLeDiff, Nat.reduceEqDiff, Nat.reduceLT, reduceCtorEq]) (AWpL.ofM hn rfl ?_); simp (config := { maxSteps := 2000000 }) only [go_sem, ↓reduceIte, Int.reduceToNat, Nat.reduceMul, Int.reduceBEq, Int.reduceBNe, Nat.reduceBEq, Nat.reduceAdd, Nat.reduceSub, Nat.reduceLeDiff, Nat.reduceEqDiff, Nat.reduceLT, reduceCtorEq])
  rw [hst]
  have e1 : decide ((l.length : Int) > 256) = false := decide_eq_false (by omega)
  have e2 : decide ((held.length : Int) > 256) = false := decide_eq_false (by omega)
  simp (config := { maxSteps := 2000000 }) only [go_sem, ↓reduceIte, Int.reduceToNat, Nat.reduceMul, Int.reduceBEq, Int.reduceBNe, Nat.reduceBEq, Nat.reduceAdd, Nat.reduceSub, Nat.reduceLeDiff, Nat.reduceEqDiff, Nat.reduceLT, reduceCtorEq, bne_self_eq_false, e1, e2, Bool.or_self]
  refine AWpL.callA [] (s14 na fa a (by omega)) rfl rfl (by rw [hn]; rfl) rfl (fun r hr => by cases hr) fun rg v hv => ?_
  obtain ⟨rfl, rfl⟩ := hv
  refine ⟨Nat.zero_le _, AWpL.ofM hn rfl ?_⟩
  simp (config := { maxSteps := 2000000 }) only [go_sem, ↓reduceIte, Int.reduceToNat, Nat.reduceMul, Int.reduceBEq, Int.reduceBNe, Nat.reduceBEq, Nat.reduceAdd, Nat.reduceSub, Nat.reduceLeDiff, Nat.reduceEqDiff, Nat.reduceLT, reduceCtorEq, Aw.retS, Aw.retRg, Aw.kpM, Aw.bkM, Aw.pos, Aw.isBox]
  refine AWp.loop (fun k s => ∃ (i : Nat) (now : List Sta), i + k = l.length ∧ (∀ x ∈ now, x.name.size ≤ 9223372036854775807) ∧ verOk rules held now (l.drop i) b ∧ Weak E s ⟨[(0, rs nr fr rules), (2, ss nh fh held), (13, sts' none false now), (40, .imm nl fl 2 (l.map spc)), (41, I l.length), (42, I i)], []⟩) (n := l.length)
    ⟨0, a, by omega, ha, hv, weak_to [] hp hnp rfl (by simp (config := { maxSteps := 2000000 }) only [go_sem, ↓reduceIte, Int.reduceToNat, Nat.reduceMul, Int.reduceBEq, Int.reduceBNe, Nat.reduceBEq, Nat.reduceAdd, Nat.reduceSub, Nat.reduceLeDiff, Nat.reduceEqDiff, Nat.reduceLT, reduceCtorEq, Int.natCast_zero]) rfl⟩ ?_
  clear hv
  rintro k s ⟨i, now, hik, hnow, hv, hw⟩
  refine AWp.weak hw (AWp.ofD [] [] hn mixed rfl ?_)
  rcases Nat.lt_or_ge i l.length with hlt | hge
  · have e0 : decide ((i : Int) < (l.length : Int)) = true := decide_eq_true (by omega)
    have e3 := getD_map spc hlt
    have e4 : IntKind.i64.wrap ((i : Int) + 1) = ((i + 1 : Nat) : Int) := by rw [w64 (by omega) (by omega)]; omega
    rw [List.drop_eq_getElem_cons hlt] at hv
    obtain ⟨⟨h1, h2, h3⟩, hv⟩ := hv
    generalize l[i] = x at *
    obtain ⟨g1, g2⟩ := setE_ok h1
    have hn2 := setL_ok hnow h1 g2
    simp (config := { maxSteps := 2000000 }) only [go_sem, ↓reduceIte, Int.reduceToNat, Nat.reduceMul, Int.reduceBEq, Int.reduceBNe, Nat.reduceBEq, Nat.reduceAdd, Nat.reduceSub, Nat.reduceLeDiff, Nat.reduceEqDiff, Nat.reduceLT, reduceCtorEq, e0, e3]
    (repeat (refine And.intro (by first | omega | (refine ⟨by omega, by omega⟩) | (refine ⟨by omega, by omega, by omega⟩) | (simp only [List.length_map, List.length_range, List.length_append, List.length_cons, List.length_nil, List.length_replicate, List.length_set]; omega) | (simp; omega) | (intro hgd; cases hgd) | (intro hgd; refine ⟨hgd, ?_⟩; first | omega | (refine ⟨by omega, by omega⟩) | (simp; omega))) ?_))
    refine AWpL.callA [] (s27 none false now x.close x.sw hnow) rfl rfl (by rw [hn]; rfl) rfl (fun r hr => by cases hr) fun rg v hv => ?_
    obtain ⟨rfl, rfl⟩ := hv
    refine ⟨Nat.zero_le _, AWpL.ofM hn rfl ?_⟩
    rw [h1]
    simp (config := { maxSteps := 2000000 }) only [go_sem, ↓reduceIte, Int.reduceToNat, Nat.reduceMul, Int.reduceBEq, Int.reduceBNe, Nat.reduceBEq, Nat.reduceAdd, Nat.reduceSub, Nat.reduceLeDiff, Nat.reduceEqDiff, Nat.reduceLT, reduceCtorEq, Aw.retS, Aw.retRg, Aw.kpM, Aw.bkM, Aw.pos, Aw.isBox]
    (refine AWpL.gcalle (b := true) rfl (fun _ => (s28 nh fh held x.sw (by omega))) rfl (by rw [hn]; rfl) (fun _ => by simp (config := { maxSteps := 2000000 }) only [go_sem, ↓reduceIte, Int.reduceToNat, Nat.reduceMul, Int.reduceBEq, Int.reduceBNe, Nat.reduceBEq, Nat.reduceAdd, Nat.reduceSub, Nat.reduceLeDiff, Nat.reduceEqDiff, Nat.reduceLT, reduceCtorEq]) (AWpL.ofM hn rfl ?_); simp (config := { maxSteps := 2000000 }) only [go_sem, ↓reduceIte, Int.reduceToNat, Nat.reduceMul, Int.reduceBEq, Int.reduceBNe, Nat.reduceBEq, Nat.reduceAdd, Nat.reduceSub, Nat.reduceLeDiff, Nat.reduceEqDiff, Nat.reduceLT, reduceCtorEq])
    rw [h2]
    simp (config := { maxSteps := 2000000 }) only [go_sem, ↓reduceIte, Int.reduceToNat, Nat.reduceMul, Int.reduceBEq, Int.reduceBNe, Nat.reduceBEq, Nat.reduceAdd, Nat.reduceSub, Nat.reduceLeDiff, Nat.reduceEqDiff, Nat.reduceLT, reduceCtorEq]
    (refine AWpL.calle (s29 nr fr rules none false now x.close x.sw hs hnow) rfl (by rw [hn]; rfl) (by simp (config := { maxSteps := 2000000 }) only [go_sem, ↓reduceIte, Int.reduceToNat, Nat.reduceMul, Int.reduceBEq, Int.reduceBNe, Nat.reduceBEq, Nat.reduceAdd, Nat.reduceSub, Nat.reduceLeDiff, Nat.reduceEqDiff, Nat.reduceLT, reduceCtorEq]) (AWpL.ofM hn rfl ?_); simp (config := { maxSteps := 2000000 }) only [go_sem, ↓reduceIte, Int.reduceToNat, Nat.reduceMul, Int.reduceBEq, Int.reduceBNe, Nat.reduceBEq, Nat.reduceAdd, Nat.reduceSub, Nat.reduceLeDiff, Nat.reduceEqDiff, Nat.reduceLT, reduceCtorEq])
    rw [h3]
    simp (config := { maxSteps := 2000000 }) only [go_sem, ↓reduceIte, Int.reduceToNat, Nat.reduceMul, Int.reduceBEq, Int.reduceBNe, Nat.reduceBEq, Nat.reduceAdd, Nat.reduceSub, Nat.reduceLeDiff, Nat.reduceEqDiff, Nat.reduceLT, reduceCtorEq, e4]
    exact ⟨k - 1, by omega, i + 1, setL now x.close x.sw, by omega, hn2, hv, weak_to [] hp hnp rfl (by simp (config := { maxSteps := 2000000 }) only [go_sem, ↓reduceIte, Int.reduceToNat, Nat.reduceMul, Int.reduceBEq, Int.reduceBNe, Nat.reduceBEq, Nat.reduceAdd, Nat.reduceSub, Nat.reduceLeDiff, Nat.reduceEqDiff, Nat.reduceLT, reduceCtorEq]) rfl⟩
  · have e0 : decide ((i : Int) < (l.length : Int)) = false := decide_eq_false (by omega)
    rw [List.drop_of_length_le hge] at hv
    obtain rfl : b = now := hv
    simp (config := { maxSteps := 2000000 }) only [go_sem, ↓reduceIte, Int.reduceToNat, Nat.reduceMul, Int.reduceBEq, Int.reduceBNe, Nat.reduceBEq, Nat.reduceAdd, Nat.reduceSub, Nat.reduceLeDiff, Nat.reduceEqDiff, Nat.reduceLT, reduceCtorEq, e0]
    refine Retn.ret (π := []) hp hnp ⟨rfl, ?_⟩
    simp (config := { maxSteps := 2000000 }) only [go_sem, ↓reduceIte, Int.reduceToNat, Nat.reduceMul, Int.reduceBEq, Int.reduceBNe, Nat.reduceBEq, Nat.reduceAdd, Nat.reduceSub, Nat.reduceLeDiff, Nat.reduceEqDiff, Nat.reduceLT, reduceCtorEq]
set_option maxRecDepth 20000 in
set_option maxHeartbeats 1000000 in
theorem s7 (nr fr) (rules : List Rul) (na fa) (a0 : List Sta) (nb fb) (b0 : List Sta) (nh fh) (held : List ByteArray) (hh : held.length ≤ 9223372036854775807) (hs : ∀ r ∈ rules, RulOk r)
    (ha : ∀ x ∈ a0, x.name.size ≤ 9223372036854775807) (hb : ∀ x ∈ b0, x.name.size ≤ 9223372036854775807) :
    Aw.Spec Try.prog 7 [] [rs nr fr rules, sts' na fa a0, sts' nb fb b0, ss nh fh held] (Gives (· = B true)) := by
  refine Aw.Spec.givesD k7 mixed rfl rfl rfl fun E hn hnp hp => ?_
  unfold a7
  have ha2 : ∀ x ∈ a0.take 6, x.name.size ≤ 9223372036854775807 := fun x hx => ha x (List.mem_of_mem_take hx)
  have hb2 : ∀ x ∈ b0.take 6, x.name.size ≤ 9223372036854775807 := fun x hx => hb x (List.mem_of_mem_take hx)
  have hl6 : (a0.take 6).length ≤ 6 := by rw [List.length_take]; omega
  simp (config := { maxSteps := 2000000 }) only [go_sem, ↓reduceIte, Int.reduceToNat, Nat.reduceMul, Int.reduceBEq, Int.reduceBNe, Nat.reduceBEq, Nat.reduceAdd, Nat.reduceSub, Nat.reduceLeDiff, Nat.reduceEqDiff, Nat.reduceLT, reduceCtorEq, minT6]
  (repeat (refine And.intro (by first | omega | (refine ⟨by omega, by omega⟩) | (refine ⟨by omega, by omega, by omega⟩) | (simp only [List.length_map, List.length_range, List.length_append, List.length_cons, List.length_nil, List.length_replicate, List.length_set]; omega) | (simp; omega) | (intro hgd; cases hgd) | (intro hgd; refine ⟨hgd, ?_⟩; first | omega | (refine ⟨by omega, by omega⟩) | (simp; omega))) ?_))
  generalize a0.take 6 = a at *
  generalize b0.take 6 = b at *
  refine AWpL.callA [] (s8 ⟨nr, fr, rules, na, false, a, nh, fh, held⟩ nb false b hh hs ha2 hb2) rfl rfl (by rw [hn]; rfl) rfl (fun r hr => by cases hr) fun rg v hv => ?_
  obtain ⟨rfl, rfl⟩ := hv
  refine ⟨Nat.zero_le _, AWpL.ofM hn rfl ?_⟩
  simp (config := { maxSteps := 2000000 }) only [go_sem, ↓reduceIte, Int.reduceToNat, Nat.reduceMul, Int.reduceBEq, Int.reduceBNe, Nat.reduceBEq, Nat.reduceAdd, Nat.reduceSub, Nat.reduceLeDiff, Nat.reduceEqDiff, Nat.reduceLT, reduceCtorEq, Aw.retS, Aw.retRg, Aw.kpM, Aw.bkM, Aw.pos, Aw.isBox]
  have hnil : planE rules a b held ≠ 0 → planL ⟨nr, fr, rules, na, false, a, nh, fh, held⟩ b = [] := fun h => if_neg h
  have l1 := planL_le (p := ⟨nr, fr, rules, na, false, a, nh, fh, held⟩) (b := b)
  have hver := fun h => planL_ver (p := ⟨nr, fr, rules, na, false, a, nh, fh, held⟩) (b := b) h
  have hstp := fun h => plan_steps (p := ⟨nr, fr, rules, na, false, a, nh, fh, held⟩) (b := b) h
  have hz := fun h => (planE_zero (rules := rules) (a := a) (b := b) (held := held)).1 h
  dsimp only at hver hstp
  generalize planL ⟨nr, fr, rules, na, false, a, nh, fh, held⟩ b = x at *
  generalize planE rules a b held = e at *
  simp only [bne_iff_ne, bne_eq_false_iff_eq, ne_eq]
  refine ⟨fun h => ?_, fun h => ?_⟩
  · rw [hnil h]
    (refine AWpL.calle (s9) rfl (by rw [hn]; rfl) (by simp (config := { maxSteps := 2000000 }) only [go_sem, ↓reduceIte, Int.reduceToNat, Nat.reduceMul, Int.reduceBEq, Int.reduceBNe, Nat.reduceBEq, Nat.reduceAdd, Nat.reduceSub, Nat.reduceLeDiff, Nat.reduceEqDiff, Nat.reduceLT, reduceCtorEq]) (AWpL.ofM hn rfl ?_); simp (config := { maxSteps := 2000000 }) only [go_sem, ↓reduceIte, Int.reduceToNat, Nat.reduceMul, Int.reduceBEq, Int.reduceBNe, Nat.reduceBEq, Nat.reduceAdd, Nat.reduceSub, Nat.reduceLeDiff, Nat.reduceEqDiff, Nat.reduceLT, reduceCtorEq])
  obtain ⟨g1, g2, g3, g4, g5, g6, g7⟩ := hz h
  have hvr := hver h
  obtain ⟨m, hm⟩ := (hstp h).ham
  have hlb := nmE_leq g6
  refine AWpL.callA [] (s16 nr fr rules na false a b nh fh held none false x g1 g2 l1 g5 hs ha2 hvr) rfl rfl (by rw [hn]; rfl) rfl (fun r hr => by cases hr) fun rg v hv => ?_
  obtain ⟨rfl, rfl⟩ := hv
  refine ⟨Nat.zero_le _, AWpL.ofM hn rfl ?_⟩
  simp (config := { maxSteps := 2000000 }) only [go_sem, ↓reduceIte, Int.reduceToNat, Nat.reduceMul, Int.reduceBEq, Int.reduceBNe, Nat.reduceBEq, Nat.reduceAdd, Nat.reduceSub, Nat.reduceLeDiff, Nat.reduceEqDiff, Nat.reduceLT, reduceCtorEq, Aw.retS, Aw.retRg, Aw.kpM, Aw.bkM, Aw.pos, Aw.isBox]
  refine AWp.loop (fun k s => ∃ i : Nat, i + k = a.length ∧ Weak E s ⟨[(2, sts' nb false b), (9, .imm none false 2 (x.map spc)), (11, sts' none false b), (12, I 0), (13, I 0), (14, I (apF a b i)), (52, sts' na false a), (53, I a.length), (54, I i)], []⟩) (n := a.length)
    ⟨0, by omega, weak_to [] hp hnp rfl (by simp (config := { maxSteps := 2000000 }) only [go_sem, ↓reduceIte, Int.reduceToNat, Nat.reduceMul, Int.reduceBEq, Int.reduceBNe, Nat.reduceBEq, Nat.reduceAdd, Nat.reduceSub, Nat.reduceLeDiff, Nat.reduceEqDiff, Nat.reduceLT, reduceCtorEq, Int.natCast_zero, apF, ham]) rfl⟩ ?_
  rintro k s ⟨i, hik, hw⟩
  refine AWp.weak hw (AWp.ofD [] [] hn mixed rfl ?_)
  have hap := apF_le a b i
  rcases Nat.lt_or_ge i a.length with hlt | hge
  · have e0 : decide ((i : Int) < (a.length : Int)) = true := decide_eq_true (by omega)
    have e3 := getD_mapD default stc hlt
    have e5 := getD_mapD default stc (l := b) (i := i) (by omega)
    have e4 : IntKind.i64.wrap ((i : Int) + 1) = ((i + 1 : Nat) : Int) := by rw [w64 (by omega) (by omega)]; omega
    have e6 : IntKind.i64.wrap ((apF a b i : Int) + 1) = ((apF a b i + 1 : Nat) : Int) := by rw [w64 (by omega) (by omega)]; omega
    have e7 : decide ((i : Int) ≥ (b.length : Int)) = false := decide_eq_false (by omega)
    have hsu := apF_succ a b i
    have hnm := name_get g6 hlt
    generalize a.getD i default = p at *
    generalize b.getD i default = q at *
    simp (config := { maxSteps := 2000000 }) only [go_sem, ↓reduceIte, Int.reduceToNat, Nat.reduceMul, Int.reduceBEq, Int.reduceBNe, Nat.reduceBEq, Nat.reduceAdd, Nat.reduceSub, Nat.reduceLeDiff, Nat.reduceEqDiff, Nat.reduceLT, reduceCtorEq, e0, e3, e4, e5, e6, e7, hnm]
    refine ⟨by omega, by omega, fun h2 => ?_, fun h2 => ?_⟩
    · rw [if_neg (by rw [h2]; decide)] at hsu
      exact ⟨k - 1, by omega, i + 1, by omega, weak_to [] hp hnp rfl (by simp (config := { maxSteps := 2000000 }) only [go_sem, ↓reduceIte, Int.reduceToNat, Nat.reduceMul, Int.reduceBEq, Int.reduceBNe, Nat.reduceBEq, Nat.reduceAdd, Nat.reduceSub, Nat.reduceLeDiff, Nat.reduceEqDiff, Nat.reduceLT, reduceCtorEq, hsu]) rfl⟩
    · rw [if_pos (by simpa using h2)] at hsu
      exact ⟨k - 1, by omega, i + 1, by omega, weak_to [] hp hnp rfl (by simp (config := { maxSteps := 2000000 }) only [go_sem, ↓reduceIte, Int.reduceToNat, Nat.reduceMul, Int.reduceBEq, Int.reduceBNe, Nat.reduceBEq, Nat.reduceAdd, Nat.reduceSub, Nat.reduceLeDiff, Nat.reduceEqDiff, Nat.reduceLT, reduceCtorEq, hsu, Nat.add_zero]) rfl⟩
  · have e0 : decide ((i : Int) < (a.length : Int)) = false := decide_eq_false (by omega)
    obtain rfl : i = a.length := by omega
    have hma : x.length = apF a b a.length + 2 * m := hm
    have e1 : decide ((x.length : Int) ≥ ((apF a b a.length : Nat) : Int)) = true := decide_eq_true (by omega)
    have e2 : IntKind.i64.wrap ((x.length : Int) - ((apF a b a.length : Nat) : Int)) = ((2 * m : Nat) : Int) := by rw [w64 (by omega) (by omega)]; omega
    have e3 : (((2 * m : Nat) : Int).tmod 2 == 0) = true := by rw [beq_iff_eq, Int.tmod_eq_emod_of_nonneg (by omega)]; omega
    simp (config := { maxSteps := 2000000 }) only [go_sem, ↓reduceIte, Int.reduceToNat, Nat.reduceMul, Int.reduceBEq, Int.reduceBNe, Nat.reduceBEq, Nat.reduceAdd, Nat.reduceSub, Nat.reduceLeDiff, Nat.reduceEqDiff, Nat.reduceLT, reduceCtorEq, e0]
    (refine AWpL.calle (s9) rfl (by rw [hn]; rfl) (by simp (config := { maxSteps := 2000000 }) only [go_sem, ↓reduceIte, Int.reduceToNat, Nat.reduceMul, Int.reduceBEq, Int.reduceBNe, Nat.reduceBEq, Nat.reduceAdd, Nat.reduceSub, Nat.reduceLeDiff, Nat.reduceEqDiff, Nat.reduceLT, reduceCtorEq]) (AWpL.ofM hn rfl ?_); simp (config := { maxSteps := 2000000 }) only [go_sem, ↓reduceIte, Int.reduceToNat, Nat.reduceMul, Int.reduceBEq, Int.reduceBNe, Nat.reduceBEq, Nat.reduceAdd, Nat.reduceSub, Nat.reduceLeDiff, Nat.reduceEqDiff, Nat.reduceLT, reduceCtorEq])
    (refine AWpL.gcalle (b := true) rfl (fun _ => (s17 none false nb false b (by omega))) rfl (by rw [hn]; rfl) (fun _ => by simp (config := { maxSteps := 2000000 }) only [go_sem, ↓reduceIte, Int.reduceToNat, Nat.reduceMul, Int.reduceBEq, Int.reduceBNe, Nat.reduceBEq, Nat.reduceAdd, Nat.reduceSub, Nat.reduceLeDiff, Nat.reduceEqDiff, Nat.reduceLT, reduceCtorEq]) (AWpL.ofM hn rfl ?_); simp (config := { maxSteps := 2000000 }) only [go_sem, ↓reduceIte, Int.reduceToNat, Nat.reduceMul, Int.reduceBEq, Int.reduceBNe, Nat.reduceBEq, Nat.reduceAdd, Nat.reduceSub, Nat.reduceLeDiff, Nat.reduceEqDiff, Nat.reduceLT, reduceCtorEq])
    simp (config := { maxSteps := 2000000 }) only [go_sem, ↓reduceIte, Int.reduceToNat, Nat.reduceMul, Int.reduceBEq, Int.reduceBNe, Nat.reduceBEq, Nat.reduceAdd, Nat.reduceSub, Nat.reduceLeDiff, Nat.reduceEqDiff, Nat.reduceLT, reduceCtorEq, e1, e2, e3]
    omega
end Go.Proofs.Ytkbipopkemfhaaa
