/- Graphs: Check and Way. -/
import Derived.Test.YtmginfhlohenhaaAwZk
import Derived.Test.YtmginfhlohenhaaBlaA
import Derived.Test.YtmginfhlohenhaaGraC
import Derived.Test.YtmginfhlohenhaaGraF
set_option linter.unusedVariables false
set_option linter.unusedSimpArgs false
namespace Go.Proofs.Ytmginfhlohenhaa
open Go.Proofs.Ytmginfhlohenhaa.Aw
attribute [local go_sem] Int.natCast_zero Int.natCast_one bne_self_eq_false beq_self_eq_true Bool.not_true Bool.not_false Option.isSome_none Option.isSome_some Aw.bkM_nil Option.getD_some Option.getD_none Nat.sub_zero Int.toNat_zero Aw.frzS Aw.frzT Aw.frzA Aw.frzL Aw.frzR Aw.frzO Aw.frzOL Aw.frzOT Aw.frzOR Aw.killS Aw.mapT Aw.mapR Aw.killM Aw.resAVs Aw.resAV Aw.quietOps Aw.wpP Aw.wpT Aw.wpS Aw.AOp.mild List.getElem?_cons_zero List.getElem?_cons_succ Bool.and_false Bool.and_self Bool.false_and Aw.opOb Aw.gdB Aw.Rnd Aw.subTm List.length_map Int.toNat_natCast and_self Aw.SeqC Aw.stops Aw.Ends Aw.looks Aw.renA Aw.renL Aw.renT Aw.renS Aw.wpO Aw.aop Aw.putTm Aw.St.ev Aw.St.put Aw.St.putO Aw.binAV Aw.intBin Aw.strBin Aw.pickAV Aw.optInt Aw.AV.strip Aw.AV.guard Aw.AV.cells Aw.gdOb Aw.AOp.opds Aw.AOp.still Aw.ptrCells Aw.St.reg Aw.fillAV Aw.fillOb Aw.elsOb Aw.splice Aw.firm Aw.cellish Aw.AV.shut Aw.shutAll Aw.Seq Aw.Blk Aw.retS_nil Aw.mapA Aw.mapL Aw.borA Aw.borOb Aw.allOb Aw.tupOf Aw.params Aw.Opd.of Array.toList Value.cells List.map_cons List.map_nil List.getD_cons_zero List.getD_cons_succ List.getD_nil List.length_cons List.length_nil List.take_succ_cons List.take_zero List.take_nil List.drop_zero List.drop_succ_cons List.drop_nil List.set_cons_zero List.set_cons_succ List.append_nil List.nil_append List.cons_append List.all_cons List.all_nil cond_false cond_true if_true if_false true_and and_true Bool.and_true Bool.true_and Option.map_some Option.map_none false_implies forall_const implies_true forall_eq imp_self Bool.cond_false_right Bool.cond_true_left beq_true beq_false Bool.not_eq_true' Bool.false_eq_true Nat.zero_add Nat.add_zero Aw.eqCells Aw.stopDraw Aw.skipS Aw.exactCap Aw.revealS Aw.srcEls Aw.srcSz
attribute [local go_sem ↓] Aw.look_nil Aw.look_ite Aw.wpL_nil Aw.wpL_op Aw.wpL_gd Aw.wpQ_nil Aw.wpQ_op Aw.wpQ_gd Aw.wpC_draw Aw.wpC_reg Aw.wpC_skip Aw.wpC_ret Aw.wpC_exit Aw.wpC_seq Aw.wpC_block Aw.wpC_loop Aw.wpC_cond Aw.stopAt_nil Aw.stopAt_cons Aw.wpD_skip Aw.wpD_ret Aw.wpD_exit Aw.wpD_region Aw.wpD_draw Aw.wpM_nil Aw.wpM_op Aw.wpM_gd Aw.wpD_seq Aw.wpD_block Aw.wpD_loop Aw.wpD_cond
/- gridhall/graph.all -/
def a64 : ACode :=
  (.seq (.region false [] [
     ⟨(some 2), none, (.mov (.v (.bool false)))⟩])
  (.seq (.region false [] [
     ⟨(some 2), none, (.mov (.v (.bool true)))⟩])
  .ret))
theorem k64 : FnIs Try.prog 64 3 [.t 2] a64 := ⟨_, _, Try.func64, rfl, by kernel_rfl, by kernel_rfl, rfl⟩
/- gridhall/graph.Check -/
def a62 : ACode :=
  (.seq (.region false [] [
     ⟨(some 4), none, (.mov (.v (.int .i64 0)))⟩])
  (.seq (.seq (.region false [] [
     ⟨(some 7), none, (.mov (.t 0))⟩,
     ⟨(some 8), none, (.bin .lss 3 (.t 7) (.v (.int .i64 0)))⟩,
     ⟨(some 9), none, (.mov (.t 8))⟩,
     ⟨(some 10), (some (9, false)), (.mov (.t 0))⟩,
     ⟨(some 11), (some (9, false)), (.bin .gtr 3 (.t 10) (.v (.int .i64 24)))⟩,
     ⟨(some 12), none, (.pick (.t 9) (.v (.bool true)) (.t 11))⟩,
     ⟨(some 13), none, (.mov (.t 12))⟩,
     ⟨(some 14), (some (13, false)), (.mov (.t 1))⟩,
     ⟨(some 15), (some (13, false)), (.len (.t 14))⟩,
     ⟨(some 16), (some (13, false)), (.bin .gtr 3 (.t 15) (.v (.int .i64 64)))⟩,
     ⟨(some 17), none, (.pick (.t 13) (.v (.bool true)) (.t 16))⟩])
  (.cond (.t 17)
    (.seq (.region false [] [
       ⟨(some 4), none, (.mov (.v (.int .i64 2)))⟩])
    .ret)
    .skip))
  (.seq (.seq (.region false [] [
     ⟨(some 18), none, (.mov (.t 1))⟩,
     ⟨(some 19), none, (.len (.t 18))⟩,
     ⟨(some 20), none, (.mov (.v (.int .i64 0)))⟩])
  (.block 0 (.loop (.seq (.region false [] [
       ⟨(some 21), none, (.bin .lss 3 (.t 20) (.t 19))⟩])
    (.seq (.cond (.t 21)
      .skip
      (.exit 0))
    (.seq (.block 1 (.seq (.region false [] [
        ⟨(some 22), none, (.idx 2 (.t 18) (.t 20))⟩,
        ⟨(some 23), none, (.load 2 true (.t 22))⟩,
        ⟨(some 6), none, (.alloc 96 (.agg #[(.int .i64 0), (.int .i64 0)]))⟩,
        ⟨none, none, (.store 2 (.t 6) (.t 23))⟩])
     (.seq (.region false [] [
        ⟨(some 24), none, (.idxa 2 1 (.t 6) (.v (.int .i64 0)))⟩,
        ⟨(some 25), none, (.load 1 false (.t 24))⟩,
        ⟨(some 26), none, (.bin .lss 3 (.t 25) (.v (.int .i64 0)))⟩,
        ⟨(some 27), none, (.mov (.t 26))⟩,
        ⟨(some 28), (some (27, false)), (.idxa 2 1 (.t 6) (.v (.int .i64 0)))⟩,
        ⟨(some 29), (some (27, false)), (.load 1 false (.t 28))⟩,
        ⟨(some 30), (some (27, false)), (.mov (.t 0))⟩,
        ⟨(some 31), (some (27, false)), (.bin .geq 3 (.t 29) (.t 30))⟩,
        ⟨(some 32), none, (.pick (.t 27) (.v (.bool true)) (.t 31))⟩,
        ⟨(some 33), none, (.mov (.t 32))⟩,
        ⟨(some 34), (some (33, false)), (.idxa 2 1 (.t 6) (.v (.int .i64 1)))⟩,
        ⟨(some 35), (some (33, false)), (.load 1 false (.t 34))⟩,
        ⟨(some 36), (some (33, false)), (.bin .lss 3 (.t 35) (.v (.int .i64 0)))⟩,
        ⟨(some 37), none, (.pick (.t 33) (.v (.bool true)) (.t 36))⟩,
        ⟨(some 38), none, (.mov (.t 37))⟩,
        ⟨(some 39), (some (38, false)), (.idxa 2 1 (.t 6) (.v (.int .i64 1)))⟩,
        ⟨(some 40), (some (38, false)), (.load 1 false (.t 39))⟩,
        ⟨(some 41), (some (38, false)), (.mov (.t 0))⟩,
        ⟨(some 42), (some (38, false)), (.bin .geq 3 (.t 40) (.t 41))⟩,
        ⟨(some 43), none, (.pick (.t 38) (.v (.bool true)) (.t 42))⟩])
     (.cond (.t 43)
       (.seq (.region false [] [
          ⟨(some 4), none, (.mov (.v (.int .i64 4)))⟩])
       .ret)
       .skip))))
    (.region false [] [
       ⟨(some 44), none, (.bin .add 3 (.t 20) (.v (.int .i64 1)))⟩,
       ⟨(some 20), none, (.mov (.t 44))⟩])))))))
  (.seq (.region false [] [
     ⟨(some 4), none, (.mov (.v (.int .i64 0)))⟩])
  .ret))))
theorem k62 : FnIs Try.prog 62 45 [.t 4] a62 := ⟨_, _, Try.func62, rfl, by kernel_rfl, by kernel_rfl, rfl⟩
/- gridhall/graph.Way -/
def a63 : ACode :=
  (.seq (.region false [] [
     ⟨(some 10), none, (.mov (.v (.slice none 0 0)))⟩,
     ⟨(some 11), none, (.mov (.v (.bool false)))⟩])
  (.seq (.region false [] [
     ⟨(some 23), none, (.bsl 3 1 1 [(0, (.v (.int .i64 (-1))))])⟩,
     ⟨(some 24), none, (.mov (.t 0))⟩,
     ⟨(some 25), none, (.call 67 [(.t 23), (.t 24)])⟩,
     ⟨(some 12), none, (.mov (.t 25))⟩])
  (.seq (.region false [] [
     ⟨(some 26), none, (.mov (.t 12))⟩,
     ⟨(some 27), none, (.mov (.t 3))⟩,
     ⟨(some 28), none, (.idx 1 (.t 26) (.t 27))⟩,
     ⟨none, none, (.store 1 (.t 28) (.v (.int .i64 0)))⟩])
  (.seq (.seq (.region false [] [
     ⟨(some 13), none, (.mov (.v (.int .i64 0)))⟩])
  (.block 0 (.loop (.seq (.seq (.region false [] [
       ⟨(some 29), none, (.mov (.t 12))⟩,
       ⟨(some 30), none, (.mov (.t 2))⟩,
       ⟨(some 31), none, (.idx 1 (.t 29) (.t 30))⟩,
       ⟨(some 32), none, (.load 1 false (.t 31))⟩,
       ⟨(some 33), none, (.bin .lss 3 (.t 32) (.v (.int .i64 0)))⟩])
    (.cond (.t 33)
      .skip
      (.exit 0)))
    (.seq (.block 1 (.seq (.region false [] [
        ⟨(some 14), none, (.mov (.v (.bool false)))⟩])
     (.seq (.seq (.region false [] [
        ⟨(some 36), none, (.mov (.t 1))⟩,
        ⟨(some 37), none, (.len (.t 36))⟩,
        ⟨(some 38), none, (.mov (.v (.int .i64 0)))⟩])
     (.block 2 (.loop (.seq (.region false [] [
          ⟨(some 39), none, (.bin .lss 3 (.t 38) (.t 37))⟩])
       (.seq (.cond (.t 39)
         .skip
         (.exit 2))
       (.seq (.block 3 (.seq (.region false [] [
           ⟨(some 40), none, (.mov (.t 38))⟩,
           ⟨(some 41), none, (.idx 2 (.t 36) (.t 38))⟩,
           ⟨(some 42), none, (.load 2 true (.t 41))⟩,
           ⟨(some 16), none, (.alloc 96 (.agg #[(.int .i64 0), (.int .i64 0)]))⟩,
           ⟨(some 15), none, (.mov (.t 40))⟩,
           ⟨none, none, (.store 2 (.t 16) (.t 42))⟩])
        (.seq (.seq (.region false [] [
           ⟨(some 43), none, (.mov (.t 4))⟩,
           ⟨(some 44), none, (.mov (.t 15))⟩,
           ⟨(some 45), none, (.callv (.t 43) [(.t 44)])⟩,
           ⟨(some 46), none, (.un .not (.t 45))⟩])
        (.cond (.t 46)
          (.exit 3)
          .skip))
        (.seq (.region false [] [
           ⟨(some 47), none, (.load 2 true (.t 16))⟩,
           ⟨(some 48), none, (.idxa 2 1 (.t 16) (.v (.int .i64 1)))⟩,
           ⟨(some 49), none, (.load 1 false (.t 48))⟩,
           ⟨(some 50), none, (.idxa 2 1 (.t 16) (.v (.int .i64 0)))⟩,
           ⟨(some 51), none, (.load 1 false (.t 50))⟩,
           ⟨(some 52), none, (.build (.agg #[(.int .i64 0), (.int .i64 0)]) [(0, (1, (.t 49))), (1, (1, (.t 51)))])⟩,
           ⟨(some 53), none, (.build (.agg #[(.int .i64 0), (.int .i64 0), (.int .i64 0), (.int .i64 0)]) [(0, (2, (.t 47))), (2, (2, (.t 52)))])⟩,
           ⟨(some 54), none, (.mov (.v (.int .i64 0)))⟩])
        (.block 4 (.loop (.seq (.region false [] [
             ⟨(some 55), none, (.bin .lss 3 (.t 54) (.v (.int .i64 2)))⟩])
          (.seq (.cond (.t 55)
            .skip
            (.exit 4))
          (.seq (.block 5 (.seq (.region false [] [
              ⟨(some 56), none, (.idxv 2 2 true (.t 53) (.t 54))⟩,
              ⟨(some 18), none, (.alloc 96 (.agg #[(.int .i64 0), (.int .i64 0)]))⟩,
              ⟨none, none, (.store 2 (.t 18) (.t 56))⟩])
           (.seq (.region false [] [
              ⟨(some 57), none, (.mov (.t 12))⟩,
              ⟨(some 58), none, (.idxa 2 1 (.t 18) (.v (.int .i64 0)))⟩,
              ⟨(some 59), none, (.load 1 false (.t 58))⟩,
              ⟨(some 60), none, (.idx 1 (.t 57) (.t 59))⟩,
              ⟨(some 61), none, (.load 1 false (.t 60))⟩,
              ⟨(some 62), none, (.mov (.t 13))⟩,
              ⟨(some 63), none, (.bin .eql 3 (.t 61) (.t 62))⟩,
              ⟨(some 64), none, (.mov (.t 63))⟩,
              ⟨(some 65), (some (64, true)), (.mov (.t 12))⟩,
              ⟨(some 66), (some (64, true)), (.idxa 2 1 (.t 18) (.v (.int .i64 1)))⟩,
              ⟨(some 67), (some (64, true)), (.load 1 false (.t 66))⟩,
              ⟨(some 68), (some (64, true)), (.idx 1 (.t 65) (.t 67))⟩,
              ⟨(some 69), (some (64, true)), (.load 1 false (.t 68))⟩,
              ⟨(some 70), (some (64, true)), (.bin .lss 3 (.t 69) (.v (.int .i64 0)))⟩,
              ⟨(some 71), none, (.pick (.t 64) (.t 70) (.v (.bool false)))⟩])
           (.cond (.t 71)
             (.region false [] [
                ⟨(some 72), none, (.mov (.t 12))⟩,
                ⟨(some 73), none, (.idxa 2 1 (.t 18) (.v (.int .i64 1)))⟩,
                ⟨(some 74), none, (.load 1 false (.t 73))⟩,
                ⟨(some 75), none, (.mov (.t 13))⟩,
                ⟨(some 76), none, (.bin .add 3 (.t 75) (.v (.int .i64 1)))⟩,
                ⟨(some 77), none, (.idx 1 (.t 72) (.t 74))⟩,
                ⟨none, none, (.store 1 (.t 77) (.t 76))⟩,
                ⟨(some 14), none, (.mov (.v (.bool true)))⟩])
             .skip))))
          (.region false [] [
             ⟨(some 78), none, (.bin .add 3 (.t 54) (.v (.int .i64 1)))⟩,
             ⟨(some 54), none, (.mov (.t 78))⟩]))))))))))
       (.region false [] [
          ⟨(some 79), none, (.bin .add 3 (.t 38) (.v (.int .i64 1)))⟩,
          ⟨(some 38), none, (.mov (.t 79))⟩])))))))
     (.seq (.region false [] [
        ⟨(some 80), none, (.mov (.t 14))⟩,
        ⟨(some 81), none, (.un .not (.t 80))⟩,
        ⟨(some 82), none, (.mov (.t 81))⟩,
        ⟨(some 83), (some (82, true)), (.mov (.t 12))⟩,
        ⟨(some 84), (some (82, true)), (.mov (.t 2))⟩,
        ⟨(some 85), (some (82, true)), (.idx 1 (.t 83) (.t 84))⟩,
        ⟨(some 86), (some (82, true)), (.load 1 false (.t 85))⟩,
        ⟨(some 87), (some (82, true)), (.bin .lss 3 (.t 86) (.v (.int .i64 0)))⟩,
        ⟨(some 88), none, (.pick (.t 82) (.t 87) (.v (.bool false)))⟩])
     (.cond (.t 88)
       (.seq (.region false [] [
          ⟨(some 10), none, (.mov (.v (.slice none 0 0)))⟩,
          ⟨(some 11), none, (.mov (.v (.bool false)))⟩])
       .ret)
       .skip)))))
    (.region false [] [
       ⟨(some 34), none, (.mov (.t 13))⟩,
       ⟨(some 35), none, (.bin .add 3 (.t 34) (.v (.int .i64 1)))⟩,
       ⟨(some 13), none, (.mov (.t 35))⟩]))))))
  (.seq (.region false [] [
     ⟨(some 19), none, (.mov (.v (.slice none 0 0)))⟩])
  (.seq (.block 6 (.loop (.seq (.seq (.region false [] [
       ⟨(some 89), none, (.mov (.t 2))⟩,
       ⟨(some 90), none, (.mov (.t 3))⟩,
       ⟨(some 91), none, (.bin .neq 3 (.t 89) (.t 90))⟩])
    (.cond (.t 91)
      .skip
      (.exit 6)))
    (.block 7 (.seq (.region false [] [
        ⟨(some 92), none, (.mov (.t 1))⟩,
        ⟨(some 93), none, (.len (.t 92))⟩,
        ⟨(some 94), none, (.mov (.v (.int .i64 0)))⟩])
     (.block 8 (.loop (.seq (.region false [] [
          ⟨(some 95), none, (.bin .lss 3 (.t 94) (.t 93))⟩])
       (.seq (.cond (.t 95)
         .skip
         (.exit 8))
       (.seq (.block 9 (.seq (.region false [] [
           ⟨(some 96), none, (.mov (.t 94))⟩,
           ⟨(some 97), none, (.idx 2 (.t 92) (.t 94))⟩,
           ⟨(some 98), none, (.load 2 true (.t 97))⟩,
           ⟨(some 21), none, (.alloc 96 (.agg #[(.int .i64 0), (.int .i64 0)]))⟩,
           ⟨(some 20), none, (.mov (.t 96))⟩,
           ⟨none, none, (.store 2 (.t 21) (.t 98))⟩])
        (.seq (.region false [] [
           ⟨(some 99), none, (.idxa 2 1 (.t 21) (.v (.int .i64 0)))⟩,
           ⟨(some 100), none, (.load 1 false (.t 99))⟩,
           ⟨(some 101), none, (.idxa 2 1 (.t 21) (.v (.int .i64 1)))⟩,
           ⟨(some 102), none, (.load 1 false (.t 101))⟩,
           ⟨(some 103), none, (.bin .add 3 (.t 100) (.t 102))⟩,
           ⟨(some 104), none, (.mov (.t 2))⟩,
           ⟨(some 105), none, (.bin .sub 3 (.t 103) (.t 104))⟩,
           ⟨(some 22), none, (.mov (.t 105))⟩])
        (.seq (.region true [[], [], [0, 1], [2, 2], [3], [4, 3], [3], [5, 6, 3], [7, 3, 3], [8], [9, 8], [8], [10, 11, 8], [8, 12, 3], [3, 13], [14, 8], [15], [15], [16, 17, 15], [18, 15], [15], [15], [20, 21, 15], [22, 15], [23, 15], [19, 24, 15], [15, 25]] [
           ⟨(some 106), none, (.mov (.t 4))⟩,
           ⟨(some 107), none, (.mov (.t 20))⟩,
           ⟨(some 108), none, (.callv (.t 106) [(.t 107)])⟩,
           ⟨(some 109), none, (.mov (.t 108))⟩,
           ⟨(some 110), (some (109, true)), (.idxa 2 1 (.t 21) (.v (.int .i64 0)))⟩,
           ⟨(some 111), (some (109, true)), (.load 1 false (.t 110))⟩,
           ⟨(some 112), (some (109, true)), (.mov (.t 2))⟩,
           ⟨(some 113), (some (109, true)), (.bin .eql 3 (.t 111) (.t 112))⟩,
           ⟨(some 114), (some (109, true)), (.mov (.t 113))⟩,
           ⟨(some 115), (some (114, false)), (.idxa 2 1 (.t 21) (.v (.int .i64 1)))⟩,
           ⟨(some 116), (some (114, false)), (.load 1 false (.t 115))⟩,
           ⟨(some 117), (some (114, false)), (.mov (.t 2))⟩,
           ⟨(some 118), (some (114, false)), (.bin .eql 3 (.t 116) (.t 117))⟩,
           ⟨(some 119), (some (109, true)), (.pick (.t 114) (.v (.bool true)) (.t 118))⟩,
           ⟨(some 120), none, (.pick (.t 109) (.t 119) (.v (.bool false)))⟩,
           ⟨(some 121), none, (.mov (.t 120))⟩,
           ⟨(some 122), (some (121, true)), (.mov (.t 12))⟩,
           ⟨(some 123), (some (121, true)), (.mov (.t 22))⟩,
           ⟨(some 124), (some (121, true)), (.idx 1 (.t 122) (.t 123))⟩,
           ⟨(some 125), (some (121, true)), (.load 1 false (.t 124))⟩,
           ⟨(some 126), (some (121, true)), (.mov (.t 12))⟩,
           ⟨(some 127), (some (121, true)), (.mov (.t 2))⟩,
           ⟨(some 128), (some (121, true)), (.idx 1 (.t 126) (.t 127))⟩,
           ⟨(some 129), (some (121, true)), (.load 1 false (.t 128))⟩,
           ⟨(some 130), (some (121, true)), (.bin .sub 3 (.t 129) (.v (.int .i64 1)))⟩,
           ⟨(some 131), (some (121, true)), (.bin .eql 3 (.t 125) (.t 130))⟩,
           ⟨(some 132), none, (.pick (.t 121) (.t 131) (.v (.bool false)))⟩])
        (.cond (.t 132)
          (.seq (.region false [] [
             ⟨(some 133), none, (.mov (.t 19))⟩,
             ⟨(some 134), none, (.mov (.t 20))⟩,
             ⟨(some 135), none, (.bsl 3 1 1 [(0, (.t 134))])⟩,
             ⟨(some 136), none, (.app 3 1 8 (.int .i64 0) (.t 133) (.t 135))⟩,
             ⟨(some 19), none, (.mov (.t 136))⟩])
          (.seq (.region false [] [
             ⟨(some 137), none, (.mov (.t 22))⟩,
             ⟨(some 2), none, (.mov (.t 137))⟩])
          (.exit 8)))
          .skip)))))
       (.region false [] [
          ⟨(some 138), none, (.bin .add 3 (.t 94) (.v (.int .i64 1)))⟩,
          ⟨(some 94), none, (.mov (.t 138))⟩])))))))))))
  (.seq (.region false [] [
     ⟨(some 139), none, (.mov (.t 19))⟩,
     ⟨(some 10), none, (.mov (.t 139))⟩,
     ⟨(some 11), none, (.mov (.v (.bool true)))⟩])
  .ret)))))))
theorem k63 : FnIs Try.prog 63 140 [.t 10, .t 11] a63 := ⟨_, _, Try.func63, rfl, by kernel_rfl, by kernel_rfl, rfl⟩

theorem s64 (i : Int) : Aw.Spec Try.prog 64 [] [I i] (Gives (· = B true)) := by
  refine Aw.Spec.givesD k64 mixed rfl rfl rfl fun E hn hnp hp => ?_
  unfold a64
  simp (config := { maxSteps := 2000000 }) only [go_sem, ↓reduceIte, Int.reduceToNat, Nat.reduceMul, Int.reduceBEq, Int.reduceBNe, Nat.reduceBEq, Nat.reduceAdd, Nat.reduceSub, Nat.reduceLeDiff, Nat.reduceEqDiff, Nat.reduceLT, reduceCtorEq]
abbrev egs (nl : Option Bool) (fl : Bool) (l : List (Nat × Nat)) : AV := .imm nl fl 2 (l.map pc2)
theorem getE {l : List (Nat × Nat)} {i : Nat} (h : i < l.length) : (l.map pc2).getD i [] = pc2 (edg l i) := getD_mapD (0, 0) pc2 h
theorem getL {far : List Int} {v : Nat} (h : v < far.length) : (far.map ic).getD v [] = ic (lab far v) := getD_mapD 0 ic h
set_option maxRecDepth 20000 in
theorem s62 (N : Nat) (nl fl) (l : List (Nat × Nat)) (hN : N ≤ 24) (hl : EdgesIn N l) (hll : l.length ≤ 64) : Aw.Spec Try.prog 62 [] [I N, egs nl fl l] (Gives (· = I 0)) := by
  refine Aw.Spec.givesD k62 mixed rfl rfl rfl fun E hn hnp hp => ?_
  unfold a62
  have e1 : decide ((N : Int) < 0) = false := decide_eq_false (by omega)
  have e2 : decide ((N : Int) > 24) = false := decide_eq_false (by omega)
  have e3 : decide ((l.length : Int) > 64) = false := decide_eq_false (by omega)
  simp (config := { maxSteps := 2000000 }) only [go_sem, ↓reduceIte, Int.reduceToNat, Nat.reduceMul, Int.reduceBEq, Int.reduceBNe, Nat.reduceBEq, Nat.reduceAdd, Nat.reduceSub, Nat.reduceLeDiff, Nat.reduceEqDiff, Nat.reduceLT, reduceCtorEq, e1, e2, e3]
  refine AWp.loop (fun k s => ∃ i : Nat, i + k = l.length ∧ Weak E s ⟨[(0, I N), (1, egs nl fl l), (18, egs nl fl l), (19, I l.length), (20, I i)], []⟩) (n := l.length)
    ⟨0, by omega, weak_to [] hp hnp rfl (by simp (config := { maxSteps := 2000000 }) only [go_sem, ↓reduceIte, Int.reduceToNat, Nat.reduceMul, Int.reduceBEq, Int.reduceBNe, Nat.reduceBEq, Nat.reduceAdd, Nat.reduceSub, Nat.reduceLeDiff, Nat.reduceEqDiff, Nat.reduceLT, reduceCtorEq, Int.natCast_zero]) rfl⟩ ?_
  rintro k s ⟨i, hik, hw⟩
  refine AWp.weak hw (AWp.ofD [] [] hn mixed rfl ?_)
  rcases Nat.lt_or_ge i l.length with hlt | hge
  · have e0 : decide ((i : Int) < (l.length : Int)) = true := decide_eq_true (by omega)
    have e4 := getE hlt
    have e5 : IntKind.i64.wrap ((i : Int) + 1) = ((i + 1 : Nat) : Int) := by rw [w64 (by omega) (by omega)]; omega
    have hb : (edg l i).1 < N ∧ (edg l i).2 < N := hl i hlt
    generalize edg l i = x at *
    have f1 : decide ((x.1 : Int) < 0) = false := decide_eq_false (by omega)
    have f2 : decide ((x.1 : Int) ≥ (N : Int)) = false := decide_eq_false (by omega)
    have f3 : decide ((x.2 : Int) < 0) = false := decide_eq_false (by omega)
    have f4 : decide ((x.2 : Int) ≥ (N : Int)) = false := decide_eq_false (by omega)
    simp (config := { maxSteps := 2000000 }) only [go_sem, ↓reduceIte, Int.reduceToNat, Nat.reduceMul, Int.reduceBEq, Int.reduceBNe, Nat.reduceBEq, Nat.reduceAdd, Nat.reduceSub, Nat.reduceLeDiff, Nat.reduceEqDiff, Nat.reduceLT, reduceCtorEq, e0, e4, e5, f1, f2, f3, f4]
    (repeat (refine And.intro (by first | omega | (refine ⟨by omega, by omega⟩) | (refine ⟨by omega, by omega, by omega⟩) | (simp only [List.length_map, List.length_range, List.length_append, List.length_cons, List.length_nil, List.length_replicate, List.length_set]; omega) | (simp; omega) | (intro hgd; cases hgd) | (intro hgd; refine ⟨hgd, ?_⟩; first | omega | (refine ⟨by omega, by omega⟩) | (simp; omega))) ?_))
    exact ⟨k - 1, by omega, i + 1, by omega, weak_to [] hp hnp rfl (by simp (config := { maxSteps := 2000000 }) only [go_sem, ↓reduceIte, Int.reduceToNat, Nat.reduceMul, Int.reduceBEq, Int.reduceBNe, Nat.reduceBEq, Nat.reduceAdd, Nat.reduceSub, Nat.reduceLeDiff, Nat.reduceEqDiff, Nat.reduceLT, reduceCtorEq]) rfl⟩
  · have e0 : decide ((i : Int) < (l.length : Int)) = false := decide_eq_false (by omega)
    simp (config := { maxSteps := 2000000 }) only [go_sem, ↓reduceIte, Int.reduceToNat, Nat.reduceMul, Int.reduceBEq, Int.reduceBNe, Nat.reduceBEq, Nat.reduceAdd, Nat.reduceSub, Nat.reduceLeDiff, Nat.reduceEqDiff, Nat.reduceLT, reduceCtorEq, e0]
theorem lab_up {N : Nat} {l : List (Nat × Nat)} {to : Nat} {d : Int} {far : List Int} (h : LabI N l to d far) {v : Nat} (hv : v < N) : -1 ≤ lab far v ∧ lab far v ≤ d := by
  have := h.rng v hv
  have := h.d0
  omega
theorem pass_rng {N : Nat} {l : List (Nat × Nat)} {to : Nat} {d : Int} {far0 : List Int} {st : List Int × Bool} (h0 : LabI N l to d far0) (h : PassI N l d far0 st) {v : Nat} (hv : v < N) : -1 ≤ lab st.1 v ∧ lab st.1 v ≤ d + 1 := by
  have h1 := lab_up h0 hv
  have := h0.d0
  by_cases h2 : lab far0 v = -1
  · rcases h.new v hv h2 with h3 | ⟨h3, _⟩ <;> omega
  · rw [h.keep v hv h2]; omega
theorem AWpQ_callv {P : Program} {E : Env} {Q : Exit → St → Prop} {s : St} {g : Opd} {f : FuncId} {xs : List Opd} {dst : Option Nat} {gs : List GOp} {y : Value} (hg : s.ev g = .fn f []) (hf : fnOk P f = true) (hs : Aw.Spec P f [] (xs.map fun x => borA 4 s (s.ev x)) (Gives (· = .val y)))
    (hd : dstOk E.n dst = true) (hb : allOb (borOb 4 s) (xs.map s.ev)) (h : AWpQ P E Q gs (s.putO dst (.val y))) : AWpQ P E Q (⟨dst, none, .callv g xs⟩ :: gs) s := fun ops l hl a w hrel => by
  obtain ⟨o, l', rfl, h1, h2⟩ := gops_cons hl
  obtain ⟨ρ, ok, hr⟩ := hrel
  obtain ⟨hc, hdst, hgd⟩ := gop_guard h1
  rcases hgd with ⟨hg0, _⟩ | ⟨_, _, _, _, _, hgd⟩
  case inr => cases hgd
  unfold wpQuiet
  rw [if_pos (wanted_none hg0 _)]
  have hfv := hr.ev g
  rw [hg] at hfv
  unfold R at hfv
  obtain ⟨vs, hv1, hv2⟩ := hfv
  unfold RList at hv2
  obtain rfl : vs = #[] := Array.toList_inj.1 hv2
  refine ⟨y, fun w' he => ?_, ?_⟩
  · obtain ⟨vals, hv, hrun⟩ := callv_inv (a := a) (w := w') hc hv1 hf
    unfold Oper.quietAt
    rw [hrun]
    refine ⟨rfl, ?_⟩
    have hr' := hr.ext he
    refine (hs w' (fun _ => none) (fun b => b < w'.heap.size) _ (Mem.none fun _ h => h) (RList_of_Rc _ _ (by rw [Array.toList_append, hv, List.append_nil]; exact args_bor hr' xs fun x hx => allOb_mem hb _ (List.mem_map.2 ⟨x, hx, rfl⟩)))).mono ?_
    rintro e w'' ⟨rg, x, v, ρ', ok', rfl, hx0, hm, hx, h3, h4, h5, h6⟩
    obtain ⟨_, rfl⟩ := hx0
    refine ⟨by rw [R_val hx], he.trans ⟨h5.os, h5.tape, h5.output, h5.size, fun k hk => h5.block k hk fun ⟨r0, p0, h7, _⟩ => by cases h7⟩⟩
  · exact h ops l' h2 _ _ ⟨ρ, ok, by rw [← hdst]; exact hr.putO hd (R_val_mk y)⟩
theorem relax1_t {d : Int} {st : List Int × Bool} {a b : Nat} (h : (lab st.1 a == d && decide (lab st.1 b < 0)) = true) : relax1 d st (a, b) = (st.1.set b (d + 1), true) := by
  rw [Bool.and_eq_true, beq_iff_eq, decide_eq_true_eq] at h
  exact if_pos h
theorem relax1_f {d : Int} {st : List Int × Bool} {a b : Nat} (h : (lab st.1 a == d && decide (lab st.1 b < 0)) = false) : relax1 d st (a, b) = st := by
  refine if_neg fun h2 => ?_
  rw [beq_iff_eq.2 h2.1, decide_eq_true h2.2] at h
  cases h
set_option maxRecDepth 20000 in
set_option maxHeartbeats 4000000 in
theorem s63 (N : Nat) (nl fl) (l : List (Nat × Nat)) (v to : Nat) (hN : N ≤ 24) (hl : EdgesIn N l) (hll : l.length ≤ 64) (hv : v < N) (hto : to < N) :
    Aw.Spec Try.prog 63 [] [I N, egs nl fl l, I v, I to, .fn 64 []] (fun rg x => rg = [] ∧ x = .tup [.imm none false 1 (((wayF N l v to).getD []).map fun i : Nat => ic i), B (wayF N l v to).isSome]) := by
  refine Aw.Spec.regsW k63 rfl rfl fun E hn hnp hp => ?_
  unfold a63
  have pin : ∀ r, E.pin r = none := fun r => hp.none hnp (Nat.zero_le _)
  refine AWp.ofD [] [] hn mixed rfl ?_
  simp (config := { maxSteps := 2000000 }) only [go_sem, ↓reduceIte, Int.reduceToNat, Nat.reduceMul, Int.reduceBEq, Int.reduceBNe, Nat.reduceBEq, Nat.reduceAdd, Nat.reduceSub, Nat.reduceLeDiff, Nat.reduceEqDiff, Nat.reduceLT, reduceCtorEq]
  refine AWpL.weak (weak_freeze 0 rfl (pin 0) (by simp (config := { maxSteps := 2000000 }) only [go_sem, ↓reduceIte, Int.reduceToNat, Nat.reduceMul, Int.reduceBEq, Int.reduceBNe, Nat.reduceBEq, Nat.reduceAdd, Nat.reduceSub, Nat.reduceLeDiff, Nat.reduceEqDiff, Nat.reduceLT, reduceCtorEq, Nat.le_refl])) (AWpL.ofM hn rfl ?_)
  simp (config := { maxSteps := 2000000 }) only [go_sem, ↓reduceIte, Int.reduceToNat, Nat.reduceMul, Int.reduceBEq, Int.reduceBNe, Nat.reduceBEq, Nat.reduceAdd, Nat.reduceSub, Nat.reduceLeDiff, Nat.reduceEqDiff, Nat.reduceLT, reduceCtorEq]
  refine AWpL.callA [] (s67 none true N hN) rfl rfl (by rw [hn]; rfl) rfl (fun r hr => by cases hr) fun rg v hv => ?_
  obtain ⟨rfl, rfl⟩ := hv
  refine ⟨Nat.zero_le _, ?_⟩
  rw [retS_new]
  refine AWpL.ofM hn rfl ?_
  have hst : (List.replicate N [I (-1)]).set to [I 0] = (startW N to).map ic := by
    unfold startW
    rw [List.map_set, List.map_replicate]
  have e0 : (List.replicate N [I (-1)]).getD to [] = [I (-1)] := by rw [List.getD_eq_getElem?_getD, List.getElem?_replicate, if_pos hto]; rfl
  simp (config := { maxSteps := 2000000 }) only [go_sem, ↓reduceIte, Int.reduceToNat, Nat.reduceMul, Int.reduceBEq, Int.reduceBNe, Nat.reduceBEq, Nat.reduceAdd, Nat.reduceSub, Nat.reduceLeDiff, Nat.reduceEqDiff, Nat.reduceLT, reduceCtorEq, hst, e0]
  (repeat (refine And.intro (by first | omega | (refine ⟨by omega, by omega⟩) | (refine ⟨by omega, by omega, by omega⟩) | (simp only [List.length_map, List.length_range, List.length_append, List.length_cons, List.length_nil, List.length_replicate, List.length_set]; omega) | (simp; omega) | (intro hgd; cases hgd) | (intro hgd; refine ⟨hgd, ?_⟩; first | omega | (refine ⟨by omega, by omega⟩) | (simp; omega))) ?_))
  have hwf : wayF N l v to = (growW l v (N + 1) 0 (startW N to)).map fun far => pathW l far to (N + 1) v := rfl
  have hn0 : negs (startW N to) < N + 1 := Nat.lt_succ_of_le (Nat.le_trans List.countP_le_length (by unfold startW; simp))
  generalize hG : growW l v (N + 1) 0 (startW N to) = G at hwf
  refine AWp.loop (fun f s => ∃ (d : Nat) (far : List Int), d + f ≤ N + 1 ∧ LabI N l to d far ∧ negs far < f ∧ growW l v f d far = G ∧ Weak E s ⟨[(1, egs nl fl l), (2, I v), (3, I to), (4, .fn 64 []), (12, .hnd 0 0 N N true), (13, I d)], [.arr 3 1 (far.map ic)]⟩) (n := N + 1)
    ⟨0, startW N to, by omega, start_lab hto, hn0, hG, weak_to [1] hp hnp rfl (by simp (config := { maxSteps := 2000000 }) only [go_sem, ↓reduceIte, Int.reduceToNat, Nat.reduceMul, Int.reduceBEq, Int.reduceBNe, Nat.reduceBEq, Nat.reduceAdd, Nat.reduceSub, Nat.reduceLeDiff, Nat.reduceEqDiff, Nat.reduceLT, reduceCtorEq, Int.natCast_zero, Aw.pos]) (by simp (config := { maxSteps := 2000000 }) only [go_sem, ↓reduceIte, Int.reduceToNat, Nat.reduceMul, Int.reduceBEq, Int.reduceBNe, Nat.reduceBEq, Nat.reduceAdd, Nat.reduceSub, Nat.reduceLeDiff, Nat.reduceEqDiff, Nat.reduceLT, reduceCtorEq, Aw.renR, Aw.pos])⟩ ?_
  rintro f s ⟨d, far, hdf, hL, hng, hGr, hw⟩
  refine AWp.weak hw (AWp.ofD [] [] hn mixed rfl ?_)
  have hlen := hL.len
  have ev := getL (far := far) (v := v) (by omega)
  obtain ⟨f, rfl⟩ : ∃ g, f = g + 1 := ⟨f - 1, by omega⟩
  unfold growW at hGr
  simp (config := { maxSteps := 2000000 }) only [go_sem, ↓reduceIte, Int.reduceToNat, Nat.reduceMul, Int.reduceBEq, Int.reduceBNe, Nat.reduceBEq, Nat.reduceAdd, Nat.reduceSub, Nat.reduceLeDiff, Nat.reduceEqDiff, Nat.reduceLT, reduceCtorEq, ev]
  refine ⟨by omega, by omega, fun hlt => ?_, fun hge => ?_⟩
  · have hlt := of_decide_eq_true hlt
    rw [if_neg (by omega)] at hGr
    have hp0 : passW l d far 0 = (far, false) := rfl
    refine AWp.loop (fun k s => ∃ i : Nat, i + k = l.length ∧ Weak E s ⟨[(1, egs nl fl l), (2, I v), (3, I to), (4, .fn 64 []), (12, .hnd 0 0 N N true), (13, I d), (14, B (passW l d far i).2), (36, egs nl fl l), (37, I l.length), (38, I i)], [.arr 3 1 ((passW l d far i).1.map ic)]⟩) (n := l.length)
      ⟨0, by omega, weak_to [0] hp hnp rfl (by simp (config := { maxSteps := 2000000 }) only [go_sem, ↓reduceIte, Int.reduceToNat, Nat.reduceMul, Int.reduceBEq, Int.reduceBNe, Nat.reduceBEq, Nat.reduceAdd, Nat.reduceSub, Nat.reduceLeDiff, Nat.reduceEqDiff, Nat.reduceLT, reduceCtorEq, Int.natCast_zero, Aw.pos, hp0]) (by simp (config := { maxSteps := 2000000 }) only [go_sem, ↓reduceIte, Int.reduceToNat, Nat.reduceMul, Int.reduceBEq, Int.reduceBNe, Nat.reduceBEq, Nat.reduceAdd, Nat.reduceSub, Nat.reduceLeDiff, Nat.reduceEqDiff, Nat.reduceLT, reduceCtorEq, Aw.renR, Aw.pos, hp0])⟩ ?_
    rintro k0 s ⟨i, hik, hw⟩
    refine AWp.weak hw (AWp.ofD [] [] hn mixed rfl ?_)
    obtain ⟨hP, _⟩ := passW_ok hl hL i (by omega)
    have hsucc := passW_succ l d far i
    generalize hst' : passW l d far i = st at *
    rcases Nat.lt_or_ge i l.length with hil | hil
    · have e1 : decide ((i : Int) < (l.length : Int)) = true := decide_eq_true (by omega)
      have e2 := getE hil
      simp (config := { maxSteps := 2000000 }) only [go_sem, ↓reduceIte, Int.reduceToNat, Nat.reduceMul, Int.reduceBEq, Int.reduceBNe, Nat.reduceBEq, Nat.reduceAdd, Nat.reduceSub, Nat.reduceLeDiff, Nat.reduceEqDiff, Nat.reduceLT, reduceCtorEq, e1, e2]
      (repeat (refine And.intro (by first | omega | (refine ⟨by omega, by omega⟩) | (refine ⟨by omega, by omega, by omega⟩) | (simp only [List.length_map, List.length_range, List.length_append, List.length_cons, List.length_nil, List.length_replicate, List.length_set]; omega) | (simp; omega) | (intro hgd; cases hgd) | (intro hgd; refine ⟨hgd, ?_⟩; first | omega | (refine ⟨by omega, by omega⟩) | (simp; omega))) ?_))
      refine AWpL.callv rfl (by kernel_rfl) (s64 i) (by rw [hn]; rfl) fun rg v hv => ?_
      obtain ⟨rfl, rfl⟩ := hv
      rw [retS_nil]
      refine AWpL.ofM hn rfl ?_
      simp (config := { maxSteps := 2000000 }) only [go_sem, ↓reduceIte, Int.reduceToNat, Nat.reduceMul, Int.reduceBEq, Int.reduceBNe, Nat.reduceBEq, Nat.reduceAdd, Nat.reduceSub, Nat.reduceLeDiff, Nat.reduceEqDiff, Nat.reduceLT, reduceCtorEq]
      have hab : (edg l i).1 < N ∧ (edg l i).2 < N := hl i hil
      have hlen1 := hP.len
      refine ⟨by omega, by omega, ?_⟩
      refine AWp.loop (fun k s => ∃ (j : Int) (st' : List Int × Bool), (j = 0 ∧ st' = st ∧ k = 2 ∨ j = 1 ∧ st' = relax1 d st (edg l i) ∧ k = 1 ∨ j = 2 ∧ st' = relax d st (edg l i) ∧ k = 0) ∧ Weak E s ⟨[(1, egs nl fl l), (2, I v), (3, I to), (4, .fn 64 []), (12, .hnd 0 0 N N true), (13, I d), (14, B st'.2), (15, I i), (36, egs nl fl l), (37, I l.length), (38, I i), (53, .agg [I (edg l i).1, I (edg l i).2, I (edg l i).2, I (edg l i).1]), (54, I j)], [.arr 3 1 (st'.1.map ic)]⟩) (n := 2)
        ⟨0, st, .inl ⟨rfl, rfl, rfl⟩, weak_to [0] hp hnp rfl (by simp (config := { maxSteps := 2000000 }) only [go_sem, ↓reduceIte, Int.reduceToNat, Nat.reduceMul, Int.reduceBEq, Int.reduceBNe, Nat.reduceBEq, Nat.reduceAdd, Nat.reduceSub, Nat.reduceLeDiff, Nat.reduceEqDiff, Nat.reduceLT, reduceCtorEq, Aw.pos]) (by simp (config := { maxSteps := 2000000 }) only [go_sem, ↓reduceIte, Int.reduceToNat, Nat.reduceMul, Int.reduceBEq, Int.reduceBNe, Nat.reduceBEq, Nat.reduceAdd, Nat.reduceSub, Nat.reduceLeDiff, Nat.reduceEqDiff, Nat.reduceLT, reduceCtorEq, Aw.renR, Aw.pos])⟩ ?_
      obtain ⟨hP1, _⟩ := relax1_ok (k := i) hL hP hab.1 hab.2 hil (.inl rfl)
      have hlen2 := hP1.len
      rintro k s ⟨j, st', hj, hw⟩
      refine AWp.weak hw (AWp.ofD [] [] hn mixed rfl ?_)
      rcases hj with ⟨rfl, rfl, rfl⟩ | ⟨rfl, rfl, rfl⟩ | ⟨rfl, rfl, rfl⟩
      · have e3 := getL (far := st'.1) (v := (edg l i).1) (by omega)
        have e4 := getL (far := st'.1) (v := (edg l i).2) (by omega)
        have e5 : IntKind.i64.wrap ((d : Int) + 1) = (d : Int) + 1 := w64 (by omega) (by omega)
        have g0 : decide ((0 : Int) < 2) = true := rfl
        have g1 : IntKind.i64.wrap ((0 : Int) + 1) = 1 := rfl
        have hm : (st'.1.map ic).set (edg l i).2 [I ((d : Int) + 1)] = (st'.1.set (edg l i).2 (d + 1)).map ic := List.map_set.symm
        have hT := relax1_t (d := d) (st := st') (a := (edg l i).1) (b := (edg l i).2)
        have hF := relax1_f (d := d) (st := st') (a := (edg l i).1) (b := (edg l i).2)
        simp (config := { maxSteps := 2000000 }) only [go_sem, ↓reduceIte, Int.reduceToNat, Nat.reduceMul, Int.reduceBEq, Int.reduceBNe, Nat.reduceBEq, Nat.reduceAdd, Nat.reduceSub, Nat.reduceLeDiff, Nat.reduceEqDiff, Nat.reduceLT, reduceCtorEq, e3, e4, e5, g0, g1, hm]
        refine ⟨by omega, by omega, by omega, by omega, fun _ => by omega, fun h => ⟨h, by omega⟩, fun h => ⟨h, by omega⟩, fun h => ⟨by omega, by omega, by omega, 1, by omega, 1, _, .inr (.inl ⟨rfl, rfl, rfl⟩), ?_⟩, fun h => ⟨1, by omega, 1, _, .inr (.inl ⟨rfl, rfl, rfl⟩), ?_⟩⟩
        · rw [hT h]; exact weak_to [0] hp hnp rfl (by simp (config := { maxSteps := 2000000 }) only [go_sem, ↓reduceIte, Int.reduceToNat, Nat.reduceMul, Int.reduceBEq, Int.reduceBNe, Nat.reduceBEq, Nat.reduceAdd, Nat.reduceSub, Nat.reduceLeDiff, Nat.reduceEqDiff, Nat.reduceLT, reduceCtorEq, Aw.pos]) (by simp (config := { maxSteps := 2000000 }) only [go_sem, ↓reduceIte, Int.reduceToNat, Nat.reduceMul, Int.reduceBEq, Int.reduceBNe, Nat.reduceBEq, Nat.reduceAdd, Nat.reduceSub, Nat.reduceLeDiff, Nat.reduceEqDiff, Nat.reduceLT, reduceCtorEq, Aw.renR, Aw.pos])
        · rw [hF h]; exact weak_to [0] hp hnp rfl (by simp (config := { maxSteps := 2000000 }) only [go_sem, ↓reduceIte, Int.reduceToNat, Nat.reduceMul, Int.reduceBEq, Int.reduceBNe, Nat.reduceBEq, Nat.reduceAdd, Nat.reduceSub, Nat.reduceLeDiff, Nat.reduceEqDiff, Nat.reduceLT, reduceCtorEq, Aw.pos]) (by simp (config := { maxSteps := 2000000 }) only [go_sem, ↓reduceIte, Int.reduceToNat, Nat.reduceMul, Int.reduceBEq, Int.reduceBNe, Nat.reduceBEq, Nat.reduceAdd, Nat.reduceSub, Nat.reduceLeDiff, Nat.reduceEqDiff, Nat.reduceLT, reduceCtorEq, Aw.renR, Aw.pos])
      · have hrel : relax d st (edg l i) = relax1 d (relax1 d st (edg l i)) ((edg l i).2, (edg l i).1) := rfl
        generalize relax1 d st (edg l i) = st1 at *
        have e3 := getL (far := st1.1) (v := (edg l i).2) (by omega)
        have e4 := getL (far := st1.1) (v := (edg l i).1) (by omega)
        have e5 : IntKind.i64.wrap ((d : Int) + 1) = (d : Int) + 1 := w64 (by omega) (by omega)
        have g0 : decide ((1 : Int) < 2) = true := rfl
        have g1 : IntKind.i64.wrap ((1 : Int) + 1) = 2 := rfl
        have hm : (st1.1.map ic).set (edg l i).1 [I ((d : Int) + 1)] = (st1.1.set (edg l i).1 (d + 1)).map ic := List.map_set.symm
        have hT := relax1_t (d := d) (st := st1) (a := (edg l i).2) (b := (edg l i).1)
        have hF := relax1_f (d := d) (st := st1) (a := (edg l i).2) (b := (edg l i).1)
        simp (config := { maxSteps := 2000000 }) only [go_sem, ↓reduceIte, Int.reduceToNat, Nat.reduceMul, Int.reduceBEq, Int.reduceBNe, Nat.reduceBEq, Nat.reduceAdd, Nat.reduceSub, Nat.reduceLeDiff, Nat.reduceEqDiff, Nat.reduceLT, reduceCtorEq, e3, e4, e5, g0, g1, hm]
        refine ⟨by omega, by omega, by omega, by omega, fun _ => by omega, fun h => ⟨h, by omega⟩, fun h => ⟨h, by omega⟩, fun h => ⟨by omega, by omega, by omega, 0, by omega, 2, _, .inr (.inr ⟨rfl, rfl, rfl⟩), ?_⟩, fun h => ⟨0, by omega, 2, _, .inr (.inr ⟨rfl, rfl, rfl⟩), ?_⟩⟩
        · rw [hrel]; rw [hT h]; exact weak_to [0] hp hnp rfl (by simp (config := { maxSteps := 2000000 }) only [go_sem, ↓reduceIte, Int.reduceToNat, Nat.reduceMul, Int.reduceBEq, Int.reduceBNe, Nat.reduceBEq, Nat.reduceAdd, Nat.reduceSub, Nat.reduceLeDiff, Nat.reduceEqDiff, Nat.reduceLT, reduceCtorEq, Aw.pos]) (by simp (config := { maxSteps := 2000000 }) only [go_sem, ↓reduceIte, Int.reduceToNat, Nat.reduceMul, Int.reduceBEq, Int.reduceBNe, Nat.reduceBEq, Nat.reduceAdd, Nat.reduceSub, Nat.reduceLeDiff, Nat.reduceEqDiff, Nat.reduceLT, reduceCtorEq, Aw.renR, Aw.pos])
        · rw [hrel]; rw [hF h]; exact weak_to [0] hp hnp rfl (by simp (config := { maxSteps := 2000000 }) only [go_sem, ↓reduceIte, Int.reduceToNat, Nat.reduceMul, Int.reduceBEq, Int.reduceBNe, Nat.reduceBEq, Nat.reduceAdd, Nat.reduceSub, Nat.reduceLeDiff, Nat.reduceEqDiff, Nat.reduceLT, reduceCtorEq, Aw.pos]) (by simp (config := { maxSteps := 2000000 }) only [go_sem, ↓reduceIte, Int.reduceToNat, Nat.reduceMul, Int.reduceBEq, Int.reduceBNe, Nat.reduceBEq, Nat.reduceAdd, Nat.reduceSub, Nat.reduceLeDiff, Nat.reduceEqDiff, Nat.reduceLT, reduceCtorEq, Aw.renR, Aw.pos])
      · have e5 : IntKind.i64.wrap ((i : Int) + 1) = ((i + 1 : Nat) : Int) := by rw [w64 (by omega) (by omega)]; omega
        have g0 : decide ((2 : Int) < 2) = false := rfl
        simp (config := { maxSteps := 2000000 }) only [go_sem, ↓reduceIte, Int.reduceToNat, Nat.reduceMul, Int.reduceBEq, Int.reduceBNe, Nat.reduceBEq, Nat.reduceAdd, Nat.reduceSub, Nat.reduceLeDiff, Nat.reduceEqDiff, Nat.reduceLT, reduceCtorEq, e5, g0]
        refine ⟨k0 - 1, by omega, i + 1, by omega, ?_⟩
        rw [hsucc]
        exact weak_to [0] hp hnp rfl (by simp (config := { maxSteps := 2000000 }) only [go_sem, ↓reduceIte, Int.reduceToNat, Nat.reduceMul, Int.reduceBEq, Int.reduceBNe, Nat.reduceBEq, Nat.reduceAdd, Nat.reduceSub, Nat.reduceLeDiff, Nat.reduceEqDiff, Nat.reduceLT, reduceCtorEq, Aw.pos]) (by simp (config := { maxSteps := 2000000 }) only [go_sem, ↓reduceIte, Int.reduceToNat, Nat.reduceMul, Int.reduceBEq, Int.reduceBNe, Nat.reduceBEq, Nat.reduceAdd, Nat.reduceSub, Nat.reduceLeDiff, Nat.reduceEqDiff, Nat.reduceLT, reduceCtorEq, Aw.renR, Aw.pos])
    · have e1 : decide ((i : Int) < (l.length : Int)) = false := decide_eq_false (by omega)
      obtain rfl : i = l.length := by omega
      have e2 := getL (far := st.1) (v := v) (by have := hP.len; omega)
      have e5 : IntKind.i64.wrap ((d : Int) + 1) = ((d + 1 : Nat) : Int) := by rw [w64 (by omega) (by omega)]; omega
      simp (config := { maxSteps := 2000000 }) only [go_sem, ↓reduceIte, Int.reduceToNat, Nat.reduceMul, Int.reduceBEq, Int.reduceBNe, Nat.reduceBEq, Nat.reduceAdd, Nat.reduceSub, Nat.reduceLeDiff, Nat.reduceEqDiff, Nat.reduceLT, reduceCtorEq, e1, e2, e5]
      have hnx := lab_next hl hL
      obtain ⟨hP0, hP2⟩ := passW_ok hl hL l.length (Nat.le_refl _)
      rw [hst'] at hP0 hnx hGr
      refine ⟨fun h => ⟨h, by omega, by omega⟩, fun h => ⟨h, by have := hP.len; omega⟩, fun h => ?_, fun h => ?_⟩
      · rw [Bool.and_eq_true, decide_eq_true_eq, Bool.not_eq_true'] at h
        rw [if_pos h] at hGr
        rw [hwf, ← hGr]
        refine Retn.weak (weak_ent 10 (by rfl) (Ent.ofnil0 1)) _ (Retn.ret (π := []) hp hnp ⟨rfl, ?_⟩)
        simp (config := { maxSteps := 2000000 }) only [go_sem, ↓reduceIte, Int.reduceToNat, Nat.reduceMul, Int.reduceBEq, Int.reduceBNe, Nat.reduceBEq, Nat.reduceAdd, Nat.reduceSub, Nat.reduceLeDiff, Nat.reduceEqDiff, Nat.reduceLT, reduceCtorEq]
      · have h' : ¬ (st.2 = false ∧ lab st.1 v < 0) := fun ⟨h1, h2⟩ => by rw [h1, decide_eq_true h2] at h; cases h
        rw [if_neg h'] at hGr
        have hneg : negs st.1 < f := by
          cases hs : st.2 with
          | true => have := hP0.grow.1 hs; omega
          | false =>
            exfalso
            refine h' ⟨hs, ?_⟩
            rw [hP0.grow.2 hs]; exact hlt
        exact ⟨f, by omega, d + 1, st.1, by omega, hnx, hneg, by rw [← hGr]; rfl, weak_to [0] hp hnp rfl (by simp (config := { maxSteps := 2000000 }) only [go_sem, ↓reduceIte, Int.reduceToNat, Nat.reduceMul, Int.reduceBEq, Int.reduceBNe, Nat.reduceBEq, Nat.reduceAdd, Nat.reduceSub, Nat.reduceLeDiff, Nat.reduceEqDiff, Nat.reduceLT, reduceCtorEq, Aw.pos]) (by simp (config := { maxSteps := 2000000 }) only [go_sem, ↓reduceIte, Int.reduceToNat, Nat.reduceMul, Int.reduceBEq, Int.reduceBNe, Nat.reduceBEq, Nat.reduceAdd, Nat.reduceSub, Nat.reduceLeDiff, Nat.reduceEqDiff, Nat.reduceLT, reduceCtorEq, Aw.renR, Aw.pos])⟩
  · have hge : 0 ≤ lab far v := Int.not_lt.1 (of_decide_eq_false hge)
    rw [if_pos hge] at hGr
    rw [hwf, ← hGr]
    have hvd := hL.rng v hv
    refine AWp.weak (weak_nil 19 3 1 rfl) ?_
    refine AWp.loop (fun k s => ∃ (u : Nat) (out : List Nat), u < N ∧ 0 ≤ lab far u ∧ lab far u < k ∧ k ≤ N + 1 ∧ out.length + k = N + 1 ∧ out ++ pathW l far to k u = pathW l far to (N + 1) v ∧ Weak E s ⟨[(1, egs nl fl l), (2, I u), (3, I to), (4, .fn 64 []), (12, .hnd 0 0 N N true), (13, I d), (19, .hnd 1 0 out.length out.length false)], [.arr 3 1 (far.map ic), .arr 3 1 (out.map fun i : Nat => ic i)]⟩) (n := N + 1)
      ⟨v, [], hv, hge, by omega, Nat.le_refl _, by simp, rfl, weak_to [0, 1] hp hnp rfl (by simp (config := { maxSteps := 2000000 }) only [go_sem, ↓reduceIte, Int.reduceToNat, Nat.reduceMul, Int.reduceBEq, Int.reduceBNe, Nat.reduceBEq, Nat.reduceAdd, Nat.reduceSub, Nat.reduceLeDiff, Nat.reduceEqDiff, Nat.reduceLT, reduceCtorEq, Aw.pos]) (by simp (config := { maxSteps := 2000000 }) only [go_sem, ↓reduceIte, Int.reduceToNat, Nat.reduceMul, Int.reduceBEq, Int.reduceBNe, Nat.reduceBEq, Nat.reduceAdd, Nat.reduceSub, Nat.reduceLeDiff, Nat.reduceEqDiff, Nat.reduceLT, reduceCtorEq, Aw.renR, Aw.pos])⟩ ?_
    rintro k s ⟨u, out, hu, hu0, huk, hkN, hok, hpa, hw⟩
    refine AWp.weak hw (AWp.ofD [] [] hn mixed rfl ?_)
    simp (config := { maxSteps := 2000000 }) only [go_sem, ↓reduceIte, Int.reduceToNat, Nat.reduceMul, Int.reduceBEq, Int.reduceBNe, Nat.reduceBEq, Nat.reduceAdd, Nat.reduceSub, Nat.reduceLeDiff, Nat.reduceEqDiff, Nat.reduceLT, reduceCtorEq]
    refine ⟨fun h => ?_, fun h => ?_⟩
    · have hne : u ≠ to := fun e => by subst e; simp at h
      obtain ⟨k, rfl⟩ : ∃ g, k = g + 1 := ⟨k - 1, by omega⟩
      have hu1 : 0 < lab far u := by
        rcases Int.lt_or_eq_of_le hu0 with h4 | h4
        · exact h4
        · exact absurd ((hL.zero u hu).1 h4.symm) hne
      obtain ⟨m, hm, hx1, hx2, hx3⟩ := stepX_ok (l := l) (k := 0) (back_on hL hu hu1)
      rw [Nat.zero_add] at hx1
      obtain ⟨y, hy1, hy2, hy3⟩ := onW_iff hx2
      have hmb : (edg l m).1 < N ∧ (edg l m).2 < N := hl m hm
      have hyN : y < N := by rcases hy1 with hy1 | hy1 <;> rw [hy1] at hmb <;> omega
      have hpk : pathW l far to (k + 1) u = m :: pathW l far to k y := by
        rw [pathW, if_neg hne, hx1]; dsimp only; rw [hy3]
      rw [hpk] at hpa
      refine AWp.loop (fun q s => ∃ i : Nat, i + q = l.length ∧ i ≤ m ∧ Weak E s ⟨[(1, egs nl fl l), (2, I u), (3, I to), (4, .fn 64 []), (12, .hnd 0 0 N N true), (13, I d), (19, .hnd 1 0 out.length out.length false), (92, egs nl fl l), (93, I l.length), (94, I i)], [.arr 3 1 (far.map ic), .arr 3 1 (out.map fun i : Nat => ic i)]⟩) (n := l.length)
        ⟨0, by omega, Nat.zero_le _, weak_to [0, 1] hp hnp rfl (by simp (config := { maxSteps := 2000000 }) only [go_sem, ↓reduceIte, Int.reduceToNat, Nat.reduceMul, Int.reduceBEq, Int.reduceBNe, Nat.reduceBEq, Nat.reduceAdd, Nat.reduceSub, Nat.reduceLeDiff, Nat.reduceEqDiff, Nat.reduceLT, reduceCtorEq, Int.natCast_zero, Aw.pos]) (by simp (config := { maxSteps := 2000000 }) only [go_sem, ↓reduceIte, Int.reduceToNat, Nat.reduceMul, Int.reduceBEq, Int.reduceBNe, Nat.reduceBEq, Nat.reduceAdd, Nat.reduceSub, Nat.reduceLeDiff, Nat.reduceEqDiff, Nat.reduceLT, reduceCtorEq, Aw.renR, Aw.pos])⟩ ?_
      rintro q s ⟨i, hiq, him, hw⟩
      refine AWp.weak hw (AWp.ofD [] [] hn mixed rfl ?_)
      have e1 : decide ((i : Int) < (l.length : Int)) = true := decide_eq_true (by omega)
      have e2 := getE (l := l) (i := i) (by omega)
      have hib : (edg l i).1 < N ∧ (edg l i).2 < N := hl i (by omega)
      have hne1 : ∀ i, i < m → onW far u (edg l i) = false := fun i h => hx3 i h
      have e3 : IntKind.i64.wrap (((edg l i).1 : Int) + (edg l i).2) = (edg l i).1 + (edg l i).2 := w64 (by omega) (by omega)
      have e4 : IntKind.i64.wrap (((edg l i).1 : Int) + (edg l i).2 - u) = (edg l i).1 + (edg l i).2 - u := w64 (by omega) (by omega)
      have e7 : IntKind.i64.wrap ((i : Int) + 1) = ((i + 1 : Nat) : Int) := by rw [w64 (by omega) (by omega)]; omega
      have hon : onW far u (edg l i) = (((edg l i).1 == u || (edg l i).2 == u) && lab far ((edg l i).1 + (edg l i).2 - u) == lab far u - 1) := rfl
      have b1 : (((edg l i).1 : Int) == (u : Int)) = ((edg l i).1 == u) := by
        rw [Bool.eq_iff_iff, beq_iff_eq, beq_iff_eq]; omega
      have b2 : (((edg l i).2 : Int) == (u : Int)) = ((edg l i).2 == u) := by
        rw [Bool.eq_iff_iff, beq_iff_eq, beq_iff_eq]; omega
      simp (config := { maxSteps := 2000000 }) only [go_sem, ↓reduceIte, Int.reduceToNat, Nat.reduceMul, Int.reduceBEq, Int.reduceBNe, Nat.reduceBEq, Nat.reduceAdd, Nat.reduceSub, Nat.reduceLeDiff, Nat.reduceEqDiff, Nat.reduceLT, reduceCtorEq, e1, e2, e3, e4]
      refine ⟨by omega, by omega, by omega, AWp.draw mixed (AWpQ.of hn rfl ?_)⟩
      simp (config := { maxSteps := 2000000 }) only [go_sem, ↓reduceIte, Int.reduceToNat, Nat.reduceMul, Int.reduceBEq, Int.reduceBNe, Nat.reduceBEq, Nat.reduceAdd, Nat.reduceSub, Nat.reduceLeDiff, Nat.reduceEqDiff, Nat.reduceLT, reduceCtorEq]
      refine AWpQ_callv rfl (by kernel_rfl) (s64 i) (by rw [hn]; rfl) (by simp (config := { maxSteps := 2000000 }) only [go_sem, ↓reduceIte, Int.reduceToNat, Nat.reduceMul, Int.reduceBEq, Int.reduceBNe, Nat.reduceBEq, Nat.reduceAdd, Nat.reduceSub, Nat.reduceLeDiff, Nat.reduceEqDiff, Nat.reduceLT, reduceCtorEq]) ?_
      cases hends : ((edg l i).1 == u || (edg l i).2 == u) with
      | false =>
        rw [Bool.or_eq_false_iff] at hends
        refine AWpQ.upto hn 13 rfl rfl ?_
        simp (config := { maxSteps := 2000000 }) only [go_sem, ↓reduceIte, Int.reduceToNat, Nat.reduceMul, Int.reduceBEq, Int.reduceBNe, Nat.reduceBEq, Nat.reduceAdd, Nat.reduceSub, Nat.reduceLeDiff, Nat.reduceEqDiff, Nat.reduceLT, reduceCtorEq, b1, b2, hends.1, hends.2]
        refine ⟨by omega, by omega, AWpQ.skips hn 121 true 10 (by rfl) rfl (AWpQ.weak (weak_ent 131 (y := .opt false (B false)) (by rfl) Ent.off) (AWpQ.of hn rfl ?_))⟩
        simp (config := { maxSteps := 2000000 }) only [go_sem, ↓reduceIte, Int.reduceToNat, Nat.reduceMul, Int.reduceBEq, Int.reduceBNe, Nat.reduceBEq, Nat.reduceAdd, Nat.reduceSub, Nat.reduceLeDiff, Nat.reduceEqDiff, Nat.reduceLT, reduceCtorEq, e7]
        have him : i < m := by
          rcases Nat.lt_or_eq_of_le him with h5 | rfl
          · exact h5
          · rw [hon, hends.1, hends.2] at hx2; cases hx2
        exact ⟨q - 1, by omega, i + 1, by omega, by omega, weak_to [0, 1] hp hnp rfl (by simp (config := { maxSteps := 2000000 }) only [go_sem, ↓reduceIte, Int.reduceToNat, Nat.reduceMul, Int.reduceBEq, Int.reduceBNe, Nat.reduceBEq, Nat.reduceAdd, Nat.reduceSub, Nat.reduceLeDiff, Nat.reduceEqDiff, Nat.reduceLT, reduceCtorEq, Aw.pos]) (by simp (config := { maxSteps := 2000000 }) only [go_sem, ↓reduceIte, Int.reduceToNat, Nat.reduceMul, Int.reduceBEq, Int.reduceBNe, Nat.reduceBEq, Nat.reduceAdd, Nat.reduceSub, Nat.reduceLeDiff, Nat.reduceEqDiff, Nat.reduceLT, reduceCtorEq, Aw.renR, Aw.pos])⟩
      | true =>
        have hz : ∃ z : Nat, z < N ∧ (edg l i).1 + (edg l i).2 - u = z ∧ ((edg l i).1 : Int) + (edg l i).2 - u = z := by
          rw [Bool.or_eq_true, beq_iff_eq, beq_iff_eq] at hends
          exact ⟨(edg l i).1 + (edg l i).2 - u, by omega, rfl, by omega⟩
        obtain ⟨z, hz1, hz2, hz3⟩ := hz
        rw [hends, hz2, Bool.true_and] at hon
        have e6 := getL (far := far) (v := z) (by omega)
        have e8 := getL (far := far) (v := u) (by omega)
        have e9 : IntKind.i64.wrap (lab far u - 1) = lab far u - 1 := w64 (by omega) (by omega)
        refine AWpQ.of hn rfl ?_
        simp (config := { maxSteps := 2000000 }) only [go_sem, ↓reduceIte, Int.reduceToNat, Nat.reduceMul, Int.reduceBEq, Int.reduceBNe, Nat.reduceBEq, Nat.reduceAdd, Nat.reduceSub, Nat.reduceLeDiff, Nat.reduceEqDiff, Nat.reduceLT, reduceCtorEq, b1, b2, hz3, e6, e8, e9, hends, e7]
        refine ⟨by omega, fun _ => by omega, by omega, by omega, by omega, by omega, fun h5 => ?_, fun h5 => ?_⟩
        · rw [h5] at hon
          obtain rfl : i = m := by
            rcases Nat.lt_or_eq_of_le him with h6 | h6
            · rw [hne1 i h6] at hon; cases hon
            · exact h6
          have hap : (out.map fun i : Nat => ic i) ++ [ic i] = ((out ++ [i]).map fun i : Nat => ic i) := by rw [List.map_append]; rfl
          have hl2 : out.length + 1 = (out ++ [i]).length := by rw [List.length_append]; rfl
          refine AWpL.app (r := 1) (els := out.map fun i : Nat => ic i) (ys := [ic i]) rfl rfl rfl rfl (by rw [hn]; rfl) (by simp) (pin 1) (by simp (config := { maxSteps := 2000000 }) only [go_sem, ↓reduceIte, Int.reduceToNat, Nat.reduceMul, Int.reduceBEq, Int.reduceBNe, Nat.reduceBEq, Nat.reduceAdd, Nat.reduceSub, Nat.reduceLeDiff, Nat.reduceEqDiff, Nat.reduceLT, reduceCtorEq, Nat.le_refl]) (fun el hm y hy => by
            rw [List.mem_singleton.1 hm] at hy
            rw [List.mem_singleton.1 hy]; rfl) (by simp only [List.length_cons, List.length_nil]; omega) (by simp only [List.length_cons, List.length_nil]; omega) (AWpL.ofM hn rfl ?_)
          simp (config := { maxSteps := 2000000 }) only [go_sem, ↓reduceIte, Int.reduceToNat, Nat.reduceMul, Int.reduceBEq, Int.reduceBNe, Nat.reduceBEq, Nat.reduceAdd, Nat.reduceSub, Nat.reduceLeDiff, Nat.reduceEqDiff, Nat.reduceLT, reduceCtorEq, hap, hl2]
          obtain rfl : y = z := by omega
          exact ⟨k, by omega, y, out ++ [i], hyN, by omega, by omega, by omega, by rw [List.length_append]; simp only [List.length_cons, List.length_nil]; omega, by rw [List.append_assoc]; exact hpa, weak_to [0, 1] hp hnp rfl (by simp (config := { maxSteps := 2000000 }) only [go_sem, ↓reduceIte, Int.reduceToNat, Nat.reduceMul, Int.reduceBEq, Int.reduceBNe, Nat.reduceBEq, Nat.reduceAdd, Nat.reduceSub, Nat.reduceLeDiff, Nat.reduceEqDiff, Nat.reduceLT, reduceCtorEq, Aw.pos]) (by simp (config := { maxSteps := 2000000 }) only [go_sem, ↓reduceIte, Int.reduceToNat, Nat.reduceMul, Int.reduceBEq, Int.reduceBNe, Nat.reduceBEq, Nat.reduceAdd, Nat.reduceSub, Nat.reduceLeDiff, Nat.reduceEqDiff, Nat.reduceLT, reduceCtorEq, Aw.renR, Aw.pos])⟩
        · rw [h5] at hon
          have him : i < m := by
            rcases Nat.lt_or_eq_of_le him with h6 | rfl
            · exact h6
            · rw [hon] at hx2; cases hx2
          exact ⟨q - 1, by omega, i + 1, by omega, by omega, weak_to [0, 1] hp hnp rfl (by simp (config := { maxSteps := 2000000 }) only [go_sem, ↓reduceIte, Int.reduceToNat, Nat.reduceMul, Int.reduceBEq, Int.reduceBNe, Nat.reduceBEq, Nat.reduceAdd, Nat.reduceSub, Nat.reduceLeDiff, Nat.reduceEqDiff, Nat.reduceLT, reduceCtorEq, Aw.pos]) (by simp (config := { maxSteps := 2000000 }) only [go_sem, ↓reduceIte, Int.reduceToNat, Nat.reduceMul, Int.reduceBEq, Int.reduceBNe, Nat.reduceBEq, Nat.reduceAdd, Nat.reduceSub, Nat.reduceLeDiff, Nat.reduceEqDiff, Nat.reduceLT, reduceCtorEq, Aw.renR, Aw.pos])⟩
    · have hne : u = to := by
        rw [bne_eq_false_iff_eq] at h; omega
      subst hne
      have hp0 : pathW l far u k u = [] := by cases k <;> simp [pathW]
      rw [hp0, List.append_nil] at hpa
      refine Retn.weak (weak_freeze 1 rfl (pin 1) ?_) _ ?_
      · simp (config := { maxSteps := 2000000 }) only [go_sem, ↓reduceIte, Int.reduceToNat, Nat.reduceMul, Int.reduceBEq, Int.reduceBNe, Nat.reduceBEq, Nat.reduceAdd, Nat.reduceSub, Nat.reduceLeDiff, Nat.reduceEqDiff, Nat.reduceLT, reduceCtorEq, Nat.le_refl, List.length_map]
      refine Retn.ret (π := []) hp hnp ⟨rfl, ?_⟩
      simp (config := { maxSteps := 2000000 }) only [go_sem, ↓reduceIte, Int.reduceToNat, Nat.reduceMul, Int.reduceBEq, Int.reduceBNe, Nat.reduceBEq, Nat.reduceAdd, Nat.reduceSub, Nat.reduceLeDiff, Nat.reduceEqDiff, Nat.reduceLT, reduceCtorEq, hpa, Option.map_some, Option.getD_some, Option.isSome_some]
      rw [List.take_of_length_le (by rw [List.length_map]; exact Nat.le_refl _)]
end Go.Proofs.Ytmginfhlohenhaa
