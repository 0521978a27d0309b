/- Interlocks: rules, states, their checks. -/
import Derived.Test.YtocghkacngoblaaDoorAwZl
import Derived.Test.YtocghkacngoblaaDoorLibA
set_option linter.unusedVariables false
set_option linter.unusedSimpArgs false
namespace Go.Proofs.YtocghkacngoblaaDoor
open Go.Proofs.YtocghkacngoblaaDoor.Aw
attribute [local go_sem] Int.natCast_zero Int.natCast_one bne_self_eq_false beq_self_eq_true Bool.not_true Bool.not_false Option.isSome_none Option.isSome_some Aw.bkM_nil Option.getD_some Option.getD_none Nat.sub_zero Int.toNat_zero Aw.frzS Aw.frzT Aw.frzA Aw.frzL Aw.frzR Aw.frzO Aw.frzOL Aw.frzOT Aw.frzOR Aw.killS Aw.mapT Aw.mapR Aw.killM Aw.resAVs Aw.resAV Aw.quietOps Aw.wpP Aw.wpT Aw.wpS Aw.AOp.mild List.getElem?_cons_zero List.getElem?_cons_succ Bool.and_false Bool.and_self Bool.false_and Aw.opOb Aw.gdB Aw.Rnd Aw.subTm List.length_map Int.toNat_natCast and_self Aw.SeqC Aw.stops Aw.Ends Aw.looks Aw.renA Aw.renL Aw.renT Aw.renS Aw.wpO Aw.aop Aw.putTm Aw.St.ev Aw.St.put Aw.St.putO Aw.binAV Aw.intBin Aw.strBin Aw.pickAV Aw.optInt Aw.AV.strip Aw.AV.guard Aw.AV.cells Aw.gdOb Aw.AOp.opds Aw.AOp.still Aw.ptrCells Aw.St.reg Aw.fillAV Aw.fillOb Aw.elsOb Aw.splice Aw.firm Aw.cellish Aw.AV.shut Aw.shutAll Aw.Seq Aw.Blk Aw.retS_nil Aw.mapA Aw.mapL Aw.borA Aw.borOb Aw.allOb Aw.tupOf Aw.params Aw.Opd.of Array.toList Value.cells List.map_cons List.map_nil List.getD_cons_zero List.getD_cons_succ List.getD_nil List.length_cons List.length_nil List.take_succ_cons List.take_zero List.take_nil List.drop_zero List.drop_succ_cons List.drop_nil List.set_cons_zero List.set_cons_succ List.append_nil List.nil_append List.cons_append List.all_cons List.all_nil cond_false cond_true if_true if_false true_and and_true Bool.and_true Bool.true_and Option.map_some Option.map_none false_implies forall_const implies_true forall_eq imp_self Bool.cond_false_right Bool.cond_true_left beq_true beq_false Bool.not_eq_true' Bool.false_eq_true Nat.zero_add Nat.add_zero Aw.eqCells Aw.stopDraw Aw.skipS Aw.exactCap Aw.revealS Aw.srcEls Aw.srcSz
attribute [local go_sem ↓] Aw.look_nil Aw.look_ite Aw.wpL_nil Aw.wpL_op Aw.wpL_gd Aw.wpQ_nil Aw.wpQ_op Aw.wpQ_gd Aw.wpC_draw Aw.wpC_reg Aw.wpC_skip Aw.wpC_ret Aw.wpC_exit Aw.wpC_seq Aw.wpC_block Aw.wpC_loop Aw.wpC_cond Aw.stopAt_nil Aw.stopAt_cons Aw.wpD_skip Aw.wpD_ret Aw.wpD_exit Aw.wpD_region Aw.wpD_draw Aw.wpM_nil Aw.wpM_op Aw.wpM_gd Aw.wpD_seq Aw.wpD_block Aw.wpD_loop Aw.wpD_cond

/- gridhall/interlock.named -/
def a34 : ACode :=
  (.seq (.region false [] [
     ⟨(some 2), none, (.mov (.v (.bool false)))⟩])
  (.seq (.seq (.region false [] [
     ⟨(some 5), none, (.mov (.t 0))⟩,
     ⟨(some 6), none, (.stb 5 (.t 5))⟩,
     ⟨(some 7), none, (.len (.t 6))⟩,
     ⟨(some 8), none, (.mov (.v (.int .i64 0)))⟩])
  (.block 0 (.loop (.seq (.region false [] [
       ⟨(some 9), none, (.bin .lss 3 (.t 8) (.t 7))⟩])
    (.seq (.cond (.t 9)
      .skip
      (.exit 0))
    (.seq (.block 1 (.seq (.region false [] [
        ⟨(some 10), none, (.mov (.t 8))⟩,
        ⟨(some 11), none, (.idx 1 (.t 6) (.t 8))⟩,
        ⟨(some 12), none, (.load 1 false (.t 11))⟩,
        ⟨(some 3), none, (.mov (.t 10))⟩,
        ⟨(some 4), none, (.mov (.t 12))⟩])
     (.seq (.region false [] [
        ⟨(some 13), none, (.mov (.t 4))⟩,
        ⟨(some 14), none, (.bin .geq 5 (.t 13) (.v (.int .u8 65)))⟩,
        ⟨(some 15), none, (.mov (.t 14))⟩,
        ⟨(some 16), (some (15, true)), (.mov (.t 4))⟩,
        ⟨(some 17), (some (15, true)), (.bin .leq 5 (.t 16) (.v (.int .u8 90)))⟩,
        ⟨(some 18), none, (.pick (.t 15) (.t 17) (.v (.bool false)))⟩,
        ⟨(some 19), none, (.mov (.t 18))⟩,
        ⟨(some 20), (some (19, false)), (.mov (.t 3))⟩,
        ⟨(some 21), (some (19, false)), (.bin .gtr 3 (.t 20) (.v (.int .i64 0)))⟩,
        ⟨(some 22), (some (19, false)), (.mov (.t 21))⟩,
        ⟨(some 23), (some (22, true)), (.mov (.t 4))⟩,
        ⟨(some 24), (some (22, true)), (.bin .geq 5 (.t 23) (.v (.int .u8 48)))⟩,
        ⟨(some 25), (some (19, false)), (.pick (.t 22) (.t 24) (.v (.bool false)))⟩,
        ⟨(some 26), (some (19, false)), (.mov (.t 25))⟩,
        ⟨(some 27), (some (26, true)), (.mov (.t 4))⟩,
        ⟨(some 28), (some (26, true)), (.bin .leq 5 (.t 27) (.v (.int .u8 57)))⟩,
        ⟨(some 29), (some (19, false)), (.pick (.t 26) (.t 28) (.v (.bool false)))⟩,
        ⟨(some 30), none, (.pick (.t 19) (.v (.bool true)) (.t 29))⟩,
        ⟨(some 31), none, (.un .not (.t 30))⟩])
     (.cond (.t 31)
       (.seq (.region false [] [
          ⟨(some 2), none, (.mov (.v (.bool false)))⟩])
       .ret)
       .skip))))
    (.region false [] [
       ⟨(some 32), none, (.bin .add 3 (.t 8) (.v (.int .i64 1)))⟩,
       ⟨(some 8), none, (.mov (.t 32))⟩])))))))
  (.seq (.region false [] [
     ⟨(some 33), none, (.mov (.t 0))⟩,
     ⟨(some 34), none, (.bin .neq 9 (.t 33) (.v (.string ⟨#[]⟩)))⟩,
     ⟨(some 35), none, (.mov (.t 34))⟩,
     ⟨(some 36), (some (35, true)), (.mov (.t 0))⟩,
     ⟨(some 37), (some (35, true)), (.lens (.t 36))⟩,
     ⟨(some 38), (some (35, true)), (.bin .leq 3 (.t 37) (.v (.int .i64 8)))⟩,
     ⟨(some 39), none, (.pick (.t 35) (.t 38) (.v (.bool false)))⟩,
     ⟨(some 2), none, (.mov (.t 39))⟩])
  .ret)))
theorem k34 : FnIs Tryd.prog 34 40 [.t 2] a34 := ⟨_, _, Tryd.func34, rfl, by kernel_rfl, by kernel_rfl, rfl⟩
/- gridhall/interlock.arity -/
def a44 : ACode :=
  (.seq (.region false [] [
     ⟨(some 2), none, (.mov (.v (.int .i64 0)))⟩,
     ⟨(some 3), none, (.mov (.v (.bool false)))⟩])
  (.seq (.seq (.region false [] [
     ⟨(some 4), none, (.mov (.t 0))⟩])
  (.block 0 (.seq (.seq (.region false [] [
      ⟨(some 6), none, (.bin .eql 3 (.t 4) (.v (.int .i64 0)))⟩,
      ⟨(some 5), none, (.mov (.t 6))⟩])
   (.cond (.t 5)
     .skip
     (.region false [] [
        ⟨(some 7), none, (.bin .eql 3 (.t 4) (.v (.int .i64 1)))⟩,
        ⟨(some 5), none, (.mov (.t 7))⟩])))
   (.cond (.t 5)
     (.seq (.region false [] [
        ⟨(some 2), none, (.mov (.v (.int .i64 0)))⟩,
        ⟨(some 3), none, (.mov (.v (.bool false)))⟩])
     .ret)
     (.seq (.seq (.region false [] [
        ⟨(some 9), none, (.bin .eql 3 (.t 4) (.v (.int .i64 2)))⟩,
        ⟨(some 8), none, (.mov (.t 9))⟩])
     (.cond (.t 8)
       .skip
       (.region false [] [
          ⟨(some 10), none, (.bin .eql 3 (.t 4) (.v (.int .i64 3)))⟩,
          ⟨(some 8), none, (.mov (.t 10))⟩])))
     (.cond (.t 8)
       (.seq (.region false [] [
          ⟨(some 2), none, (.mov (.v (.int .i64 0)))⟩,
          ⟨(some 3), none, (.mov (.v (.bool true)))⟩])
       .ret)
       (.seq (.region false [] [
          ⟨(some 12), none, (.bin .eql 3 (.t 4) (.v (.int .i64 4)))⟩,
          ⟨(some 11), none, (.mov (.t 12))⟩])
       (.cond (.t 11)
         (.seq (.region false [] [
            ⟨(some 2), none, (.mov (.v (.int .i64 1)))⟩,
            ⟨(some 3), none, (.mov (.v (.bool false)))⟩])
         .ret)
         (.seq (.seq (.region false [] [
            ⟨(some 14), none, (.bin .eql 3 (.t 4) (.v (.int .i64 5)))⟩,
            ⟨(some 13), none, (.mov (.t 14))⟩])
         (.cond (.t 13)
           .skip
           (.region false [] [
              ⟨(some 15), none, (.bin .eql 3 (.t 4) (.v (.int .i64 6)))⟩,
              ⟨(some 13), none, (.mov (.t 15))⟩])))
         (.cond (.t 13)
           (.seq (.region false [] [
              ⟨(some 2), none, (.mov (.v (.int .i64 2)))⟩,
              ⟨(some 3), none, (.mov (.v (.bool false)))⟩])
           .ret)
           .skip))))))))))
  (.seq (.region false [] [
     ⟨(some 2), none, (.mov (.v (.int .i64 (-1))))⟩,
     ⟨(some 3), none, (.mov (.v (.bool false)))⟩])
  .ret)))
theorem k44 : FnIs Tryd.prog 44 16 [.t 2, .t 3] a44 := ⟨_, _, Tryd.func44, rfl, by kernel_rfl, by kernel_rfl, rfl⟩
/- gridhall/interlock.condition -/
def a35 : ACode :=
  (.seq (.region false [] [
     ⟨(some 2), none, (.mov (.v (.int .i64 0)))⟩])
  (.seq (.seq (.region false [] [
     ⟨(some 10), none, (.mov (.t 0))⟩,
     ⟨(some 11), none, (.len (.t 10))⟩,
     ⟨(some 3), none, (.mov (.t 11))⟩])
  (.block 0 (.seq (.region false [] [
      ⟨(some 13), none, (.mov (.t 3))⟩,
      ⟨(some 14), none, (.bin .gtr 3 (.t 13) (.v (.int .i64 40)))⟩,
      ⟨(some 12), none, (.mov (.t 14))⟩])
   (.cond (.t 12)
     (.seq (.region false [] [
        ⟨(some 2), none, (.mov (.v (.int .i64 2)))⟩])
     .ret)
     (.seq (.region false [] [
        ⟨(some 16), none, (.mov (.t 3))⟩,
        ⟨(some 17), none, (.bin .eql 3 (.t 16) (.v (.int .i64 0)))⟩,
        ⟨(some 15), none, (.mov (.t 17))⟩])
     (.cond (.t 15)
       (.seq (.region false [] [
          ⟨(some 2), none, (.mov (.v (.int .i64 3)))⟩])
       .ret)
       .skip))))))
  (.seq (.region false [] [
     ⟨(some 4), none, (.mov (.v (.slice none 0 0)))⟩])
  (.seq (.seq (.region false [] [
     ⟨(some 18), none, (.mov (.t 0))⟩,
     ⟨(some 19), none, (.len (.t 18))⟩,
     ⟨(some 20), none, (.mov (.v (.int .i64 0)))⟩])
  (.block 1 (.loop (.seq (.region false [] [
       ⟨(some 21), none, (.bin .lss 3 (.t 20) (.t 19))⟩])
    (.seq (.cond (.t 21)
      .skip
      (.exit 1))
    (.seq (.block 2 (.seq (.region false [] [
        ⟨(some 22), none, (.mov (.t 20))⟩,
        ⟨(some 23), none, (.idx 4 (.t 18) (.t 20))⟩,
        ⟨(some 24), none, (.load 4 true (.t 23))⟩,
        ⟨(some 6), none, (.alloc 54 (.agg #[(.int .i64 0), (.string ⟨#[]⟩), (.int .i64 0), (.int .i64 0)]))⟩,
        ⟨(some 5), none, (.mov (.t 22))⟩,
        ⟨none, none, (.store 4 (.t 6) (.t 24))⟩])
     (.seq (.region false [] [
        ⟨(some 26), none, (.fld 0 (.t 6))⟩,
        ⟨(some 27), none, (.load 1 false (.t 26))⟩,
        ⟨(some 28), none, (.call 44 [(.t 27)])⟩,
        ⟨(some 25), none, (.mov (.t 28))⟩,
        ⟨(some 29), none, (.ext 0 (.t 25))⟩,
        ⟨(some 30), none, (.ext 1 (.t 25))⟩,
        ⟨(some 7), none, (.mov (.t 29))⟩,
        ⟨(some 8), none, (.mov (.t 30))⟩])
     (.seq (.block 3 (.seq (.region false [] [
         ⟨(some 32), none, (.mov (.t 7))⟩,
         ⟨(some 33), none, (.bin .lss 3 (.t 32) (.v (.int .i64 0)))⟩,
         ⟨(some 31), none, (.mov (.t 33))⟩])
      (.cond (.t 31)
        (.seq (.region false [] [
           ⟨(some 2), none, (.mov (.v (.int .i64 1)))⟩])
        .ret)
        (.seq (.region false [] [
           ⟨(some 35), none, (.mov (.t 8))⟩,
           ⟨(some 36), none, (.mov (.t 35))⟩,
           ⟨(some 37), (some (36, true)), (.fld 1 (.t 6))⟩,
           ⟨(some 38), (some (36, true)), (.load 1 false (.t 37))⟩,
           ⟨(some 39), (some (36, true)), (.call 34 [(.t 38)])⟩,
           ⟨(some 40), (some (36, true)), (.un .not (.t 39))⟩,
           ⟨(some 41), none, (.pick (.t 36) (.t 40) (.v (.bool false)))⟩,
           ⟨(some 34), none, (.mov (.t 41))⟩])
        (.cond (.t 34)
          (.seq (.region false [] [
             ⟨(some 2), none, (.mov (.v (.int .i64 6)))⟩])
          .ret)
          (.seq (.region false [] [
             ⟨(some 43), none, (.mov (.t 8))⟩,
             ⟨(some 44), none, (.un .not (.t 43))⟩,
             ⟨(some 45), none, (.mov (.t 44))⟩,
             ⟨(some 46), (some (45, true)), (.fld 1 (.t 6))⟩,
             ⟨(some 47), (some (45, true)), (.load 1 false (.t 46))⟩,
             ⟨(some 48), (some (45, true)), (.bin .neq 9 (.t 47) (.v (.string ⟨#[]⟩)))⟩,
             ⟨(some 49), none, (.pick (.t 45) (.t 48) (.v (.bool false)))⟩,
             ⟨(some 50), none, (.mov (.t 49))⟩,
             ⟨(some 51), (some (50, false)), (.mov (.t 7))⟩,
             ⟨(some 52), (some (50, false)), (.bin .lss 3 (.t 51) (.v (.int .i64 1)))⟩,
             ⟨(some 53), (some (50, false)), (.mov (.t 52))⟩,
             ⟨(some 54), (some (53, true)), (.fld 2 (.t 6))⟩,
             ⟨(some 55), (some (53, true)), (.load 1 false (.t 54))⟩,
             ⟨(some 56), (some (53, true)), (.bin .neq 3 (.t 55) (.v (.int .i64 0)))⟩,
             ⟨(some 57), (some (50, false)), (.pick (.t 53) (.t 56) (.v (.bool false)))⟩,
             ⟨(some 58), none, (.pick (.t 50) (.v (.bool true)) (.t 57))⟩,
             ⟨(some 59), none, (.mov (.t 58))⟩,
             ⟨(some 60), (some (59, false)), (.mov (.t 7))⟩,
             ⟨(some 61), (some (59, false)), (.bin .lss 3 (.t 60) (.v (.int .i64 2)))⟩,
             ⟨(some 62), (some (59, false)), (.mov (.t 61))⟩,
             ⟨(some 63), (some (62, true)), (.fld 3 (.t 6))⟩,
             ⟨(some 64), (some (62, true)), (.load 1 false (.t 63))⟩,
             ⟨(some 65), (some (62, true)), (.bin .neq 3 (.t 64) (.v (.int .i64 0)))⟩,
             ⟨(some 66), (some (59, false)), (.pick (.t 62) (.t 65) (.v (.bool false)))⟩,
             ⟨(some 67), none, (.pick (.t 59) (.v (.bool true)) (.t 66))⟩,
             ⟨(some 68), none, (.mov (.t 67))⟩,
             ⟨(some 69), (some (68, false)), (.mov (.t 4))⟩,
             ⟨(some 70), (some (68, false)), (.len (.t 69))⟩,
             ⟨(some 71), (some (68, false)), (.mov (.t 7))⟩,
             ⟨(some 72), (some (68, false)), (.bin .lss 3 (.t 70) (.t 71))⟩,
             ⟨(some 73), none, (.pick (.t 68) (.v (.bool true)) (.t 72))⟩,
             ⟨(some 42), none, (.mov (.t 73))⟩])
          (.cond (.t 42)
            (.seq (.region false [] [
               ⟨(some 2), none, (.mov (.v (.int .i64 3)))⟩])
            .ret)
            .skip)))))))
     (.seq (.region false [] [
        ⟨(some 74), none, (.mov (.t 4))⟩,
        ⟨(some 75), none, (.len (.t 74))⟩,
        ⟨(some 9), none, (.mov (.t 75))⟩])
     (.seq (.seq (.region true [[], [0], [1], [2], [3, 2], [2], [2], [6, 2], [5, 7, 2], [8, 2], [4, 9, 2], [2, 10], [11, 2], [12], [13, 12], [14, 12, 12], [15], [16, 15], [15], [15], [19, 15], [18, 20, 15], [21, 15], [17, 22, 15], [23, 15, 15], [24], [25, 24], [24], [24], [28, 24], [27, 29, 24], [30, 24], [26, 31, 24], [24, 32, 15], [15, 33, 12], [12, 34]] [
        ⟨(some 76), none, (.mov (.t 7))⟩,
        ⟨(some 77), none, (.bin .eql 3 (.t 76) (.v (.int .i64 1)))⟩,
        ⟨(some 78), none, (.mov (.t 77))⟩,
        ⟨(some 79), (some (78, true)), (.fld 2 (.t 6))⟩,
        ⟨(some 80), (some (78, true)), (.load 1 false (.t 79))⟩,
        ⟨(some 81), (some (78, true)), (.mov (.t 4))⟩,
        ⟨(some 82), (some (78, true)), (.mov (.t 9))⟩,
        ⟨(some 83), (some (78, true)), (.bin .sub 3 (.t 82) (.v (.int .i64 1)))⟩,
        ⟨(some 84), (some (78, true)), (.idx 1 (.t 81) (.t 83))⟩,
        ⟨(some 85), (some (78, true)), (.load 1 false (.t 84))⟩,
        ⟨(some 86), (some (78, true)), (.bin .neq 3 (.t 80) (.t 85))⟩,
        ⟨(some 87), none, (.pick (.t 78) (.t 86) (.v (.bool false)))⟩,
        ⟨(some 88), none, (.mov (.t 87))⟩,
        ⟨(some 89), (some (88, false)), (.mov (.t 7))⟩,
        ⟨(some 90), (some (88, false)), (.bin .eql 3 (.t 89) (.v (.int .i64 2)))⟩,
        ⟨(some 91), (some (88, false)), (.mov (.t 90))⟩,
        ⟨(some 92), (some (91, true)), (.fld 2 (.t 6))⟩,
        ⟨(some 93), (some (91, true)), (.load 1 false (.t 92))⟩,
        ⟨(some 94), (some (91, true)), (.mov (.t 4))⟩,
        ⟨(some 95), (some (91, true)), (.mov (.t 9))⟩,
        ⟨(some 96), (some (91, true)), (.bin .sub 3 (.t 95) (.v (.int .i64 2)))⟩,
        ⟨(some 97), (some (91, true)), (.idx 1 (.t 94) (.t 96))⟩,
        ⟨(some 98), (some (91, true)), (.load 1 false (.t 97))⟩,
        ⟨(some 99), (some (91, true)), (.bin .neq 3 (.t 93) (.t 98))⟩,
        ⟨(some 100), (some (91, true)), (.mov (.t 99))⟩,
        ⟨(some 101), (some (100, false)), (.fld 3 (.t 6))⟩,
        ⟨(some 102), (some (100, false)), (.load 1 false (.t 101))⟩,
        ⟨(some 103), (some (100, false)), (.mov (.t 4))⟩,
        ⟨(some 104), (some (100, false)), (.mov (.t 9))⟩,
        ⟨(some 105), (some (100, false)), (.bin .sub 3 (.t 104) (.v (.int .i64 1)))⟩,
        ⟨(some 106), (some (100, false)), (.idx 1 (.t 103) (.t 105))⟩,
        ⟨(some 107), (some (100, false)), (.load 1 false (.t 106))⟩,
        ⟨(some 108), (some (100, false)), (.bin .neq 3 (.t 102) (.t 107))⟩,
        ⟨(some 109), (some (91, true)), (.pick (.t 100) (.v (.bool true)) (.t 108))⟩,
        ⟨(some 110), (some (88, false)), (.pick (.t 91) (.t 109) (.v (.bool false)))⟩,
        ⟨(some 111), none, (.pick (.t 88) (.v (.bool true)) (.t 110))⟩])
     (.cond (.t 111)
       (.seq (.region false [] [
          ⟨(some 2), none, (.mov (.v (.int .i64 3)))⟩])
       .ret)
       .skip))
     (.region false [] [
        ⟨(some 112), none, (.mov (.t 4))⟩,
        ⟨(some 113), none, (.mov (.t 9))⟩,
        ⟨(some 114), none, (.mov (.t 7))⟩,
        ⟨(some 115), none, (.bin .sub 3 (.t 113) (.t 114))⟩,
        ⟨(some 116), none, (.slc 1 (.t 112) none (some (.t 115)) none)⟩,
        ⟨(some 117), none, (.mov (.t 5))⟩,
        ⟨(some 118), none, (.bsl 3 1 1 [(0, (.t 117))])⟩,
        ⟨(some 119), none, (.app 3 1 8 (.int .i64 0) (.t 116) (.t 118))⟩,
        ⟨(some 4), none, (.mov (.t 119))⟩])))))))
    (.region false [] [
       ⟨(some 120), none, (.bin .add 3 (.t 20) (.v (.int .i64 1)))⟩,
       ⟨(some 20), none, (.mov (.t 120))⟩])))))))
  (.seq (.seq (.region false [] [
     ⟨(some 121), none, (.mov (.t 4))⟩,
     ⟨(some 122), none, (.len (.t 121))⟩,
     ⟨(some 123), none, (.bin .neq 3 (.t 122) (.v (.int .i64 1)))⟩])
  (.cond (.t 123)
    (.seq (.region false [] [
       ⟨(some 2), none, (.mov (.v (.int .i64 3)))⟩])
    .ret)
    .skip))
  (.seq (.region false [] [
     ⟨(some 2), none, (.mov (.v (.int .i64 0)))⟩])
  .ret))))))
theorem k35 : FnIs Tryd.prog 35 124 [.t 2] a35 := ⟨_, _, Tryd.func35, rfl, by kernel_rfl, by kernel_rfl, rfl⟩
/- gridhall/interlock.Check -/
def a18 : ACode :=
  (.seq (.region false [] [
     ⟨(some 2), none, (.mov (.v (.int .i64 0)))⟩])
  (.seq (.seq (.region false [] [
     ⟨(some 6), none, (.mov (.t 0))⟩,
     ⟨(some 7), none, (.len (.t 6))⟩,
     ⟨(some 8), none, (.bin .gtr 3 (.t 7) (.v (.int .i64 24)))⟩])
  (.cond (.t 8)
    (.seq (.region false [] [
       ⟨(some 2), none, (.mov (.v (.int .i64 2)))⟩])
    .ret)
    .skip))
  (.seq (.seq (.region false [] [
     ⟨(some 9), none, (.mov (.t 0))⟩,
     ⟨(some 10), none, (.len (.t 9))⟩,
     ⟨(some 11), none, (.mov (.v (.int .i64 0)))⟩])
  (.block 0 (.loop (.seq (.region false [] [
       ⟨(some 12), none, (.bin .lss 3 (.t 11) (.t 10))⟩])
    (.seq (.cond (.t 12)
      .skip
      (.exit 0))
    (.seq (.block 1 (.seq (.region false [] [
        ⟨(some 13), none, (.idx 3 (.t 9) (.t 11))⟩,
        ⟨(some 14), none, (.load 3 true (.t 13))⟩,
        ⟨(some 4), none, (.alloc 24 (.agg #[(.bool false), (.string ⟨#[]⟩), (.slice none 0 0)]))⟩,
        ⟨none, none, (.store 3 (.t 4) (.t 14))⟩])
     (.seq (.seq (.region false [] [
        ⟨(some 15), none, (.fld 1 (.t 4))⟩,
        ⟨(some 16), none, (.load 1 false (.t 15))⟩,
        ⟨(some 17), none, (.call 34 [(.t 16)])⟩,
        ⟨(some 18), none, (.un .not (.t 17))⟩])
     (.cond (.t 18)
       (.seq (.region false [] [
          ⟨(some 2), none, (.mov (.v (.int .i64 6)))⟩])
       .ret)
       .skip))
     (.seq (.region false [] [
        ⟨(some 19), none, (.fld 2 (.t 4))⟩,
        ⟨(some 20), none, (.load 1 false (.t 19))⟩,
        ⟨(some 21), none, (.call 35 [(.t 20)])⟩,
        ⟨(some 5), none, (.mov (.t 21))⟩])
     (.seq (.region false [] [
        ⟨(some 22), none, (.mov (.t 5))⟩,
        ⟨(some 23), none, (.bin .neq 27 (.t 22) (.v (.int .i64 0)))⟩])
     (.cond (.t 23)
       (.seq (.region false [] [
          ⟨(some 24), none, (.mov (.t 5))⟩,
          ⟨(some 2), none, (.mov (.t 24))⟩])
       .ret)
       .skip))))))
    (.region false [] [
       ⟨(some 25), none, (.bin .add 3 (.t 11) (.v (.int .i64 1)))⟩,
       ⟨(some 11), none, (.mov (.t 25))⟩])))))))
  (.seq (.region false [] [
     ⟨(some 2), none, (.mov (.v (.int .i64 0)))⟩])
  .ret))))
theorem k18 : FnIs Tryd.prog 18 26 [.t 2] a18 := ⟨_, _, Tryd.func18, rfl, by kernel_rfl, by kernel_rfl, rfl⟩
/- gridhall/interlock.CheckStates -/
def a20 : ACode :=
  (.seq (.region false [] [
     ⟨(some 2), none, (.mov (.v (.int .i64 0)))⟩])
  (.seq (.seq (.region false [] [
     ⟨(some 5), none, (.mov (.t 0))⟩,
     ⟨(some 6), none, (.len (.t 5))⟩,
     ⟨(some 7), none, (.bin .gtr 3 (.t 6) (.v (.int .i64 32)))⟩])
  (.cond (.t 7)
    (.seq (.region false [] [
       ⟨(some 2), none, (.mov (.v (.int .i64 2)))⟩])
    .ret)
    .skip))
  (.seq (.seq (.region false [] [
     ⟨(some 8), none, (.mov (.t 0))⟩,
     ⟨(some 9), none, (.len (.t 8))⟩,
     ⟨(some 10), none, (.mov (.v (.int .i64 0)))⟩])
  (.block 0 (.loop (.seq (.region false [] [
       ⟨(some 11), none, (.bin .lss 3 (.t 10) (.t 9))⟩])
    (.seq (.cond (.t 11)
      .skip
      (.exit 0))
    (.seq (.block 1 (.seq (.region false [] [
        ⟨(some 12), none, (.mov (.t 10))⟩,
        ⟨(some 13), none, (.idx 2 (.t 8) (.t 10))⟩,
        ⟨(some 14), none, (.load 2 true (.t 13))⟩,
        ⟨(some 4), none, (.alloc 36 (.agg #[(.string ⟨#[]⟩), (.bool false)]))⟩,
        ⟨(some 3), none, (.mov (.t 12))⟩,
        ⟨none, none, (.store 2 (.t 4) (.t 14))⟩])
     (.block 2 (.seq (.region false [] [
         ⟨(some 16), none, (.fld 0 (.t 4))⟩,
         ⟨(some 17), none, (.load 1 false (.t 16))⟩,
         ⟨(some 18), none, (.call 34 [(.t 17)])⟩,
         ⟨(some 19), none, (.un .not (.t 18))⟩,
         ⟨(some 15), none, (.mov (.t 19))⟩])
      (.cond (.t 15)
        (.seq (.region false [] [
           ⟨(some 2), none, (.mov (.v (.int .i64 6)))⟩])
        .ret)
        (.seq (.region false [] [
           ⟨(some 21), none, (.mov (.t 0))⟩,
           ⟨(some 22), none, (.mov (.t 3))⟩,
           ⟨(some 23), none, (.slc 2 (.t 21) none (some (.t 22)) none)⟩,
           ⟨(some 24), none, (.mkfn 37 [(.t 4)])⟩,
           ⟨(some 25), none, (.call 36 [(.t 23), (.t 24)])⟩,
           ⟨(some 20), none, (.mov (.t 25))⟩])
        (.cond (.t 20)
          (.seq (.region false [] [
             ⟨(some 2), none, (.mov (.v (.int .i64 7)))⟩])
          .ret)
          .skip)))))))
    (.region false [] [
       ⟨(some 26), none, (.bin .add 3 (.t 10) (.v (.int .i64 1)))⟩,
       ⟨(some 10), none, (.mov (.t 26))⟩])))))))
  (.seq (.region false [] [
     ⟨(some 2), none, (.mov (.v (.int .i64 0)))⟩])
  .ret))))
theorem k20 : FnIs Tryd.prog 20 27 [.t 2] a20 := ⟨_, _, Tryd.func20, rfl, by kernel_rfl, by kernel_rfl, rfl⟩
/- gridhall/interlock.CheckStates$1 -/
def a37 : ACode :=
  (.seq (.region false [] [
     ⟨(some 2), none, (.box 36 (.t 0))⟩,
     ⟨(some 3), none, (.mov (.v (.bool false)))⟩])
  (.seq (.region false [] [
     ⟨(some 4), none, (.fld 0 (.t 2))⟩,
     ⟨(some 5), none, (.load 1 false (.t 4))⟩,
     ⟨(some 6), none, (.fld 0 (.t 1))⟩,
     ⟨(some 7), none, (.load 1 false (.t 6))⟩,
     ⟨(some 8), none, (.bin .eql 9 (.t 5) (.t 7))⟩,
     ⟨(some 3), none, (.mov (.t 8))⟩])
  .ret))
theorem k37 : FnIs Tryd.prog 37 9 [.t 3] a37 := ⟨_, _, Tryd.func37, rfl, by kernel_rfl, by kernel_rfl, rfl⟩
/- slices.ContainsFunc[[]gridhall/api.InterlockState,gridhall/api.InterlockState] -/
def a36 : ACode :=
  (.seq (.region false [] [
     ⟨(some 4), none, (.mov (.v (.bool false)))⟩])
  (.seq (.region false [] [
     ⟨(some 5), none, (.mov (.t 0))⟩,
     ⟨(some 6), none, (.mov (.t 1))⟩,
     ⟨(some 7), none, (.call 38 [(.t 5), (.t 6)])⟩,
     ⟨(some 8), none, (.bin .geq 3 (.t 7) (.v (.int .i64 0)))⟩,
     ⟨(some 4), none, (.mov (.t 8))⟩])
  .ret))
theorem k36 : FnIs Tryd.prog 36 9 [.t 4] a36 := ⟨_, _, Tryd.func36, rfl, by kernel_rfl, by kernel_rfl, rfl⟩
/- slices.IndexFunc[[]gridhall/api.InterlockState,gridhall/api.InterlockState] -/
def a38 : ACode :=
  (.seq (.region false [] [
     ⟨(some 4), none, (.mov (.v (.int .i64 0)))⟩])
  (.seq (.seq (.region false [] [
     ⟨(some 6), none, (.mov (.t 0))⟩,
     ⟨(some 7), none, (.len (.t 6))⟩,
     ⟨(some 8), none, (.mov (.v (.int .i64 0)))⟩])
  (.block 0 (.loop (.seq (.region false [] [
       ⟨(some 9), none, (.bin .lss 3 (.t 8) (.t 7))⟩])
    (.seq (.cond (.t 9)
      .skip
      (.exit 0))
    (.seq (.block 1 (.seq (.region false [] [
        ⟨(some 10), none, (.mov (.t 8))⟩,
        ⟨(some 5), none, (.mov (.t 10))⟩])
     (.seq (.region false [] [
        ⟨(some 11), none, (.mov (.t 1))⟩,
        ⟨(some 12), none, (.mov (.t 0))⟩,
        ⟨(some 13), none, (.mov (.t 5))⟩,
        ⟨(some 14), none, (.idx 2 (.t 12) (.t 13))⟩,
        ⟨(some 15), none, (.load 2 true (.t 14))⟩,
        ⟨(some 16), none, (.callv (.t 11) [(.t 15)])⟩])
     (.cond (.t 16)
       (.seq (.region false [] [
          ⟨(some 17), none, (.mov (.t 5))⟩,
          ⟨(some 4), none, (.mov (.t 17))⟩])
       .ret)
       .skip))))
    (.region false [] [
       ⟨(some 18), none, (.bin .add 3 (.t 8) (.v (.int .i64 1)))⟩,
       ⟨(some 8), none, (.mov (.t 18))⟩])))))))
  (.seq (.region false [] [
     ⟨(some 4), none, (.mov (.v (.int .i64 (-1))))⟩])
  .ret)))
theorem k38 : FnIs Tryd.prog 38 19 [.t 4] a38 := ⟨_, _, Tryd.func38, rfl, by kernel_rfl, by kernel_rfl, rfl⟩
/- gridhall/interlock.find -/
def a21 : ACode :=
  (.seq (.region false [] [
     ⟨(some 3), none, (.box 9 (.t 1))⟩,
     ⟨(some 4), none, (.mov (.v (.int .i64 0)))⟩])
  (.seq (.region false [] [
     ⟨(some 5), none, (.mov (.t 0))⟩,
     ⟨(some 6), none, (.mkfn 39 [(.t 3)])⟩,
     ⟨(some 7), none, (.call 38 [(.t 5), (.t 6)])⟩,
     ⟨(some 4), none, (.mov (.t 7))⟩])
  .ret))
theorem k21 : FnIs Tryd.prog 21 8 [.t 4] a21 := ⟨_, _, Tryd.func21, rfl, by kernel_rfl, by kernel_rfl, rfl⟩
/- gridhall/interlock.find$1 -/
def a39 : ACode :=
  (.seq (.region false [] [
     ⟨(some 2), none, (.box 36 (.t 0))⟩,
     ⟨(some 3), none, (.mov (.v (.bool false)))⟩])
  (.seq (.region false [] [
     ⟨(some 4), none, (.fld 0 (.t 2))⟩,
     ⟨(some 5), none, (.load 1 false (.t 4))⟩,
     ⟨(some 6), none, (.load 1 false (.t 1))⟩,
     ⟨(some 7), none, (.bin .eql 9 (.t 5) (.t 6))⟩,
     ⟨(some 3), none, (.mov (.t 7))⟩])
  .ret))
theorem k39 : FnIs Tryd.prog 39 8 [.t 3] a39 := ⟨_, _, Tryd.func39, rfl, by kernel_rfl, by kernel_rfl, rfl⟩
/- slices.Clone[[]gridhall/api.InterlockState,gridhall/api.InterlockState] -/
def a22 : ACode :=
  (.seq (.region false [] [
     ⟨(some 2), none, (.mov (.v (.slice none 0 0)))⟩])
  (.seq (.seq (.region false [] [
     ⟨(some 3), none, (.mov (.t 0))⟩,
     ⟨(some 4), none, (.nilS false (.t 3))⟩])
  (.cond (.t 4)
    (.seq (.region false [] [
       ⟨(some 2), none, (.mov (.v (.slice none 0 0)))⟩])
    .ret)
    .skip))
  (.seq (.region false [] [
     ⟨(some 5), none, (.bsl 36 2 0 [])⟩,
     ⟨(some 6), none, (.mov (.t 0))⟩,
     ⟨(some 7), none, (.app 36 2 24 (.agg #[(.string ⟨#[]⟩), (.bool false)]) (.t 5) (.t 6))⟩,
     ⟨(some 2), none, (.mov (.t 7))⟩])
  .ret)))
theorem k22 : FnIs Tryd.prog 22 8 [.t 2] a22 := ⟨_, _, Tryd.func22, rfl, by kernel_rfl, by kernel_rfl, rfl⟩

structure Nod where
  kind : Int
  name : ByteArray
  a : Int
  b : Int
instance : Inhabited Nod := ⟨⟨0, ⟨#[]⟩, 0, 0⟩⟩
abbrev nc (x : Nod) : List AV := [I x.kind, S x.name, I x.a, I x.b]
structure Rul where
  close : Bool
  sw : ByteArray
  nl : Option Bool
  fl : Bool
  cond : List Nod
instance : Inhabited Rul := ⟨⟨false, ⟨#[]⟩, none, false, []⟩⟩
abbrev rlc (r : Rul) : List AV := [B r.close, S r.sw, .imm r.nl r.fl 4 (r.cond.map nc)]
structure Sta where
  name : ByteArray
  closed : Bool
instance : Inhabited Sta := ⟨⟨⟨#[]⟩, false⟩⟩
abbrev stc (s : Sta) : List AV := [S s.name, B s.closed]
abbrev sta (s : Sta) : AV := .agg (stc s)
abbrev ic (n : Int) : List AV := [I n]
set_option maxRecDepth 20000 in
theorem s34 (x : ByteArray) (hx : x.size ≤ 9223372036854775807) : Aw.Spec Tryd.prog 34 [] [S x] (Gives (· = B (nm 8 x))) := by
  refine Aw.Spec.givesD k34 mixed rfl rfl rfl fun E hn hnp hp => ?_
  unfold a34
  simp (config := { maxSteps := 2000000 }) only [go_sem, ↓reduceIte, Int.reduceToNat, Nat.reduceMul, Int.reduceBEq, Int.reduceBNe, Nat.reduceBEq, Nat.reduceAdd, Nat.reduceSub, Nat.reduceLeDiff, Nat.reduceEqDiff, Nat.reduceLT, reduceCtorEq]
  have hsz : x.data.toList.length = x.size := by rw [Array.length_toList]; rfl
  refine AWp.loop (fun k s => ∃ i : Nat, i + k = x.data.toList.length ∧ nmOk 0 x.data.toList = nmOk i (x.data.toList.drop i) ∧ Weak E s ⟨[(0, S x), (6, .imm (some false) false 1 (x.data.toList.map fun c => [.val (.int .u8 c.toNat)])), (7, I x.data.toList.length), (8, I i)], []⟩) (n := x.data.toList.length)
    ⟨0, by omega, rfl, weak_to [] hp hnp rfl ⟨rfl, rfl, rfl, rfl, trivial⟩ rfl⟩ ?_
  rintro k s ⟨i, hi, hs, hw⟩
  refine AWp.weak hw (AWp.ofD [] [] hn mixed rfl ?_)
  rcases Nat.lt_or_ge i x.data.toList.length with hlt | hge
  · have e0 : decide ((i : Int) < (x.data.toList.length : Int)) = true := by simp; omega
    have e1 := getD_map (fun c : UInt8 => [.val (.int .u8 c.toNat)]) hlt
    have e2 : IntKind.i64.wrap ((i : Int) + 1) = ((i + 1 : Nat) : Int) := by rw [w64 (by omega) (by omega)]; omega
    have e3 : decide ((0 : Int) < (i : Int)) = decide (0 < i) := by simp
    simp (config := { maxSteps := 2000000 }) only [go_sem, ↓reduceIte, Int.reduceToNat, Nat.reduceMul, Int.reduceBEq, Int.reduceBNe, Nat.reduceBEq, Nat.reduceAdd, Nat.reduceSub, Nat.reduceLeDiff, Nat.reduceEqDiff, Nat.reduceLT, reduceCtorEq, e0, e1, e2, ge_iff_le, gt_iff_lt, e3]
    rw [nmOk_drop hlt] at hs
    generalize (decide ((65 : Int) ≤ x.data.toList[i].toNat) && decide ((x.data.toList[i].toNat : Int) ≤ 90)) = A at *
    generalize decide ((48 : Int) ≤ x.data.toList[i].toNat) = C at *
    generalize decide ((x.data.toList[i].toNat : Int) ≤ 57) = D at *
    generalize decide (0 < i) = F at *
    refine ⟨⟨by omega, by omega⟩, ?_, ?_, fun h => ?_, fun h => ?_⟩
    · exact (by decide : ∀ A F : Bool, A = false → A = false ∧ (F = true → (!A && F) = true)) A F
    · exact (by decide : ∀ A F C : Bool, A = false → A = false ∧ ((F && C) = true → (!A && (F && C)) = true)) A F C
    · have h' : (A || F && C && D) = false := by simpa using h
      unfold nm
      rw [hs, h']; rfl
    · have h' : (A || F && C && D) = true := by
        cases hX : (A || F && C && D) with
        | true => rfl
        | false => rw [hX] at h; cases h
      rw [h', Bool.true_and] at hs
      exact ⟨k - 1, by omega, i + 1, by omega, hs, weak_to [] hp hnp rfl (by simp (config := { maxSteps := 2000000 }) only [go_sem, ↓reduceIte, Int.reduceToNat, Nat.reduceMul, Int.reduceBEq, Int.reduceBNe, Nat.reduceBEq, Nat.reduceAdd, Nat.reduceSub, Nat.reduceLeDiff, Nat.reduceEqDiff, Nat.reduceLT, reduceCtorEq]) rfl⟩
  · have e0 : decide ((i : Int) < (x.data.toList.length : Int)) = false := by simp; omega
    simp (config := { maxSteps := 2000000 }) only [go_sem, ↓reduceIte, Int.reduceToNat, Nat.reduceMul, Int.reduceBEq, Int.reduceBNe, Nat.reduceBEq, Nat.reduceAdd, Nat.reduceSub, Nat.reduceLeDiff, Nat.reduceEqDiff, Nat.reduceLT, reduceCtorEq, e0]
    unfold nm
    rw [hs, List.drop_of_length_le hge]
    simp only [nmOk, Bool.true_and]

theorem s38 (nl fl) (l : List (Sta)) (g : FuncId) (caps : List AV) (p : Sta → Bool) (hg : fnOk Tryd.prog g = true) (hc : renL [] caps = caps) (hq : ∀ x ∈ l, Aw.Spec Tryd.prog g [] ((sta) x :: caps) (Gives (· = B (p x)))) (hl : l.length ≤ 9223372036854775807) :
    Aw.Spec Tryd.prog 38 [] [.imm nl fl 2 (l.map stc), .fn g caps] (Gives (· = I (fIndex p 0 l))) := by
  refine Aw.Spec.givesD k38 mixed rfl rfl rfl fun E hn hnp hp => ?_
  unfold a38
  simp (config := { maxSteps := 2000000 }) only [go_sem, ↓reduceIte, Int.reduceToNat, Nat.reduceMul, Int.reduceBEq, Int.reduceBNe, Nat.reduceBEq, Nat.reduceAdd, Nat.reduceSub, Nat.reduceLeDiff, Nat.reduceEqDiff, Nat.reduceLT, reduceCtorEq]
  refine AWp.loop (fun k s => ∃ i : Nat, i + k = l.length ∧ fIndex p 0 l = fIndex p i (l.drop i) ∧ Weak E s ⟨[(0, .imm nl fl 2 (l.map stc)), (1, .fn g caps), (7, I l.length), (8, I i)], []⟩) (n := l.length)
    ⟨0, by omega, rfl, weak_to [] hp hnp rfl (by simp (config := { maxSteps := 2000000 }) only [go_sem, ↓reduceIte, Int.reduceToNat, Nat.reduceMul, Int.reduceBEq, Int.reduceBNe, Nat.reduceBEq, Nat.reduceAdd, Nat.reduceSub, Nat.reduceLeDiff, Nat.reduceEqDiff, Nat.reduceLT, reduceCtorEq, hc, Int.natCast_zero]) rfl⟩ ?_
  rintro k s ⟨i, hi, hs, hw⟩
  refine AWp.weak hw (AWp.ofD [] [] hn mixed rfl ?_)
  rcases Nat.lt_or_ge i l.length with hlt | hge
  · have e0 : decide ((i : Int) < (l.length : Int)) = true := decide_eq_true (by omega)
    have e1 := getD_map stc hlt
    have e2 : IntKind.i64.wrap ((i : Int) + 1) = ((i + 1 : Nat) : Int) := by rw [w64 (by omega) (by omega)]; omega
    have h2 := hq _ (List.getElem_mem hlt)
    rw [fIndex_drop hlt] at hs
    generalize l[i] = x at e1 h2 hs
    simp (config := { maxSteps := 2000000 }) only [go_sem, ↓reduceIte, Int.reduceToNat, Nat.reduceMul, Int.reduceBEq, Int.reduceBNe, Nat.reduceBEq, Nat.reduceAdd, Nat.reduceSub, Nat.reduceLeDiff, Nat.reduceEqDiff, Nat.reduceLT, reduceCtorEq, e0, e1]
    (repeat (refine And.intro (by first | omega | (refine ⟨by omega, by omega⟩) | (refine ⟨by omega, by omega, by omega⟩) | (simp only [List.length_map, List.length_range, List.length_append, List.length_cons, List.length_nil, List.length_replicate, List.length_set]; omega) | (simp; omega) | (intro hgd; cases hgd) | (intro hgd; refine ⟨hgd, ?_⟩; first | omega | (refine ⟨by omega, by omega⟩) | (simp; omega))) ?_))
    refine AWpL.callv rfl hg (by rw [← hc] at h2; exact h2) (by rw [hn]; rfl) fun rg v hv => ?_
    obtain ⟨rfl, rfl⟩ := hv
    rw [retS_nil]
    refine AWpL.ofM hn rfl ?_
    simp (config := { maxSteps := 2000000 }) only [go_sem, ↓reduceIte, Int.reduceToNat, Nat.reduceMul, Int.reduceBEq, Int.reduceBNe, Nat.reduceBEq, Nat.reduceAdd, Nat.reduceSub, Nat.reduceLeDiff, Nat.reduceEqDiff, Nat.reduceLT, reduceCtorEq, e2]
    refine ⟨fun h => ?_, fun h => ?_⟩
    · rw [hs, if_pos h]
    · rw [if_neg (by simp [h])] at hs
      exact ⟨k - 1, by omega, i + 1, by omega, hs, weak_to [] hp hnp rfl (by simp (config := { maxSteps := 2000000 }) only [go_sem, ↓reduceIte, Int.reduceToNat, Nat.reduceMul, Int.reduceBEq, Int.reduceBNe, Nat.reduceBEq, Nat.reduceAdd, Nat.reduceSub, Nat.reduceLeDiff, Nat.reduceEqDiff, Nat.reduceLT, reduceCtorEq, hc]) rfl⟩
  · have e0 : decide ((i : Int) < (l.length : Int)) = false := decide_eq_false (by omega)
    simp (config := { maxSteps := 2000000 }) only [go_sem, ↓reduceIte, Int.reduceToNat, Nat.reduceMul, Int.reduceBEq, Int.reduceBNe, Nat.reduceBEq, Nat.reduceAdd, Nat.reduceSub, Nat.reduceLeDiff, Nat.reduceEqDiff, Nat.reduceLT, reduceCtorEq, e0]
    rw [hs, List.drop_of_length_le hge]
    rfl

theorem s36 (nl fl) (l : List (Sta)) (g : FuncId) (caps : List AV) (p : Sta → Bool) (hg : fnOk Tryd.prog g = true) (hc : renL [] caps = caps) (hb : caps.map (borA 3 ⟨[], []⟩) = caps) (hq : ∀ x ∈ l, Aw.Spec Tryd.prog g [] ((sta) x :: caps) (Gives (· = B (p x)))) (hl : l.length ≤ 9223372036854775807) :
    Aw.Spec Tryd.prog 36 [] [.imm nl fl 2 (l.map stc), .fn g caps] (Gives (· = B (l.any p))) := by
  refine Aw.Spec.givesD k36 mixed rfl rfl rfl fun E hn hnp hp => ?_
  unfold a36
  simp (config := { maxSteps := 2000000 }) only [go_sem, ↓reduceIte, Int.reduceToNat, Nat.reduceMul, Int.reduceBEq, Int.reduceBNe, Nat.reduceBEq, Nat.reduceAdd, Nat.reduceSub, Nat.reduceLeDiff, Nat.reduceEqDiff, Nat.reduceLT, reduceCtorEq]
  refine AWpL.callA [] (s38 nl fl l g caps p hg hc hq hl) rfl (by simp (config := { maxSteps := 2000000 }) only [go_sem, ↓reduceIte, Int.reduceToNat, Nat.reduceMul, Int.reduceBEq, Int.reduceBNe, Nat.reduceBEq, Nat.reduceAdd, Nat.reduceSub, Nat.reduceLeDiff, Nat.reduceEqDiff, Nat.reduceLT, reduceCtorEq, hc]) (by rw [hn]; rfl) rfl (fun r hr => by cases hr) fun rg v hv => ?_
  obtain ⟨rfl, rfl⟩ := hv
  refine ⟨Nat.le_refl _, ?_⟩
  rw [retS_nil]
  refine AWpL.ofM hn rfl ?_
  simp (config := { maxSteps := 2000000 }) only [go_sem, ↓reduceIte, Int.reduceToNat, Nat.reduceMul, Int.reduceBEq, Int.reduceBNe, Nat.reduceBEq, Nat.reduceAdd, Nat.reduceSub, Nat.reduceLeDiff, Nat.reduceEqDiff, Nat.reduceLT, reduceCtorEq]
  rw [fIndex_any]

theorem o22 (nl full) (l : List (Sta)) (hl : l.length ≤ 1000000) : Aw.Spec Tryd.prog 22 [] [.imm nl full 2 (l.map stc)] (fun rg x => rg = [.arr 36 2 (l.map stc)] ∧ x = .hnd 0 0 l.length l.length false) := by
  refine Aw.Spec.nil1 fun b _ hb => ?_
  refine Aw.Spec.regsD k22 mixed rfl rfl rfl fun E hn hnp hp => ?_
  unfold a22
  simp (config := { maxSteps := 2000000 }) only [go_sem, ↓reduceIte, Int.reduceToNat, Nat.reduceMul, Int.reduceBEq, Int.reduceBNe, Nat.reduceBEq, Nat.reduceAdd, Nat.reduceSub, Nat.reduceLeDiff, Nat.reduceEqDiff, Nat.reduceLT, reduceCtorEq]
  refine ⟨fun h => ?_, fun h => ?_⟩
  · have hl0 : l = [] := by simpa using hb h
    subst hl0
    refine Retn.weak (weak_nil 2 36 2 (by rfl)) _ (Retn.ret (π := [0]) hp hnp ⟨rfl, ?_⟩)
    simp (config := { maxSteps := 2000000 }) only [go_sem, ↓reduceIte, Int.reduceToNat, Nat.reduceMul, Int.reduceBEq, Int.reduceBNe, Nat.reduceBEq, Nat.reduceAdd, Nat.reduceSub, Nat.reduceLeDiff, Nat.reduceEqDiff, Nat.reduceLT, reduceCtorEq, Aw.resAVs, Aw.resAV, Aw.renR, Aw.pos]
    all_goals (try exact ⟨rfl, rfl⟩)
  · refine AWpL.app (r := 0) (els := []) rfl rfl rfl rfl (by rw [hn]; rfl) rfl (hp.none hnp (Nat.zero_le _)) trivial (fun el hm x hx => ?_) (by simp; omega) (by simp; omega) (AWpL.ofM hn rfl ?_)
    · obtain ⟨y, _, rfl⟩ := List.mem_map.1 hm
      simp only [List.mem_cons, List.not_mem_nil, or_false] at hx
      first | (subst hx; rfl) | (rcases hx with rfl | rfl; all_goals rfl) | (rcases hx with rfl | rfl | rfl; all_goals rfl) | (rcases hx with rfl | rfl | rfl | rfl; all_goals rfl) | (rcases hx with rfl | rfl | rfl | rfl | rfl; all_goals rfl) | (rcases hx with rfl | rfl | rfl | rfl | rfl | rfl; all_goals rfl)
    simp (config := { maxSteps := 2000000 }) only [go_sem, ↓reduceIte, Int.reduceToNat, Nat.reduceMul, Int.reduceBEq, Int.reduceBNe, Nat.reduceBEq, Nat.reduceAdd, Nat.reduceSub, Nat.reduceLeDiff, Nat.reduceEqDiff, Nat.reduceLT, reduceCtorEq, Aw.killS, Aw.mapT, Aw.mapR, Aw.killM]
    refine Retn.ret (π := [0]) hp hnp ⟨rfl, ?_⟩
    simp (config := { maxSteps := 2000000 }) only [go_sem, ↓reduceIte, Int.reduceToNat, Nat.reduceMul, Int.reduceBEq, Int.reduceBNe, Nat.reduceBEq, Nat.reduceAdd, Nat.reduceSub, Nat.reduceLeDiff, Nat.reduceEqDiff, Nat.reduceLT, reduceCtorEq, Aw.resAVs, Aw.resAV, Aw.renR, Aw.pos]
    all_goals (try exact ⟨rfl, rfl⟩)

theorem s22 (nl full) (l : List (Sta)) (hl : l.length ≤ 1000000) : Aw.Spec Tryd.prog 22 [] [.imm nl full 2 (l.map stc)] (fun rg x => rg = [] ∧ x = .imm none false 2 (l.map stc)) := by
  refine Aw.Spec.nil1 fun b _ hb => ?_
  refine Aw.Spec.regsD k22 mixed rfl rfl rfl fun E hn hnp hp => ?_
  unfold a22
  simp (config := { maxSteps := 2000000 }) only [go_sem, ↓reduceIte, Int.reduceToNat, Nat.reduceMul, Int.reduceBEq, Int.reduceBNe, Nat.reduceBEq, Nat.reduceAdd, Nat.reduceSub, Nat.reduceLeDiff, Nat.reduceEqDiff, Nat.reduceLT, reduceCtorEq]
  refine ⟨fun h => ?_, fun h => ?_⟩
  · have hl0 : l = [] := by simpa using hb h
    subst hl0
    refine Retn.weak (weak_ent 2 (by rfl) (Ent.ofnil0 2)) _ (Retn.ret (π := []) hp hnp ⟨rfl, ?_⟩)
    simp (config := { maxSteps := 2000000 }) only [go_sem, ↓reduceIte, Int.reduceToNat, Nat.reduceMul, Int.reduceBEq, Int.reduceBNe, Nat.reduceBEq, Nat.reduceAdd, Nat.reduceSub, Nat.reduceLeDiff, Nat.reduceEqDiff, Nat.reduceLT, reduceCtorEq, Aw.resAVs, Aw.resAV]
    all_goals (try exact ⟨rfl, rfl⟩)
  · refine AWpL.app (r := 0) (els := []) rfl rfl rfl rfl (by rw [hn]; rfl) rfl (hp.none hnp (Nat.zero_le _)) trivial (fun el hm x hx => ?_) (by simp; omega) (by simp; omega) (AWpL.ofM hn rfl ?_)
    · obtain ⟨y, _, rfl⟩ := List.mem_map.1 hm
      simp only [List.mem_cons, List.not_mem_nil, or_false] at hx
      first | (subst hx; rfl) | (rcases hx with rfl | rfl; all_goals rfl) | (rcases hx with rfl | rfl | rfl; all_goals rfl) | (rcases hx with rfl | rfl | rfl | rfl; all_goals rfl) | (rcases hx with rfl | rfl | rfl | rfl | rfl; all_goals rfl) | (rcases hx with rfl | rfl | rfl | rfl | rfl | rfl; all_goals rfl)
    simp (config := { maxSteps := 2000000 }) only [go_sem, ↓reduceIte, Int.reduceToNat, Nat.reduceMul, Int.reduceBEq, Int.reduceBNe, Nat.reduceBEq, Nat.reduceAdd, Nat.reduceSub, Nat.reduceLeDiff, Nat.reduceEqDiff, Nat.reduceLT, reduceCtorEq, Aw.killS, Aw.mapT, Aw.mapR, Aw.killM]
    refine Retn.weak (weak_freeze 0 rfl (hp.none hnp (Nat.zero_le _)) ?_) _ ?_
    · simp (config := { maxSteps := 2000000 }) only [go_sem, ↓reduceIte, Int.reduceToNat, Nat.reduceMul, Int.reduceBEq, Int.reduceBNe, Nat.reduceBEq, Nat.reduceAdd, Nat.reduceSub, Nat.reduceLeDiff, Nat.reduceEqDiff, Nat.reduceLT, reduceCtorEq, Nat.le_refl]
    refine Retn.weak (weak_ent 2 (by rfl) (Ent.plain _ _ _ _)) _ (Retn.ret (π := []) hp hnp ⟨rfl, ?_⟩)
    simp (config := { maxSteps := 2000000 }) only [go_sem, ↓reduceIte, Int.reduceToNat, Nat.reduceMul, Int.reduceBEq, Int.reduceBNe, Nat.reduceBEq, Nat.reduceAdd, Nat.reduceSub, Nat.reduceLeDiff, Nat.reduceEqDiff, Nat.reduceLT, reduceCtorEq]
    first | (exact ⟨rfl, by rw [List.take_of_length_le (by simp)]⟩) | (rw [List.take_of_length_le (by simp)])

def arF (k : Int) : Int × Bool := if k = 0 ∨ k = 1 then (0, false) else if k = 2 ∨ k = 3 then (0, true) else if k = 4 then (1, false) else if k = 5 ∨ k = 6 then (2, false) else (-1, false)
theorem s44 (k : Int) : Aw.Spec Tryd.prog 44 [] [I k] (Gives (· = .tup [I (arF k).1, B (arF k).2])) := by
  refine Aw.Spec.givesD k44 mixed rfl rfl rfl fun E hn hnp hp => ?_
  unfold a44
  simp (config := { maxSteps := 2000000 }) only [go_sem, ↓reduceIte, Int.reduceToNat, Nat.reduceMul, Int.reduceBEq, Int.reduceBNe, Nat.reduceBEq, Nat.reduceAdd, Nat.reduceSub, Nat.reduceLeDiff, Nat.reduceEqDiff, Nat.reduceLT, reduceCtorEq]
  simp only [beq_iff_eq, beq_eq_false_iff_ne]
  unfold arF
  rcases Decidable.em (k = 0) with rfl | h0
  · simp
  rcases Decidable.em (k = 1) with rfl | h1
  · simp
  rcases Decidable.em (k = 2) with rfl | h2
  · simp
  rcases Decidable.em (k = 3) with rfl | h3
  · simp
  rcases Decidable.em (k = 4) with rfl | h4
  · simp
  rcases Decidable.em (k = 5) with rfl | h5
  · simp
  rcases Decidable.em (k = 6) with rfl | h6
  · simp
  simp [h0, h1, h2, h3, h4, h5, h6]
theorem arF_cases (k : Int) : arF k = (0, false) ∨ arF k = (0, true) ∨ arF k = (1, false) ∨ arF k = (2, false) ∨ arF k = (-1, false) := by
  unfold arF
  repeat' split
  all_goals simp
/-- The error of a node, where these trees are open. -/
def nodE (st : List Int) (x : Nod) : Int :=
  if (arF x.kind).1 < 0 then 1
  else if (arF x.kind).2 = true ∧ nm 8 x.name = false then 6
  else if ((arF x.kind).2 = false ∧ ¬ x.name.toList = []) ∨ ((arF x.kind).1 < 1 ∧ x.a ≠ 0) ∨ ((arF x.kind).1 < 2 ∧ x.b ≠ 0) ∨ (st.length : Int) < (arF x.kind).1 then 3
  else if ((arF x.kind).1 = 1 ∧ x.a ≠ st.getD (st.length - 1) 0) ∨ ((arF x.kind).1 = 2 ∧ (x.a ≠ st.getD (st.length - 2) 0 ∨ x.b ≠ st.getD (st.length - 1) 0)) then 3 else 0
def nodS (st : List Int) (k : Nat) (x : Nod) : List Int := st.take (st.length - (arF x.kind).1.toNat) ++ [(k : Int)]
def condGo : Nat → List Int → List Nod → Int
  | _, st, [] => if st.length = 1 then 0 else 3
  | k, st, x :: l => if nodE st x ≠ 0 then nodE st x else condGo (k + 1) (nodS st k x) l
def condF (l : List Nod) : Int := if 40 < l.length then 2 else if l.length = 0 then 3 else condGo 0 [] l
theorem condGo_drop {l : List Nod} {j k : Nat} {st : List Int} (h : j < l.length) : condGo k st (l.drop j) = if nodE st l[j] ≠ 0 then nodE st l[j] else condGo (k + 1) (nodS st k l[j]) (l.drop (j + 1)) := by
  rw [List.drop_eq_getElem_cons h]; rfl
set_option maxRecDepth 20000 in
set_option maxHeartbeats 1000000 in
theorem s35 (nl fl) (l : List Nod) (hs : ∀ x ∈ l, x.name.size ≤ 9223372036854775807) : Aw.Spec Tryd.prog 35 [] [.imm nl fl 4 (l.map nc)] (Gives (· = I (condF l))) := by
  refine Aw.Spec.givesD k35 mixed rfl rfl rfl fun E hn hnp hp => ?_
  unfold a35
  have pin : ∀ r, E.pin r = none := fun r => hp.none hnp (Nat.zero_le _)
  simp (config := { maxSteps := 2000000 }) only [go_sem, ↓reduceIte, Int.reduceToNat, Nat.reduceMul, Int.reduceBEq, Int.reduceBNe, Nat.reduceBEq, Nat.reduceAdd, Nat.reduceSub, Nat.reduceLeDiff, Nat.reduceEqDiff, Nat.reduceLT, reduceCtorEq]
  simp only [decide_eq_true_eq, decide_eq_false_iff_not, beq_iff_eq, beq_eq_false_iff_ne]
  unfold condF
  refine ⟨fun h => ?_, fun h => ⟨fun h2 => ?_, fun h2 => ?_⟩⟩
  · rw [if_pos (by omega)]
  · rw [if_neg (by omega), if_pos (by omega)]
  rw [if_neg (by omega), if_neg (by omega)]
  refine AWp.weak (weak_nil 4 3 1 rfl) ?_
  simp (config := { maxSteps := 2000000 }) only [go_sem, ↓reduceIte, Int.reduceToNat, Nat.reduceMul, Int.reduceBEq, Int.reduceBNe, Nat.reduceBEq, Nat.reduceAdd, Nat.reduceSub, Nat.reduceLeDiff, Nat.reduceEqDiff, Nat.reduceLT, reduceCtorEq]
  refine AWp.loop (fun k s => ∃ (i : Nat) (st : List Int), i + k = l.length ∧ condGo 0 [] l = condGo i st (l.drop i) ∧ st.length ≤ i ∧ Weak E s ⟨[(4, .hnd 0 0 st.length st.length false), (18, .imm nl fl 4 (l.map nc)), (19, I l.length), (20, I i)], [.arr 3 1 (st.map ic)]⟩) (n := l.length)
    ⟨0, [], by omega, rfl, Nat.le_refl _, weak_to [0] hp hnp rfl (by simp (config := { maxSteps := 2000000 }) only [go_sem, ↓reduceIte, Int.reduceToNat, Nat.reduceMul, Int.reduceBEq, Int.reduceBNe, Nat.reduceBEq, Nat.reduceAdd, Nat.reduceSub, Nat.reduceLeDiff, Nat.reduceEqDiff, Nat.reduceLT, reduceCtorEq, Aw.pos, Int.natCast_zero]) (by simp (config := { maxSteps := 2000000 }) only [go_sem, ↓reduceIte, Int.reduceToNat, Nat.reduceMul, Int.reduceBEq, Int.reduceBNe, Nat.reduceBEq, Nat.reduceAdd, Nat.reduceSub, Nat.reduceLeDiff, Nat.reduceEqDiff, Nat.reduceLT, reduceCtorEq, Aw.renR, Aw.pos])⟩ ?_
  rintro k s ⟨i, st, hik, hc, hst, hw⟩
  refine AWp.weak hw (AWp.ofD [999] [] hn mixed rfl ?_)
  rcases Nat.lt_or_ge i l.length with hlt | hge
  · have e0 : decide ((i : Int) < (l.length : Int)) = true := decide_eq_true (by omega)
    have e1 := getD_map nc hlt
    have e2 : IntKind.i64.wrap ((i : Int) + 1) = ((i + 1 : Nat) : Int) := by rw [w64 (by omega) (by omega)]; omega
    have hx := hs _ (List.getElem_mem hlt)
    rw [condGo_drop hlt] at hc
    generalize l[i] = x at e1 hx hc
    simp (config := { maxSteps := 2000000 }) only [go_sem, ↓reduceIte, Int.reduceToNat, Nat.reduceMul, Int.reduceBEq, Int.reduceBNe, Nat.reduceBEq, Nat.reduceAdd, Nat.reduceSub, Nat.reduceLeDiff, Nat.reduceEqDiff, Nat.reduceLT, reduceCtorEq, e0, e1]
    (repeat (refine And.intro (by first | omega | (refine ⟨by omega, by omega⟩) | (refine ⟨by omega, by omega, by omega⟩) | (simp only [List.length_map, List.length_range, List.length_append, List.length_cons, List.length_nil, List.length_replicate, List.length_set]; omega) | (simp; omega) | (intro hgd; cases hgd) | (intro hgd; refine ⟨hgd, ?_⟩; first | omega | (refine ⟨by omega, by omega⟩) | (simp; omega))) ?_))
    (refine AWpL.calle (s44 x.kind) rfl (by rw [hn]; rfl) (by simp (config := { maxSteps := 2000000 }) only [go_sem, ↓reduceIte, Int.reduceToNat, Nat.reduceMul, Int.reduceBEq, Int.reduceBNe, Nat.reduceBEq, Nat.reduceAdd, Nat.reduceSub, Nat.reduceLeDiff, Nat.reduceEqDiff, Nat.reduceLT, reduceCtorEq]) (AWpL.ofM hn rfl ?_); simp (config := { maxSteps := 2000000 }) only [go_sem, ↓reduceIte, Int.reduceToNat, Nat.reduceMul, Int.reduceBEq, Int.reduceBNe, Nat.reduceBEq, Nat.reduceAdd, Nat.reduceSub, Nat.reduceLeDiff, Nat.reduceEqDiff, Nat.reduceLT, reduceCtorEq])
    have hnil : ∀ y : ByteArray, (y.toList == (⟨#[]⟩ : ByteArray).toList) = decide (y.toList = []) := fun y => by
      have hb : (⟨#[]⟩ : ByteArray).toList = [] := by decide +kernel
      rw [hb]
      cases y.toList <;> rfl
    have hend : ∀ e, nodE st x = e → e ≠ 0 → condGo 0 [] l = e := fun e h h0 => by rw [hc, h, if_pos h0]
    have hgo : nodE st x = 0 → condGo 0 [] l = condGo (i + 1) (nodS st i x) (l.drop (i + 1)) := fun h => by rw [hc, if_neg (by simp [h])]
    rcases arF_cases x.kind with ha | ha | ha | ha | ha
    · have hk : nodS st i x = st.take (st.length - 0) ++ [(i : Int)] := by unfold nodS; rw [ha]; rfl
      have hN : nodE st x = if ((¬ x.name.toList = [] ∨ ¬ x.a = 0) ∨ ¬ x.b = 0) ∨ (st.length : Int) < 0 then 3 else if False then 3 else 0 := by
        unfold nodE; rw [ha]; simp [or_assoc]
      rw [ha]
      simp (config := { maxSteps := 2000000 }) only [go_sem, ↓reduceIte, Int.reduceToNat, Nat.reduceMul, Int.reduceBEq, Int.reduceBNe, Nat.reduceBEq, Nat.reduceAdd, Nat.reduceSub, Nat.reduceLeDiff, Nat.reduceEqDiff, Nat.reduceLT, reduceCtorEq, Int.reduceLT, Int.reduceNeg, decide_false, decide_true, hnil, Int.reduceBEq, Int.reduceBNe]
      refine AWpL.gcalle (b := false) (y := B false) rfl (fun h => by cases h) rfl (by rw [hn]; rfl) (fun h => by cases h) (AWpL.ofM hn rfl ?_)
      simp (config := { maxSteps := 2000000 }) only [go_sem, ↓reduceIte, Int.reduceToNat, Nat.reduceMul, Int.reduceBEq, Int.reduceBNe, Nat.reduceBEq, Nat.reduceAdd, Nat.reduceSub, Nat.reduceLeDiff, Nat.reduceEqDiff, Nat.reduceLT, reduceCtorEq, Int.reduceLT, Int.reduceNeg, decide_false, decide_true, hnil, Int.reduceBEq, Int.reduceBNe]
      simp only [Bool.or_eq_true, Bool.or_eq_false_iff, Bool.not_eq_true', decide_eq_true_eq, decide_eq_false_iff_not, Bool.not_eq_false', bne_iff_ne, bne_eq_false_iff_eq, ne_eq]
      refine ⟨fun h => ?_, fun h => ?_⟩
      · rw [hend 3 (by rw [hN, if_pos h]) (by decide)]
      rw [if_neg (by simp only [not_or, Decidable.not_not]; exact h)] at hN
      have hln : 0 ≤ st.length := by have := h.2; omega
      have e9 : IntKind.i64.wrap ((st.length : Int) - 0) = ((st.length - 0 : Nat) : Int) := by rw [w64 (by omega) (by omega)]; omega
      refine AWp.weak (weak_to (tm := [(4, .hnd 0 0 st.length st.length false), (5, I i), (6, .ptr 1 0 0), (7, I 0), (9, I st.length), (18, .imm nl fl 4 (l.map nc)), (19, I l.length), (20, I i)]) (rg := [.arr 3 1 (st.map ic), .box 54 (nc x)]) [0, 1] hp hnp rfl (by simp (config := { maxSteps := 2000000 }) only [go_sem, ↓reduceIte, Int.reduceToNat, Nat.reduceMul, Int.reduceBEq, Int.reduceBNe, Nat.reduceBEq, Nat.reduceAdd, Nat.reduceSub, Nat.reduceLeDiff, Nat.reduceEqDiff, Nat.reduceLT, reduceCtorEq, Aw.pos]) (by simp (config := { maxSteps := 2000000 }) only [go_sem, ↓reduceIte, Int.reduceToNat, Nat.reduceMul, Int.reduceBEq, Int.reduceBNe, Nat.reduceBEq, Nat.reduceAdd, Nat.reduceSub, Nat.reduceLeDiff, Nat.reduceEqDiff, Nat.reduceLT, reduceCtorEq, Aw.renR, Aw.pos])) ?_
      refine AWp.cut ⟨[(4, .hnd 0 0 st.length st.length false), (5, I i), (7, I 0), (9, I st.length), (18, .imm nl fl 4 (l.map nc)), (19, I l.length), (20, I i), (111, B (false))], [.arr 3 1 (st.map ic)]⟩ (AWp.draw mixed ?_) ?_
      · refine AWpQ.upto hn 3 rfl rfl ?_
        simp (config := { maxSteps := 2000000 }) only [go_sem, ↓reduceIte, Int.reduceToNat, Nat.reduceMul, Int.reduceBEq, Int.reduceBNe, Nat.reduceBEq, Nat.reduceAdd, Nat.reduceSub, Nat.reduceLeDiff, Nat.reduceEqDiff, Nat.reduceLT, reduceCtorEq, Int.reduceBEq]
        refine AWpQ.skips hn 78 true 8 (by rfl) rfl ?_
        simp (config := { maxSteps := 2000000 }) only [go_sem, ↓reduceIte, Int.reduceToNat, Nat.reduceMul, Int.reduceBEq, Int.reduceBNe, Nat.reduceBEq, Nat.reduceAdd, Nat.reduceSub, Nat.reduceLeDiff, Nat.reduceEqDiff, Nat.reduceLT, reduceCtorEq]
        refine AWpQ.weak (weak_ent 86 (y := .opt false (B false)) (by rfl) Ent.off) ?_
        refine AWpQ.upto hn 5 rfl rfl ?_
        simp (config := { maxSteps := 2000000 }) only [go_sem, ↓reduceIte, Int.reduceToNat, Nat.reduceMul, Int.reduceBEq, Int.reduceBNe, Nat.reduceBEq, Nat.reduceAdd, Nat.reduceSub, Nat.reduceLeDiff, Nat.reduceEqDiff, Nat.reduceLT, reduceCtorEq, Int.reduceBEq]
        refine AWpQ.skips hn 91 true 9 (by rfl) rfl ?_
        simp (config := { maxSteps := 2000000 }) only [go_sem, ↓reduceIte, Int.reduceToNat, Nat.reduceMul, Int.reduceBEq, Int.reduceBNe, Nat.reduceBEq, Nat.reduceAdd, Nat.reduceSub, Nat.reduceLeDiff, Nat.reduceEqDiff, Nat.reduceLT, reduceCtorEq]
        refine AWpQ.weak (weak_ent 100 (y := .opt false (B false)) (by rfl) Ent.off) ?_
        refine AWpQ.skips hn 100 false 8 (by rfl) rfl ?_
        simp (config := { maxSteps := 2000000 }) only [go_sem, ↓reduceIte, Int.reduceToNat, Nat.reduceMul, Int.reduceBEq, Int.reduceBNe, Nat.reduceBEq, Nat.reduceAdd, Nat.reduceSub, Nat.reduceLeDiff, Nat.reduceEqDiff, Nat.reduceLT, reduceCtorEq]
        refine AWpQ.weak (weak_ent 108 (y := .opt false (B false)) (by rfl) Ent.off) (AWpQ.of hn rfl ?_)
        simp (config := { maxSteps := 2000000 }) only [go_sem, ↓reduceIte, Int.reduceToNat, Nat.reduceMul, Int.reduceBEq, Int.reduceBNe, Nat.reduceBEq, Nat.reduceAdd, Nat.reduceSub, Nat.reduceLeDiff, Nat.reduceEqDiff, Nat.reduceLT, reduceCtorEq]
        exact weak_to [0] hp hnp rfl (by simp (config := { maxSteps := 2000000 }) only [go_sem, ↓reduceIte, Int.reduceToNat, Nat.reduceMul, Int.reduceBEq, Int.reduceBNe, Nat.reduceBEq, Nat.reduceAdd, Nat.reduceSub, Nat.reduceLeDiff, Nat.reduceEqDiff, Nat.reduceLT, reduceCtorEq, Aw.pos]) (by simp (config := { maxSteps := 2000000 }) only [go_sem, ↓reduceIte, Int.reduceToNat, Nat.reduceMul, Int.reduceBEq, Int.reduceBNe, Nat.reduceBEq, Nat.reduceAdd, Nat.reduceSub, Nat.reduceLeDiff, Nat.reduceEqDiff, Nat.reduceLT, reduceCtorEq, Aw.renR, Aw.pos])
      simp (config := { maxSteps := 2000000 }) only [go_sem, ↓reduceIte, Int.reduceToNat, Nat.reduceMul, Int.reduceBEq, Int.reduceBNe, Nat.reduceBEq, Nat.reduceAdd, Nat.reduceSub, Nat.reduceLeDiff, Nat.reduceEqDiff, Nat.reduceLT, reduceCtorEq, e9]
      rw [if_neg (by decide)] at hN
      (repeat (refine And.intro (by first | omega | (refine ⟨by omega, by omega⟩) | (refine ⟨by omega, by omega, by omega⟩) | (simp only [List.length_map, List.length_range, List.length_append, List.length_cons, List.length_nil, List.length_replicate, List.length_set]; omega) | (simp; omega) | (intro hgd; cases hgd) | (intro hgd; refine ⟨hgd, ?_⟩; first | omega | (refine ⟨by omega, by omega⟩) | (simp; omega))) ?_))
      have hlt : ((st.map ic).take (st.length - 0)).length = st.length - 0 := by rw [List.length_take, List.length_map]; omega
      refine AWpL.weak (weak_cut 0 (st.length - 0) rfl) ?_
      refine AWpL.app (r := 0) (els := (st.map ic).take (st.length - 0)) (ys := [[I i]]) rfl rfl rfl rfl (by rw [hn]; rfl) hlt.symm (pin 0) (Nat.le_refl 1) (fun el hm y hy => ?_) (by simp only [List.length_cons, List.length_nil]; omega) (by simp only [List.length_cons, List.length_nil]; omega) (AWpL.ofM hn rfl ?_)
      · rw [List.mem_singleton.1 hm] at hy
        rw [List.mem_singleton.1 hy]; rfl
      simp (config := { maxSteps := 2000000 }) only [go_sem, ↓reduceIte, Int.reduceToNat, Nat.reduceMul, Int.reduceBEq, Int.reduceBNe, Nat.reduceBEq, Nat.reduceAdd, Nat.reduceSub, Nat.reduceLeDiff, Nat.reduceEqDiff, Nat.reduceLT, reduceCtorEq, e2]
      have hkl : (nodS st i x).length = st.length - 0 + 1 := by rw [hk, List.length_append, List.length_take, List.length_singleton]; omega
      exact ⟨k - 1, by omega, i + 1, nodS st i x, by omega, hgo hN, by omega, weak_to [0] hp hnp rfl (by simp (config := { maxSteps := 2000000 }) only [go_sem, ↓reduceIte, Int.reduceToNat, Nat.reduceMul, Int.reduceBEq, Int.reduceBNe, Nat.reduceBEq, Nat.reduceAdd, Nat.reduceSub, Nat.reduceLeDiff, Nat.reduceEqDiff, Nat.reduceLT, reduceCtorEq, Aw.pos, hkl]) (by rw [hk]; simp (config := { maxSteps := 2000000 }) only [go_sem, ↓reduceIte, Int.reduceToNat, Nat.reduceMul, Int.reduceBEq, Int.reduceBNe, Nat.reduceBEq, Nat.reduceAdd, Nat.reduceSub, Nat.reduceLeDiff, Nat.reduceEqDiff, Nat.reduceLT, reduceCtorEq, Aw.renR, Aw.pos, List.map_append, List.map_take])⟩
    · have hk : nodS st i x = st.take (st.length - 0) ++ [(i : Int)] := by unfold nodS; rw [ha]; rfl
      have hN : nodE st x = if nm 8 x.name = false then 6 else if (¬ x.a = 0 ∨ ¬ x.b = 0) ∨ (st.length : Int) < 0 then 3 else if False then 3 else 0 := by
        unfold nodE; rw [ha]; simp [or_assoc]
      rw [ha]
      simp (config := { maxSteps := 2000000 }) only [go_sem, ↓reduceIte, Int.reduceToNat, Nat.reduceMul, Int.reduceBEq, Int.reduceBNe, Nat.reduceBEq, Nat.reduceAdd, Nat.reduceSub, Nat.reduceLeDiff, Nat.reduceEqDiff, Nat.reduceLT, reduceCtorEq, Int.reduceLT, Int.reduceNeg, decide_false, decide_true, hnil, Int.reduceBEq, Int.reduceBNe]
      refine AWpL.gcalle (b := true) rfl (fun _ => s34 x.name hx) rfl (by rw [hn]; rfl) (fun _ => by simp (config := { maxSteps := 2000000 }) only [go_sem, ↓reduceIte, Int.reduceToNat, Nat.reduceMul, Int.reduceBEq, Int.reduceBNe, Nat.reduceBEq, Nat.reduceAdd, Nat.reduceSub, Nat.reduceLeDiff, Nat.reduceEqDiff, Nat.reduceLT, reduceCtorEq]) (AWpL.ofM hn rfl ?_)
      simp (config := { maxSteps := 2000000 }) only [go_sem, ↓reduceIte, Int.reduceToNat, Nat.reduceMul, Int.reduceBEq, Int.reduceBNe, Nat.reduceBEq, Nat.reduceAdd, Nat.reduceSub, Nat.reduceLeDiff, Nat.reduceEqDiff, Nat.reduceLT, reduceCtorEq, Int.reduceLT, Int.reduceNeg, decide_false, decide_true, hnil, Int.reduceBEq, Int.reduceBNe]
      simp only [Bool.or_eq_true, Bool.or_eq_false_iff, Bool.not_eq_true', decide_eq_true_eq, decide_eq_false_iff_not, Bool.not_eq_false', bne_iff_ne, bne_eq_false_iff_eq, ne_eq]
      refine ⟨fun h => ?_, fun h => ?_⟩
      · rw [hend 6 (by rw [hN, if_pos h]) (by decide)]
      rw [if_neg (by rw [h]; decide)] at hN
      refine ⟨fun h => ?_, fun h => ?_⟩
      · rw [hend 3 (by rw [hN, if_pos h]) (by decide)]
      rw [if_neg (by simp only [not_or, Decidable.not_not]; exact h)] at hN
      have hln : 0 ≤ st.length := by have := h.2; omega
      have e9 : IntKind.i64.wrap ((st.length : Int) - 0) = ((st.length - 0 : Nat) : Int) := by rw [w64 (by omega) (by omega)]; omega
      refine AWp.weak (weak_to (tm := [(4, .hnd 0 0 st.length st.length false), (5, I i), (6, .ptr 1 0 0), (7, I 0), (9, I st.length), (18, .imm nl fl 4 (l.map nc)), (19, I l.length), (20, I i)]) (rg := [.arr 3 1 (st.map ic), .box 54 (nc x)]) [0, 1] hp hnp rfl (by simp (config := { maxSteps := 2000000 }) only [go_sem, ↓reduceIte, Int.reduceToNat, Nat.reduceMul, Int.reduceBEq, Int.reduceBNe, Nat.reduceBEq, Nat.reduceAdd, Nat.reduceSub, Nat.reduceLeDiff, Nat.reduceEqDiff, Nat.reduceLT, reduceCtorEq, Aw.pos]) (by simp (config := { maxSteps := 2000000 }) only [go_sem, ↓reduceIte, Int.reduceToNat, Nat.reduceMul, Int.reduceBEq, Int.reduceBNe, Nat.reduceBEq, Nat.reduceAdd, Nat.reduceSub, Nat.reduceLeDiff, Nat.reduceEqDiff, Nat.reduceLT, reduceCtorEq, Aw.renR, Aw.pos])) ?_
      refine AWp.cut ⟨[(4, .hnd 0 0 st.length st.length false), (5, I i), (7, I 0), (9, I st.length), (18, .imm nl fl 4 (l.map nc)), (19, I l.length), (20, I i), (111, B (false))], [.arr 3 1 (st.map ic)]⟩ (AWp.draw mixed ?_) ?_
      · refine AWpQ.upto hn 3 rfl rfl ?_
        simp (config := { maxSteps := 2000000 }) only [go_sem, ↓reduceIte, Int.reduceToNat, Nat.reduceMul, Int.reduceBEq, Int.reduceBNe, Nat.reduceBEq, Nat.reduceAdd, Nat.reduceSub, Nat.reduceLeDiff, Nat.reduceEqDiff, Nat.reduceLT, reduceCtorEq, Int.reduceBEq]
        refine AWpQ.skips hn 78 true 8 (by rfl) rfl ?_
        simp (config := { maxSteps := 2000000 }) only [go_sem, ↓reduceIte, Int.reduceToNat, Nat.reduceMul, Int.reduceBEq, Int.reduceBNe, Nat.reduceBEq, Nat.reduceAdd, Nat.reduceSub, Nat.reduceLeDiff, Nat.reduceEqDiff, Nat.reduceLT, reduceCtorEq]
        refine AWpQ.weak (weak_ent 86 (y := .opt false (B false)) (by rfl) Ent.off) ?_
        refine AWpQ.upto hn 5 rfl rfl ?_
        simp (config := { maxSteps := 2000000 }) only [go_sem, ↓reduceIte, Int.reduceToNat, Nat.reduceMul, Int.reduceBEq, Int.reduceBNe, Nat.reduceBEq, Nat.reduceAdd, Nat.reduceSub, Nat.reduceLeDiff, Nat.reduceEqDiff, Nat.reduceLT, reduceCtorEq, Int.reduceBEq]
        refine AWpQ.skips hn 91 true 9 (by rfl) rfl ?_
        simp (config := { maxSteps := 2000000 }) only [go_sem, ↓reduceIte, Int.reduceToNat, Nat.reduceMul, Int.reduceBEq, Int.reduceBNe, Nat.reduceBEq, Nat.reduceAdd, Nat.reduceSub, Nat.reduceLeDiff, Nat.reduceEqDiff, Nat.reduceLT, reduceCtorEq]
        refine AWpQ.weak (weak_ent 100 (y := .opt false (B false)) (by rfl) Ent.off) ?_
        refine AWpQ.skips hn 100 false 8 (by rfl) rfl ?_
        simp (config := { maxSteps := 2000000 }) only [go_sem, ↓reduceIte, Int.reduceToNat, Nat.reduceMul, Int.reduceBEq, Int.reduceBNe, Nat.reduceBEq, Nat.reduceAdd, Nat.reduceSub, Nat.reduceLeDiff, Nat.reduceEqDiff, Nat.reduceLT, reduceCtorEq]
        refine AWpQ.weak (weak_ent 108 (y := .opt false (B false)) (by rfl) Ent.off) (AWpQ.of hn rfl ?_)
        simp (config := { maxSteps := 2000000 }) only [go_sem, ↓reduceIte, Int.reduceToNat, Nat.reduceMul, Int.reduceBEq, Int.reduceBNe, Nat.reduceBEq, Nat.reduceAdd, Nat.reduceSub, Nat.reduceLeDiff, Nat.reduceEqDiff, Nat.reduceLT, reduceCtorEq]
        exact weak_to [0] hp hnp rfl (by simp (config := { maxSteps := 2000000 }) only [go_sem, ↓reduceIte, Int.reduceToNat, Nat.reduceMul, Int.reduceBEq, Int.reduceBNe, Nat.reduceBEq, Nat.reduceAdd, Nat.reduceSub, Nat.reduceLeDiff, Nat.reduceEqDiff, Nat.reduceLT, reduceCtorEq, Aw.pos]) (by simp (config := { maxSteps := 2000000 }) only [go_sem, ↓reduceIte, Int.reduceToNat, Nat.reduceMul, Int.reduceBEq, Int.reduceBNe, Nat.reduceBEq, Nat.reduceAdd, Nat.reduceSub, Nat.reduceLeDiff, Nat.reduceEqDiff, Nat.reduceLT, reduceCtorEq, Aw.renR, Aw.pos])
      simp (config := { maxSteps := 2000000 }) only [go_sem, ↓reduceIte, Int.reduceToNat, Nat.reduceMul, Int.reduceBEq, Int.reduceBNe, Nat.reduceBEq, Nat.reduceAdd, Nat.reduceSub, Nat.reduceLeDiff, Nat.reduceEqDiff, Nat.reduceLT, reduceCtorEq, e9]
      rw [if_neg (by decide)] at hN
      (repeat (refine And.intro (by first | omega | (refine ⟨by omega, by omega⟩) | (refine ⟨by omega, by omega, by omega⟩) | (simp only [List.length_map, List.length_range, List.length_append, List.length_cons, List.length_nil, List.length_replicate, List.length_set]; omega) | (simp; omega) | (intro hgd; cases hgd) | (intro hgd; refine ⟨hgd, ?_⟩; first | omega | (refine ⟨by omega, by omega⟩) | (simp; omega))) ?_))
      have hlt : ((st.map ic).take (st.length - 0)).length = st.length - 0 := by rw [List.length_take, List.length_map]; omega
      refine AWpL.weak (weak_cut 0 (st.length - 0) rfl) ?_
      refine AWpL.app (r := 0) (els := (st.map ic).take (st.length - 0)) (ys := [[I i]]) rfl rfl rfl rfl (by rw [hn]; rfl) hlt.symm (pin 0) (Nat.le_refl 1) (fun el hm y hy => ?_) (by simp only [List.length_cons, List.length_nil]; omega) (by simp only [List.length_cons, List.length_nil]; omega) (AWpL.ofM hn rfl ?_)
      · rw [List.mem_singleton.1 hm] at hy
        rw [List.mem_singleton.1 hy]; rfl
      simp (config := { maxSteps := 2000000 }) only [go_sem, ↓reduceIte, Int.reduceToNat, Nat.reduceMul, Int.reduceBEq, Int.reduceBNe, Nat.reduceBEq, Nat.reduceAdd, Nat.reduceSub, Nat.reduceLeDiff, Nat.reduceEqDiff, Nat.reduceLT, reduceCtorEq, e2]
      have hkl : (nodS st i x).length = st.length - 0 + 1 := by rw [hk, List.length_append, List.length_take, List.length_singleton]; omega
      exact ⟨k - 1, by omega, i + 1, nodS st i x, by omega, hgo hN, by omega, weak_to [0] hp hnp rfl (by simp (config := { maxSteps := 2000000 }) only [go_sem, ↓reduceIte, Int.reduceToNat, Nat.reduceMul, Int.reduceBEq, Int.reduceBNe, Nat.reduceBEq, Nat.reduceAdd, Nat.reduceSub, Nat.reduceLeDiff, Nat.reduceEqDiff, Nat.reduceLT, reduceCtorEq, Aw.pos, hkl]) (by rw [hk]; simp (config := { maxSteps := 2000000 }) only [go_sem, ↓reduceIte, Int.reduceToNat, Nat.reduceMul, Int.reduceBEq, Int.reduceBNe, Nat.reduceBEq, Nat.reduceAdd, Nat.reduceSub, Nat.reduceLeDiff, Nat.reduceEqDiff, Nat.reduceLT, reduceCtorEq, Aw.renR, Aw.pos, List.map_append, List.map_take])⟩
    · have hk : nodS st i x = st.take (st.length - 1) ++ [(i : Int)] := by unfold nodS; rw [ha]; rfl
      have hN : nodE st x = if (¬ x.name.toList = [] ∨ ¬ x.b = 0) ∨ (st.length : Int) < 1 then 3 else if ¬ x.a = st.getD (st.length - 1) 0 then 3 else 0 := by
        unfold nodE; rw [ha]; simp [or_assoc]
      rw [ha]
      simp (config := { maxSteps := 2000000 }) only [go_sem, ↓reduceIte, Int.reduceToNat, Nat.reduceMul, Int.reduceBEq, Int.reduceBNe, Nat.reduceBEq, Nat.reduceAdd, Nat.reduceSub, Nat.reduceLeDiff, Nat.reduceEqDiff, Nat.reduceLT, reduceCtorEq, Int.reduceLT, Int.reduceNeg, decide_false, decide_true, hnil, Int.reduceBEq, Int.reduceBNe]
      refine AWpL.gcalle (b := false) (y := B false) rfl (fun h => by cases h) rfl (by rw [hn]; rfl) (fun h => by cases h) (AWpL.ofM hn rfl ?_)
      simp (config := { maxSteps := 2000000 }) only [go_sem, ↓reduceIte, Int.reduceToNat, Nat.reduceMul, Int.reduceBEq, Int.reduceBNe, Nat.reduceBEq, Nat.reduceAdd, Nat.reduceSub, Nat.reduceLeDiff, Nat.reduceEqDiff, Nat.reduceLT, reduceCtorEq, Int.reduceLT, Int.reduceNeg, decide_false, decide_true, hnil, Int.reduceBEq, Int.reduceBNe]
      simp only [Bool.or_eq_true, Bool.or_eq_false_iff, Bool.not_eq_true', decide_eq_true_eq, decide_eq_false_iff_not, Bool.not_eq_false', bne_iff_ne, bne_eq_false_iff_eq, ne_eq]
      refine ⟨fun h => ?_, fun h => ?_⟩
      · rw [hend 3 (by rw [hN, if_pos h]) (by decide)]
      rw [if_neg (by simp only [not_or, Decidable.not_not]; exact h)] at hN
      have hln : 1 ≤ st.length := by have := h.2; omega
      have e5 : IntKind.i64.wrap ((st.length : Int) - 1) = ((st.length - 1 : Nat) : Int) := by rw [w64 (by omega) (by omega)]; omega
      have e6 := getD_mapD (0 : Int) ic (l := st) (i := st.length - 1) (by omega)
      have e9 : IntKind.i64.wrap ((st.length : Int) - 1) = ((st.length - 1 : Nat) : Int) := by rw [w64 (by omega) (by omega)]; omega
      refine AWp.weak (weak_to (tm := [(4, .hnd 0 0 st.length st.length false), (5, I i), (6, .ptr 1 0 0), (7, I 1), (9, I st.length), (18, .imm nl fl 4 (l.map nc)), (19, I l.length), (20, I i)]) (rg := [.arr 3 1 (st.map ic), .box 54 (nc x)]) [0, 1] hp hnp rfl (by simp (config := { maxSteps := 2000000 }) only [go_sem, ↓reduceIte, Int.reduceToNat, Nat.reduceMul, Int.reduceBEq, Int.reduceBNe, Nat.reduceBEq, Nat.reduceAdd, Nat.reduceSub, Nat.reduceLeDiff, Nat.reduceEqDiff, Nat.reduceLT, reduceCtorEq, Aw.pos]) (by simp (config := { maxSteps := 2000000 }) only [go_sem, ↓reduceIte, Int.reduceToNat, Nat.reduceMul, Int.reduceBEq, Int.reduceBNe, Nat.reduceBEq, Nat.reduceAdd, Nat.reduceSub, Nat.reduceLeDiff, Nat.reduceEqDiff, Nat.reduceLT, reduceCtorEq, Aw.renR, Aw.pos])) ?_
      refine AWp.cut ⟨[(4, .hnd 0 0 st.length st.length false), (5, I i), (7, I 1), (9, I st.length), (18, .imm nl fl 4 (l.map nc)), (19, I l.length), (20, I i), (111, B (x.a != st.getD (st.length - 1) 0))], [.arr 3 1 (st.map ic)]⟩ (AWp.draw mixed ?_) ?_
      · cases hq : (x.a != st.getD (st.length - 1) 0)
        all_goals
          refine AWpQ.upto hn 16 rfl rfl ?_
          simp (config := { maxSteps := 2000000 }) only [go_sem, ↓reduceIte, Int.reduceToNat, Nat.reduceMul, Int.reduceBEq, Int.reduceBNe, Nat.reduceBEq, Nat.reduceAdd, Nat.reduceSub, Nat.reduceLeDiff, Nat.reduceEqDiff, Nat.reduceLT, reduceCtorEq, Int.reduceBEq, e5, e6, hq]
          (repeat (refine And.intro (by first | omega | (refine ⟨by omega, by omega⟩) | (refine ⟨by omega, by omega, by omega⟩) | (simp only [List.length_map, List.length_range, List.length_append, List.length_cons, List.length_nil, List.length_replicate, List.length_set]; omega) | (simp; omega) | (intro hgd; cases hgd) | (intro hgd; refine ⟨hgd, ?_⟩; first | omega | (refine ⟨by omega, by omega⟩) | (simp; omega))) ?_))
          refine AWpQ.skips hn 91 true 9 (by rfl) rfl ?_
          simp (config := { maxSteps := 2000000 }) only [go_sem, ↓reduceIte, Int.reduceToNat, Nat.reduceMul, Int.reduceBEq, Int.reduceBNe, Nat.reduceBEq, Nat.reduceAdd, Nat.reduceSub, Nat.reduceLeDiff, Nat.reduceEqDiff, Nat.reduceLT, reduceCtorEq]
          refine AWpQ.weak (weak_ent 100 (y := .opt false (B false)) (by rfl) Ent.off) ?_
          refine AWpQ.skips hn 100 false 8 (by rfl) rfl ?_
          simp (config := { maxSteps := 2000000 }) only [go_sem, ↓reduceIte, Int.reduceToNat, Nat.reduceMul, Int.reduceBEq, Int.reduceBNe, Nat.reduceBEq, Nat.reduceAdd, Nat.reduceSub, Nat.reduceLeDiff, Nat.reduceEqDiff, Nat.reduceLT, reduceCtorEq]
          refine AWpQ.weak (weak_ent 108 (y := .opt false (B false)) (by rfl) Ent.off) (AWpQ.of hn rfl ?_)
          simp (config := { maxSteps := 2000000 }) only [go_sem, ↓reduceIte, Int.reduceToNat, Nat.reduceMul, Int.reduceBEq, Int.reduceBNe, Nat.reduceBEq, Nat.reduceAdd, Nat.reduceSub, Nat.reduceLeDiff, Nat.reduceEqDiff, Nat.reduceLT, reduceCtorEq]
          exact weak_to [0] hp hnp rfl (by simp (config := { maxSteps := 2000000 }) only [go_sem, ↓reduceIte, Int.reduceToNat, Nat.reduceMul, Int.reduceBEq, Int.reduceBNe, Nat.reduceBEq, Nat.reduceAdd, Nat.reduceSub, Nat.reduceLeDiff, Nat.reduceEqDiff, Nat.reduceLT, reduceCtorEq, Aw.pos, hq]) (by simp (config := { maxSteps := 2000000 }) only [go_sem, ↓reduceIte, Int.reduceToNat, Nat.reduceMul, Int.reduceBEq, Int.reduceBNe, Nat.reduceBEq, Nat.reduceAdd, Nat.reduceSub, Nat.reduceLeDiff, Nat.reduceEqDiff, Nat.reduceLT, reduceCtorEq, Aw.renR, Aw.pos])
      simp (config := { maxSteps := 2000000 }) only [go_sem, ↓reduceIte, Int.reduceToNat, Nat.reduceMul, Int.reduceBEq, Int.reduceBNe, Nat.reduceBEq, Nat.reduceAdd, Nat.reduceSub, Nat.reduceLeDiff, Nat.reduceEqDiff, Nat.reduceLT, reduceCtorEq, e9]
      simp only [Bool.or_eq_true, Bool.or_eq_false_iff, bne_iff_ne, bne_eq_false_iff_eq, ne_eq]
      refine ⟨fun h2 => ?_, fun h2 => ?_⟩
      · rw [hend 3 (by rw [hN, if_pos h2]) (by decide)]
      rw [if_neg (by simp only [not_or, Decidable.not_not]; exact h2)] at hN
      (repeat (refine And.intro (by first | omega | (refine ⟨by omega, by omega⟩) | (refine ⟨by omega, by omega, by omega⟩) | (simp only [List.length_map, List.length_range, List.length_append, List.length_cons, List.length_nil, List.length_replicate, List.length_set]; omega) | (simp; omega) | (intro hgd; cases hgd) | (intro hgd; refine ⟨hgd, ?_⟩; first | omega | (refine ⟨by omega, by omega⟩) | (simp; omega))) ?_))
      have hlt : ((st.map ic).take (st.length - 1)).length = st.length - 1 := by rw [List.length_take, List.length_map]; omega
      refine AWpL.weak (weak_cut 0 (st.length - 1) rfl) ?_
      refine AWpL.app (r := 0) (els := (st.map ic).take (st.length - 1)) (ys := [[I i]]) rfl rfl rfl rfl (by rw [hn]; rfl) hlt.symm (pin 0) (Nat.le_refl 1) (fun el hm y hy => ?_) (by simp only [List.length_cons, List.length_nil]; omega) (by simp only [List.length_cons, List.length_nil]; omega) (AWpL.ofM hn rfl ?_)
      · rw [List.mem_singleton.1 hm] at hy
        rw [List.mem_singleton.1 hy]; rfl
      simp (config := { maxSteps := 2000000 }) only [go_sem, ↓reduceIte, Int.reduceToNat, Nat.reduceMul, Int.reduceBEq, Int.reduceBNe, Nat.reduceBEq, Nat.reduceAdd, Nat.reduceSub, Nat.reduceLeDiff, Nat.reduceEqDiff, Nat.reduceLT, reduceCtorEq, e2]
      have hkl : (nodS st i x).length = st.length - 1 + 1 := by rw [hk, List.length_append, List.length_take, List.length_singleton]; omega
      exact ⟨k - 1, by omega, i + 1, nodS st i x, by omega, hgo hN, by omega, weak_to [0] hp hnp rfl (by simp (config := { maxSteps := 2000000 }) only [go_sem, ↓reduceIte, Int.reduceToNat, Nat.reduceMul, Int.reduceBEq, Int.reduceBNe, Nat.reduceBEq, Nat.reduceAdd, Nat.reduceSub, Nat.reduceLeDiff, Nat.reduceEqDiff, Nat.reduceLT, reduceCtorEq, Aw.pos, hkl]) (by rw [hk]; simp (config := { maxSteps := 2000000 }) only [go_sem, ↓reduceIte, Int.reduceToNat, Nat.reduceMul, Int.reduceBEq, Int.reduceBNe, Nat.reduceBEq, Nat.reduceAdd, Nat.reduceSub, Nat.reduceLeDiff, Nat.reduceEqDiff, Nat.reduceLT, reduceCtorEq, Aw.renR, Aw.pos, List.map_append, List.map_take])⟩
    · have hk : nodS st i x = st.take (st.length - 2) ++ [(i : Int)] := by unfold nodS; rw [ha]; rfl
      have hN : nodE st x = if ¬ x.name.toList = [] ∨ (st.length : Int) < 2 then 3 else if ¬ x.a = st.getD (st.length - 2) 0 ∨ ¬ x.b = st.getD (st.length - 1) 0 then 3 else 0 := by
        unfold nodE; rw [ha]; simp [or_assoc]
      rw [ha]
      simp (config := { maxSteps := 2000000 }) only [go_sem, ↓reduceIte, Int.reduceToNat, Nat.reduceMul, Int.reduceBEq, Int.reduceBNe, Nat.reduceBEq, Nat.reduceAdd, Nat.reduceSub, Nat.reduceLeDiff, Nat.reduceEqDiff, Nat.reduceLT, reduceCtorEq, Int.reduceLT, Int.reduceNeg, decide_false, decide_true, hnil, Int.reduceBEq, Int.reduceBNe]
      refine AWpL.gcalle (b := false) (y := B false) rfl (fun h => by cases h) rfl (by rw [hn]; rfl) (fun h => by cases h) (AWpL.ofM hn rfl ?_)
      simp (config := { maxSteps := 2000000 }) only [go_sem, ↓reduceIte, Int.reduceToNat, Nat.reduceMul, Int.reduceBEq, Int.reduceBNe, Nat.reduceBEq, Nat.reduceAdd, Nat.reduceSub, Nat.reduceLeDiff, Nat.reduceEqDiff, Nat.reduceLT, reduceCtorEq, Int.reduceLT, Int.reduceNeg, decide_false, decide_true, hnil, Int.reduceBEq, Int.reduceBNe]
      simp only [Bool.or_eq_true, Bool.or_eq_false_iff, Bool.not_eq_true', decide_eq_true_eq, decide_eq_false_iff_not, Bool.not_eq_false', bne_iff_ne, bne_eq_false_iff_eq, ne_eq]
      refine ⟨fun h => ?_, fun h => ?_⟩
      · rw [hend 3 (by rw [hN, if_pos h]) (by decide)]
      rw [if_neg (by simp only [not_or, Decidable.not_not]; exact h)] at hN
      have hln : 2 ≤ st.length := by have := h.2; omega
      have e5 : IntKind.i64.wrap ((st.length : Int) - 1) = ((st.length - 1 : Nat) : Int) := by rw [w64 (by omega) (by omega)]; omega
      have e6 := getD_mapD (0 : Int) ic (l := st) (i := st.length - 1) (by omega)
      have e7 : IntKind.i64.wrap ((st.length : Int) - 2) = ((st.length - 2 : Nat) : Int) := by rw [w64 (by omega) (by omega)]; omega
      have e8 := getD_mapD (0 : Int) ic (l := st) (i := st.length - 2) (by omega)
      have e9 : IntKind.i64.wrap ((st.length : Int) - 2) = ((st.length - 2 : Nat) : Int) := by rw [w64 (by omega) (by omega)]; omega
      refine AWp.weak (weak_to (tm := [(4, .hnd 0 0 st.length st.length false), (5, I i), (6, .ptr 1 0 0), (7, I 2), (9, I st.length), (18, .imm nl fl 4 (l.map nc)), (19, I l.length), (20, I i)]) (rg := [.arr 3 1 (st.map ic), .box 54 (nc x)]) [0, 1] hp hnp rfl (by simp (config := { maxSteps := 2000000 }) only [go_sem, ↓reduceIte, Int.reduceToNat, Nat.reduceMul, Int.reduceBEq, Int.reduceBNe, Nat.reduceBEq, Nat.reduceAdd, Nat.reduceSub, Nat.reduceLeDiff, Nat.reduceEqDiff, Nat.reduceLT, reduceCtorEq, Aw.pos]) (by simp (config := { maxSteps := 2000000 }) only [go_sem, ↓reduceIte, Int.reduceToNat, Nat.reduceMul, Int.reduceBEq, Int.reduceBNe, Nat.reduceBEq, Nat.reduceAdd, Nat.reduceSub, Nat.reduceLeDiff, Nat.reduceEqDiff, Nat.reduceLT, reduceCtorEq, Aw.renR, Aw.pos])) ?_
      refine AWp.cut ⟨[(4, .hnd 0 0 st.length st.length false), (5, I i), (7, I 2), (9, I st.length), (18, .imm nl fl 4 (l.map nc)), (19, I l.length), (20, I i), (111, B ((x.a != st.getD (st.length - 2) 0) || (x.b != st.getD (st.length - 1) 0)))], [.arr 3 1 (st.map ic)]⟩ (AWp.draw mixed ?_) ?_
      · refine AWpQ.upto hn 3 rfl rfl ?_
        simp (config := { maxSteps := 2000000 }) only [go_sem, ↓reduceIte, Int.reduceToNat, Nat.reduceMul, Int.reduceBEq, Int.reduceBNe, Nat.reduceBEq, Nat.reduceAdd, Nat.reduceSub, Nat.reduceLeDiff, Nat.reduceEqDiff, Nat.reduceLT, reduceCtorEq, Int.reduceBEq]
        refine AWpQ.skips hn 78 true 8 (by rfl) rfl ?_
        simp (config := { maxSteps := 2000000 }) only [go_sem, ↓reduceIte, Int.reduceToNat, Nat.reduceMul, Int.reduceBEq, Int.reduceBNe, Nat.reduceBEq, Nat.reduceAdd, Nat.reduceSub, Nat.reduceLeDiff, Nat.reduceEqDiff, Nat.reduceLT, reduceCtorEq]
        refine AWpQ.weak (weak_ent 86 (y := .opt false (B false)) (by rfl) Ent.off) (AWpQ.of hn rfl ?_)
        simp (config := { maxSteps := 2000000 }) only [go_sem, ↓reduceIte, Int.reduceToNat, Nat.reduceMul, Int.reduceBEq, Int.reduceBNe, Nat.reduceBEq, Nat.reduceAdd, Nat.reduceSub, Nat.reduceLeDiff, Nat.reduceEqDiff, Nat.reduceLT, reduceCtorEq, Int.reduceBEq, e5, e6, e7, e8]
        refine ⟨by omega, by omega, fun h => ⟨h, by omega, by omega⟩, fun h => ⟨h, by omega⟩, ?_⟩
        exact weak_to [0] hp hnp rfl (by simp (config := { maxSteps := 2000000 }) only [go_sem, ↓reduceIte, Int.reduceToNat, Nat.reduceMul, Int.reduceBEq, Int.reduceBNe, Nat.reduceBEq, Nat.reduceAdd, Nat.reduceSub, Nat.reduceLeDiff, Nat.reduceEqDiff, Nat.reduceLT, reduceCtorEq, Aw.pos]) (by simp (config := { maxSteps := 2000000 }) only [go_sem, ↓reduceIte, Int.reduceToNat, Nat.reduceMul, Int.reduceBEq, Int.reduceBNe, Nat.reduceBEq, Nat.reduceAdd, Nat.reduceSub, Nat.reduceLeDiff, Nat.reduceEqDiff, Nat.reduceLT, reduceCtorEq, Aw.renR, Aw.pos])
      simp (config := { maxSteps := 2000000 }) only [go_sem, ↓reduceIte, Int.reduceToNat, Nat.reduceMul, Int.reduceBEq, Int.reduceBNe, Nat.reduceBEq, Nat.reduceAdd, Nat.reduceSub, Nat.reduceLeDiff, Nat.reduceEqDiff, Nat.reduceLT, reduceCtorEq, e9]
      simp only [Bool.or_eq_true, Bool.or_eq_false_iff, bne_iff_ne, bne_eq_false_iff_eq, ne_eq]
      refine ⟨fun h2 => ?_, fun h2 => ?_⟩
      · rw [hend 3 (by rw [hN, if_pos h2]) (by decide)]
      rw [if_neg (by simp only [not_or, Decidable.not_not]; exact h2)] at hN
      (repeat (refine And.intro (by first | omega | (refine ⟨by omega, by omega⟩) | (refine ⟨by omega, by omega, by omega⟩) | (simp only [List.length_map, List.length_range, List.length_append, List.length_cons, List.length_nil, List.length_replicate, List.length_set]; omega) | (simp; omega) | (intro hgd; cases hgd) | (intro hgd; refine ⟨hgd, ?_⟩; first | omega | (refine ⟨by omega, by omega⟩) | (simp; omega))) ?_))
      have hlt : ((st.map ic).take (st.length - 2)).length = st.length - 2 := by rw [List.length_take, List.length_map]; omega
      refine AWpL.weak (weak_cut 0 (st.length - 2) rfl) ?_
      refine AWpL.app (r := 0) (els := (st.map ic).take (st.length - 2)) (ys := [[I i]]) rfl rfl rfl rfl (by rw [hn]; rfl) hlt.symm (pin 0) (Nat.le_refl 1) (fun el hm y hy => ?_) (by simp only [List.length_cons, List.length_nil]; omega) (by simp only [List.length_cons, List.length_nil]; omega) (AWpL.ofM hn rfl ?_)
      · rw [List.mem_singleton.1 hm] at hy
        rw [List.mem_singleton.1 hy]; rfl
      simp (config := { maxSteps := 2000000 }) only [go_sem, ↓reduceIte, Int.reduceToNat, Nat.reduceMul, Int.reduceBEq, Int.reduceBNe, Nat.reduceBEq, Nat.reduceAdd, Nat.reduceSub, Nat.reduceLeDiff, Nat.reduceEqDiff, Nat.reduceLT, reduceCtorEq, e2]
      have hkl : (nodS st i x).length = st.length - 2 + 1 := by rw [hk, List.length_append, List.length_take, List.length_singleton]; omega
      exact ⟨k - 1, by omega, i + 1, nodS st i x, by omega, hgo hN, by omega, weak_to [0] hp hnp rfl (by simp (config := { maxSteps := 2000000 }) only [go_sem, ↓reduceIte, Int.reduceToNat, Nat.reduceMul, Int.reduceBEq, Int.reduceBNe, Nat.reduceBEq, Nat.reduceAdd, Nat.reduceSub, Nat.reduceLeDiff, Nat.reduceEqDiff, Nat.reduceLT, reduceCtorEq, Aw.pos, hkl]) (by rw [hk]; simp (config := { maxSteps := 2000000 }) only [go_sem, ↓reduceIte, Int.reduceToNat, Nat.reduceMul, Int.reduceBEq, Int.reduceBNe, Nat.reduceBEq, Nat.reduceAdd, Nat.reduceSub, Nat.reduceLeDiff, Nat.reduceEqDiff, Nat.reduceLT, reduceCtorEq, Aw.renR, Aw.pos, List.map_append, List.map_take])⟩
    · rw [hend 1 (by unfold nodE; rw [ha]; rfl) (by decide), ha]
      simp (config := { maxSteps := 2000000 }) only [go_sem, ↓reduceIte, Int.reduceToNat, Nat.reduceMul, Int.reduceBEq, Int.reduceBNe, Nat.reduceBEq, Nat.reduceAdd, Nat.reduceSub, Nat.reduceLeDiff, Nat.reduceEqDiff, Nat.reduceLT, reduceCtorEq, Int.reduceLT, Int.reduceNeg, decide_false, decide_true, hnil, Int.reduceBEq, Int.reduceBNe]
  · have e0 : decide ((i : Int) < (l.length : Int)) = false := decide_eq_false (by omega)
    rw [List.drop_of_length_le hge] at hc
    rw [hc]
    simp (config := { maxSteps := 2000000 }) only [go_sem, ↓reduceIte, Int.reduceToNat, Nat.reduceMul, Int.reduceBEq, Int.reduceBNe, Nat.reduceBEq, Nat.reduceAdd, Nat.reduceSub, Nat.reduceLeDiff, Nat.reduceEqDiff, Nat.reduceLT, reduceCtorEq, e0]
    have h4 : condGo i st [] = if st.length = 1 then 0 else 3 := rfl
    rw [h4]
    simp only [bne_iff_ne, ne_eq, bne_eq_false_iff_eq]
    exact ⟨fun h => by rw [if_neg (by omega)], fun h => by rw [if_pos (by omega)]⟩
end Go.Proofs.YtocghkacngoblaaDoor
