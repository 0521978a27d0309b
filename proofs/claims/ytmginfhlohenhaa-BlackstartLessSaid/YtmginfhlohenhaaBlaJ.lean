/- Black starts: the law of paths. -/
import Derived.Test.YtmginfhlohenhaaAwZk
import Derived.Test.YtmginfhlohenhaaBlaI
set_option linter.unusedVariables false
set_option linter.unusedSimpArgs false
namespace Go.Proofs.Ytmginfhlohenhaa
open Go.Proofs.Ytmginfhlohenhaa.Aw
attribute [local go_sem] Int.natCast_zero Int.natCast_one bne_self_eq_false beq_self_eq_true Bool.not_true Bool.not_false Option.isSome_none Option.isSome_some Aw.bkM_nil Option.getD_some Option.getD_none Nat.sub_zero Int.toNat_zero Aw.frzS Aw.frzT Aw.frzA Aw.frzL Aw.frzR Aw.frzO Aw.frzOL Aw.frzOT Aw.frzOR Aw.killS Aw.mapT Aw.mapR Aw.killM Aw.resAVs Aw.resAV Aw.quietOps Aw.wpP Aw.wpT Aw.wpS Aw.AOp.mild List.getElem?_cons_zero List.getElem?_cons_succ Bool.and_false Bool.and_self Bool.false_and Aw.opOb Aw.gdB Aw.Rnd Aw.subTm List.length_map Int.toNat_natCast and_self Aw.SeqC Aw.stops Aw.Ends Aw.looks Aw.renA Aw.renL Aw.renT Aw.renS Aw.wpO Aw.aop Aw.putTm Aw.St.ev Aw.St.put Aw.St.putO Aw.binAV Aw.intBin Aw.strBin Aw.pickAV Aw.optInt Aw.AV.strip Aw.AV.guard Aw.AV.cells Aw.gdOb Aw.AOp.opds Aw.AOp.still Aw.ptrCells Aw.St.reg Aw.fillAV Aw.fillOb Aw.elsOb Aw.splice Aw.firm Aw.cellish Aw.AV.shut Aw.shutAll Aw.Seq Aw.Blk Aw.retS_nil Aw.mapA Aw.mapL Aw.borA Aw.borOb Aw.allOb Aw.tupOf Aw.params Aw.Opd.of Array.toList Value.cells List.map_cons List.map_nil List.getD_cons_zero List.getD_cons_succ List.getD_nil List.length_cons List.length_nil List.take_succ_cons List.take_zero List.take_nil List.drop_zero List.drop_succ_cons List.drop_nil List.set_cons_zero List.set_cons_succ List.append_nil List.nil_append List.cons_append List.all_cons List.all_nil cond_false cond_true if_true if_false true_and and_true Bool.and_true Bool.true_and Option.map_some Option.map_none false_implies forall_const implies_true forall_eq imp_self Bool.cond_false_right Bool.cond_true_left beq_true beq_false Bool.not_eq_true' Bool.false_eq_true Nat.zero_add Nat.add_zero Aw.eqCells Aw.stopDraw Aw.skipS Aw.exactCap Aw.revealS Aw.srcEls Aw.srcSz
attribute [local go_sem ↓] Aw.look_nil Aw.look_ite Aw.wpL_nil Aw.wpL_op Aw.wpL_gd Aw.wpQ_nil Aw.wpQ_op Aw.wpQ_gd Aw.wpC_draw Aw.wpC_reg Aw.wpC_skip Aw.wpC_ret Aw.wpC_exit Aw.wpC_seq Aw.wpC_block Aw.wpC_loop Aw.wpC_cond Aw.stopAt_nil Aw.stopAt_cons Aw.wpD_skip Aw.wpD_ret Aw.wpD_exit Aw.wpD_region Aw.wpD_draw Aw.wpM_nil Aw.wpM_op Aw.wpM_gd Aw.wpD_seq Aw.wpD_block Aw.wpD_loop Aw.wpD_cond

/- slices.Delete[[]string,string] -/
def a13 : ACode :=
  (.seq (.region false [] [
     ⟨(some 6), none, (.mov (.v (.slice none 0 0)))⟩])
  (.seq (.region false [] [
     ⟨(some 8), none, (.mov (.t 0))⟩,
     ⟨(some 9), none, (.mov (.t 1))⟩,
     ⟨(some 10), none, (.mov (.t 2))⟩,
     ⟨(some 11), none, (.mov (.t 0))⟩,
     ⟨(some 12), none, (.len (.t 11))⟩,
     ⟨(some 13), none, (.slc 1 (.t 8) (some (.t 9)) (some (.t 10)) (some (.t 12)))⟩])
  (.seq (.seq (.region false [] [
     ⟨(some 14), none, (.mov (.t 1))⟩,
     ⟨(some 15), none, (.mov (.t 2))⟩,
     ⟨(some 16), none, (.bin .eql 3 (.t 14) (.t 15))⟩])
  (.cond (.t 16)
    (.seq (.region false [] [
       ⟨(some 17), none, (.mov (.t 0))⟩,
       ⟨(some 6), none, (.mov (.t 17))⟩])
    .ret)
    .skip))
  (.seq (.region false [] [
     ⟨(some 18), none, (.mov (.t 0))⟩,
     ⟨(some 19), none, (.len (.t 18))⟩,
     ⟨(some 7), none, (.mov (.t 19))⟩])
  (.seq (.region true [[], [], [0, 1], [], [], [3, 4], [2, 5], [6, 6, 0, 1, 2, 3, 4, 5, 6]] [
     ⟨(some 20), none, (.mov (.t 0))⟩,
     ⟨(some 21), none, (.mov (.t 1))⟩,
     ⟨(some 22), none, (.slc 1 (.t 20) none (some (.t 21)) none)⟩,
     ⟨(some 23), none, (.mov (.t 0))⟩,
     ⟨(some 24), none, (.mov (.t 2))⟩,
     ⟨(some 25), none, (.slc 1 (.t 23) (some (.t 24)) none none)⟩,
     ⟨(some 26), none, (.app 9 1 16 (.string ⟨#[]⟩) (.t 22) (.t 25))⟩,
     ⟨(some 0), none, (.mov (.t 26))⟩])
  (.seq (.region false [] [
     ⟨(some 27), none, (.mov (.t 0))⟩,
     ⟨(some 28), none, (.mov (.t 0))⟩,
     ⟨(some 29), none, (.len (.t 28))⟩,
     ⟨(some 30), none, (.mov (.t 7))⟩,
     ⟨(some 31), none, (.slc 1 (.t 27) (some (.t 29)) (some (.t 30)) none)⟩,
     ⟨none, none, (.clr 1 (.string ⟨#[]⟩) (.t 31))⟩])
  (.seq (.region false [] [
     ⟨(some 32), none, (.mov (.t 0))⟩,
     ⟨(some 6), none, (.mov (.t 32))⟩])
  .ret)))))))
theorem k13 : FnIs Try.prog 13 33 [.t 6] a13 := ⟨_, _, Try.func13, rfl, by kernel_rfl, by kernel_rfl, rfl⟩
/- gridhall/gridhallkeep4.BlackstartPaths$1 -/
def a10 : ACode :=
  (.seq (.region false [] [
     ⟨(some 5), none, (.mov (.v (.bool false)))⟩])
  (.seq (.region false [] [
     ⟨(some 11), none, (.load 6 true (.t 1))⟩,
     ⟨(some 6), none, (.alloc 29 (.agg #[(.slice none 0 0), (.slice none 0 0), (.slice none 0 0), (.slice none 0 0), (.slice none 0 0), (.slice none 0 0)]))⟩,
     ⟨none, none, (.store 6 (.t 6) (.t 11))⟩])
  (.seq (.seq (.region false [] [
     ⟨(some 12), none, (.mov (.t 0))⟩,
     ⟨(some 13), none, (.len (.t 12))⟩,
     ⟨(some 14), none, (.mov (.v (.int .i64 0)))⟩])
  (.block 0 (.loop (.seq (.region false [] [
       ⟨(some 15), none, (.bin .lss 3 (.t 14) (.t 13))⟩])
    (.seq (.cond (.t 15)
      .skip
      (.exit 0))
    (.seq (.block 1 (.seq (.region false [] [
        ⟨(some 16), none, (.idx 1 (.t 12) (.t 14))⟩,
        ⟨(some 17), none, (.load 1 false (.t 16))⟩,
        ⟨(some 8), none, (.mov (.t 17))⟩])
     (.region false [] [
        ⟨(some 19), none, (.load 6 true (.t 6))⟩,
        ⟨(some 20), none, (.mov (.t 8))⟩,
        ⟨(some 21), none, (.call 11 [(.t 19), (.t 20), (.v (.bool false))])⟩,
        ⟨(some 18), none, (.mov (.t 21))⟩,
        ⟨(some 22), none, (.ext 0 (.t 18))⟩,
        ⟨(some 23), none, (.ext 1 (.t 18))⟩,
        ⟨none, none, (.store 6 (.t 6) (.t 22))⟩])))
    (.region false [] [
       ⟨(some 24), none, (.bin .add 3 (.t 14) (.v (.int .i64 1)))⟩,
       ⟨(some 14), none, (.mov (.t 24))⟩])))))))
  (.seq (.region false [] [
     ⟨(some 26), none, (.load 6 true (.t 6))⟩,
     ⟨(some 27), none, (.call 12 [(.t 26)])⟩,
     ⟨(some 25), none, (.mov (.t 27))⟩,
     ⟨(some 28), none, (.ext 0 (.t 25))⟩,
     ⟨(some 29), none, (.ext 1 (.t 25))⟩,
     ⟨(some 9), none, (.mov (.t 28))⟩,
     ⟨(some 10), none, (.mov (.t 29))⟩])
  (.seq (.region true [[], [0], [1], [2], [3, 2], [2], [5, 2], [6, 2], [4, 7, 2], [2, 8], [9, 2], [10], [10], [11, 12, 10], [13, 10], [10], [10], [15, 16, 10], [17, 10], [14, 18, 10], [10, 19], [20, 10, 0, 1, 2, 3, 4, 5, 6, 7, 8, 9, 10, 11, 12, 13, 14, 15, 16, 17, 18, 19, 20]] [
     ⟨(some 30), none, (.mov (.t 10))⟩,
     ⟨(some 31), none, (.bin .eql 30 (.t 30) (.v (.int .i64 0)))⟩,
     ⟨(some 32), none, (.mov (.t 31))⟩,
     ⟨(some 33), (some (32, true)), (.mov (.t 9))⟩,
     ⟨(some 34), (some (32, true)), (.len (.t 33))⟩,
     ⟨(some 35), (some (32, true)), (.fld 0 (.t 1))⟩,
     ⟨(some 36), (some (32, true)), (.load 1 false (.t 35))⟩,
     ⟨(some 37), (some (32, true)), (.len (.t 36))⟩,
     ⟨(some 38), (some (32, true)), (.bin .eql 3 (.t 34) (.t 37))⟩,
     ⟨(some 39), none, (.pick (.t 32) (.t 38) (.v (.bool false)))⟩,
     ⟨(some 40), none, (.mov (.t 39))⟩,
     ⟨(some 41), (some (40, true)), (.mov (.t 9))⟩,
     ⟨(some 42), (some (40, true)), (.load 1 false (.t 2))⟩,
     ⟨(some 43), (some (40, true)), (.idx 1 (.t 41) (.t 42))⟩,
     ⟨(some 44), (some (40, true)), (.load 1 false (.t 43))⟩,
     ⟨(some 45), (some (40, true)), (.mov (.t 9))⟩,
     ⟨(some 46), (some (40, true)), (.load 1 false (.t 3))⟩,
     ⟨(some 47), (some (40, true)), (.idx 1 (.t 45) (.t 46))⟩,
     ⟨(some 48), (some (40, true)), (.load 1 false (.t 47))⟩,
     ⟨(some 49), (some (40, true)), (.bin .eql 3 (.t 44) (.t 48))⟩,
     ⟨(some 50), none, (.pick (.t 40) (.t 49) (.v (.bool false)))⟩,
     ⟨(some 5), none, (.mov (.t 50))⟩])
  .ret)))))
theorem k10 : FnIs Try.prog 10 51 [.t 5] a10 := ⟨_, _, Try.func10, rfl, by kernel_rfl, by kernel_rfl, rfl⟩
/- gridhall/gridhallkeep4.BlackstartPaths -/
def a3 : ACode :=
  (.seq (.region false [] [
     ⟨(some 3), none, (.box 29 (.t 0))⟩,
     ⟨(some 4), none, (.box 3 (.t 1))⟩,
     ⟨(some 5), none, (.box 3 (.t 2))⟩,
     ⟨(some 6), none, (.mov (.v (.bool false)))⟩])
  (.seq (.seq (.region false [] [
     ⟨(some 13), none, (.load 6 true (.t 3))⟩,
     ⟨(some 14), none, (.call 6 [(.t 13)])⟩,
     ⟨(some 15), none, (.bin .neq 30 (.t 14) (.v (.int .i64 0)))⟩,
     ⟨(some 16), none, (.mov (.t 15))⟩,
     ⟨(some 17), (some (16, false)), (.fld 0 (.t 3))⟩,
     ⟨(some 18), (some (16, false)), (.load 1 false (.t 17))⟩,
     ⟨(some 19), (some (16, false)), (.len (.t 18))⟩,
     ⟨(some 20), (some (16, false)), (.bin .eql 3 (.t 19) (.v (.int .i64 0)))⟩,
     ⟨(some 21), none, (.pick (.t 16) (.v (.bool true)) (.t 20))⟩])
  (.cond (.t 21)
    (.seq (.region false [] [
       ⟨(some 22), none, (.call 7 [])⟩,
       ⟨(some 6), none, (.mov (.t 22))⟩])
    .ret)
    .skip))
  (.seq (.region true [[], [], [1], [2], [3], [0, 4], [], [], [7], [8], [9], [6, 10, 5], [5, 11, 0, 1, 2, 3, 4, 5], [11, 12, 0, 1, 2, 3, 4, 5, 6, 7, 8, 9, 10, 11, 12]] [
     ⟨(some 23), none, (.load 1 false (.t 4))⟩,
     ⟨(some 24), none, (.fld 0 (.t 3))⟩,
     ⟨(some 25), none, (.load 1 false (.t 24))⟩,
     ⟨(some 26), none, (.len (.t 25))⟩,
     ⟨(some 27), none, (.bin .sub 3 (.t 26) (.v (.int .i64 1)))⟩,
     ⟨(some 28), none, (.call 8 [(.t 23), (.v (.int .i64 0)), (.t 27)])⟩,
     ⟨(some 29), none, (.load 1 false (.t 5))⟩,
     ⟨(some 30), none, (.fld 0 (.t 3))⟩,
     ⟨(some 31), none, (.load 1 false (.t 30))⟩,
     ⟨(some 32), none, (.len (.t 31))⟩,
     ⟨(some 33), none, (.bin .sub 3 (.t 32) (.v (.int .i64 1)))⟩,
     ⟨(some 34), none, (.call 8 [(.t 29), (.v (.int .i64 0)), (.t 33)])⟩,
     ⟨none, none, (.store 1 (.t 4) (.t 28))⟩,
     ⟨none, none, (.store 1 (.t 5) (.t 34))⟩])
  (.seq (.region true [[], [], [1], [], [2, 3], [4], [], [6], [], [7, 8], [9], [0, 5, 10], [11], [12], [12], [13, 11, 0, 1, 2, 3, 4, 5, 6, 7, 8, 9, 10, 11, 12, 13], [14, 15, 0, 1, 2, 3, 4, 5, 6, 7, 8, 9, 10, 11, 12, 13, 14, 15]] [
     ⟨(some 36), none, (.load 6 true (.t 3))⟩,
     ⟨(some 37), none, (.fld 0 (.t 3))⟩,
     ⟨(some 38), none, (.load 1 false (.t 37))⟩,
     ⟨(some 39), none, (.load 1 false (.t 4))⟩,
     ⟨(some 40), none, (.idx 1 (.t 38) (.t 39))⟩,
     ⟨(some 41), none, (.load 1 false (.t 40))⟩,
     ⟨(some 42), none, (.fld 0 (.t 3))⟩,
     ⟨(some 43), none, (.load 1 false (.t 42))⟩,
     ⟨(some 44), none, (.load 1 false (.t 5))⟩,
     ⟨(some 45), none, (.idx 1 (.t 43) (.t 44))⟩,
     ⟨(some 46), none, (.load 1 false (.t 45))⟩,
     ⟨(some 47), none, (.call 9 [(.t 36), (.t 41), (.t 46)])⟩,
     ⟨(some 35), none, (.mov (.t 47))⟩,
     ⟨(some 48), none, (.ext 0 (.t 35))⟩,
     ⟨(some 49), none, (.ext 1 (.t 35))⟩,
     ⟨(some 7), none, (.mov (.t 48))⟩,
     ⟨(some 8), none, (.mov (.t 49))⟩])
  (.seq (.region true [[], [], [1], [], [2, 3], [4], [], [6], [], [7, 8], [9], [0, 5, 10], [11], [12], [12], [13, 11, 0, 1, 2, 3, 4, 5, 6, 7, 8, 9, 10, 11, 12, 13], [14, 15, 0, 1, 2, 3, 4, 5, 6, 7, 8, 9, 10, 11, 12, 13, 14, 15]] [
     ⟨(some 51), none, (.load 6 true (.t 3))⟩,
     ⟨(some 52), none, (.fld 0 (.t 3))⟩,
     ⟨(some 53), none, (.load 1 false (.t 52))⟩,
     ⟨(some 54), none, (.load 1 false (.t 5))⟩,
     ⟨(some 55), none, (.idx 1 (.t 53) (.t 54))⟩,
     ⟨(some 56), none, (.load 1 false (.t 55))⟩,
     ⟨(some 57), none, (.fld 0 (.t 3))⟩,
     ⟨(some 58), none, (.load 1 false (.t 57))⟩,
     ⟨(some 59), none, (.load 1 false (.t 4))⟩,
     ⟨(some 60), none, (.idx 1 (.t 58) (.t 59))⟩,
     ⟨(some 61), none, (.load 1 false (.t 60))⟩,
     ⟨(some 62), none, (.call 9 [(.t 51), (.t 56), (.t 61)])⟩,
     ⟨(some 50), none, (.mov (.t 62))⟩,
     ⟨(some 63), none, (.ext 0 (.t 50))⟩,
     ⟨(some 64), none, (.ext 1 (.t 50))⟩,
     ⟨(some 9), none, (.mov (.t 63))⟩,
     ⟨(some 10), none, (.mov (.t 64))⟩])
  (.seq (.seq (.region false [] [
     ⟨(some 65), none, (.mov (.t 8))⟩,
     ⟨(some 66), none, (.bin .neq 30 (.t 65) (.v (.int .i64 0)))⟩])
  (.cond (.t 66)
    (.seq (.region false [] [
       ⟨(some 67), none, (.call 7 [])⟩,
       ⟨(some 68), none, (.mov (.t 67))⟩,
       ⟨(some 69), (some (68, true)), (.mov (.t 8))⟩,
       ⟨(some 70), (some (68, true)), (.bin .eql 30 (.t 69) (.v (.int .i64 8)))⟩,
       ⟨(some 71), none, (.pick (.t 68) (.t 70) (.v (.bool false)))⟩,
       ⟨(some 72), none, (.mov (.t 71))⟩,
       ⟨(some 73), (some (72, true)), (.mov (.t 10))⟩,
       ⟨(some 74), (some (72, true)), (.mov (.t 8))⟩,
       ⟨(some 75), (some (72, true)), (.bin .eql 30 (.t 73) (.t 74))⟩,
       ⟨(some 76), none, (.pick (.t 72) (.t 75) (.v (.bool false)))⟩,
       ⟨(some 77), none, (.mov (.t 76))⟩,
       ⟨(some 78), (some (77, true)), (.mov (.t 7))⟩,
       ⟨(some 79), (some (77, true)), (.len (.t 78))⟩,
       ⟨(some 80), (some (77, true)), (.bin .eql 3 (.t 79) (.v (.int .i64 0)))⟩,
       ⟨(some 81), none, (.pick (.t 77) (.t 80) (.v (.bool false)))⟩,
       ⟨(some 6), none, (.mov (.t 81))⟩])
    .ret)
    .skip))
  (.seq (.seq (.region false [] [
     ⟨(some 82), none, (.mov (.t 10))⟩,
     ⟨(some 83), none, (.bin .neq 30 (.t 82) (.v (.int .i64 0)))⟩,
     ⟨(some 84), none, (.mov (.t 83))⟩,
     ⟨(some 85), (some (84, false)), (.mov (.t 9))⟩,
     ⟨(some 86), (some (84, false)), (.len (.t 85))⟩,
     ⟨(some 87), (some (84, false)), (.mov (.t 7))⟩,
     ⟨(some 88), (some (84, false)), (.len (.t 87))⟩,
     ⟨(some 89), (some (84, false)), (.bin .neq 3 (.t 86) (.t 88))⟩,
     ⟨(some 90), none, (.pick (.t 84) (.v (.bool true)) (.t 89))⟩])
  (.cond (.t 90)
    (.seq (.region false [] [
       ⟨(some 6), none, (.mov (.v (.bool false)))⟩])
    .ret)
    .skip))
  (.seq (.region false [] [
     ⟨(some 91), none, (.mkfn 10 [(.t 3), (.t 4), (.t 5)])⟩,
     ⟨(some 11), none, (.mov (.t 91))⟩])
  (.seq (.seq (.region false [] [
     ⟨(some 92), none, (.mov (.t 7))⟩,
     ⟨(some 93), none, (.len (.t 92))⟩,
     ⟨(some 94), none, (.mov (.v (.int .i64 0)))⟩])
  (.block 0 (.loop (.seq (.region false [] [
       ⟨(some 95), none, (.bin .lss 3 (.t 94) (.t 93))⟩])
    (.seq (.cond (.t 95)
      .skip
      (.exit 0))
    (.seq (.block 1 (.seq (.region false [] [
        ⟨(some 96), none, (.mov (.t 94))⟩,
        ⟨(some 12), none, (.mov (.t 96))⟩])
     (.seq (.region false [] [
        ⟨(some 97), none, (.mov (.t 11))⟩,
        ⟨(some 98), none, (.mov (.t 7))⟩,
        ⟨(some 99), none, (.call 14 [(.t 98)])⟩,
        ⟨(some 100), none, (.mov (.t 12))⟩,
        ⟨(some 101), none, (.mov (.t 12))⟩,
        ⟨(some 102), none, (.bin .add 3 (.t 101) (.v (.int .i64 1)))⟩,
        ⟨(some 103), none, (.call 13 [(.t 99), (.t 100), (.t 102)])⟩,
        ⟨(some 104), none, (.callv (.t 97) [(.t 103)])⟩])
     (.cond (.t 104)
       (.seq (.region false [] [
          ⟨(some 6), none, (.mov (.v (.bool false)))⟩])
       .ret)
       .skip))))
    (.region false [] [
       ⟨(some 105), none, (.bin .add 3 (.t 94) (.v (.int .i64 1)))⟩,
       ⟨(some 94), none, (.mov (.t 105))⟩])))))))
  (.seq (.region false [] [
     ⟨(some 106), none, (.call 7 [])⟩,
     ⟨(some 107), none, (.mov (.t 106))⟩,
     ⟨(some 108), (some (107, true)), (.mov (.t 11))⟩,
     ⟨(some 109), (some (107, true)), (.mov (.t 7))⟩,
     ⟨(some 110), (some (107, true)), (.callv (.t 108) [(.t 109)])⟩,
     ⟨(some 111), none, (.pick (.t 107) (.t 110) (.v (.bool false)))⟩,
     ⟨(some 6), none, (.mov (.t 111))⟩])
  .ret))))))))))
theorem k3 : FnIs Try.prog 3 112 [.t 6] a3 := ⟨_, _, Try.func3, rfl, by kernel_rfl, by kernel_rfl, rfl⟩

theorem s13 (l : List (ByteArray)) (i : Nat) (hi : i < l.length) (hl : l.length ≤ 1000) (hc : ∀ x : ByteArray, ∀ y ∈ sc x, cellish y = true) :
    Aw.Spec Try.prog 13 [.arr 9 1 (l.map sc)] [.hnd 0 0 l.length l.length false, I i, I (i + 1 : Nat)]
      (fun rg v => rg = [.arr 9 1 ((l.eraseIdx i).map sc ++ [[S ⟨#[]⟩]])] ∧ v = .hnd 0 0 (l.length - 1) l.length false) := by
  refine Aw.Spec.of k13 rfl fun E hn hnp hp => ?_
  replace hnp : E.np = 1 := hnp
  unfold a13
  have pin0 := hp.arr 0 rfl
  have e1 : ((i : Int) == ((i + 1 : Nat) : Int)) = false := by rw [beq_eq_false_iff_ne]; omega
  refine AWp.ofD [] [] hn mixed rfl ?_
  simp (config := { maxSteps := 2000000 }) only [go_sem, ↓reduceIte, Int.reduceToNat, Nat.reduceMul, Int.reduceBEq, Int.reduceBNe, Nat.reduceBEq, Nat.reduceAdd, Nat.reduceSub, Nat.reduceLeDiff, Nat.reduceEqDiff, Nat.reduceLT, reduceCtorEq, e1]
  (repeat (refine And.intro (by first | omega | (refine ⟨by omega, by omega⟩) | (refine ⟨by omega, by omega, by omega⟩) | (simp only [List.length_map, List.length_range, List.length_append, List.length_cons, List.length_nil, List.length_replicate, List.length_set]; omega) | (simp; omega) | (intro hgd; cases hgd) | (intro hgd; refine ⟨hgd, ?_⟩; first | omega | (refine ⟨by omega, by omega⟩) | (simp; omega))) ?_))
  have hdl : ((l.map sc).drop (i + 1)).take (l.length - (i + 1)) = (l.drop (i + 1)).map sc := by rw [← List.map_drop, List.take_of_length_le (by simp)]
  have hlen : (l.eraseIdx i).length = l.length - 1 := by rw [List.length_eraseIdx, if_pos hi]
  have hov : overEls (l.map sc) i ((l.drop (i + 1)).map sc) = (l.eraseIdx i).map sc ++ (l.drop (l.length - 1)).map sc := by
    unfold overEls
    rw [List.eraseIdx_eq_take_drop_succ, List.map_append, List.length_map, List.length_drop, ← List.map_take, ← List.map_drop, List.append_assoc, show i + (l.length - (i + 1)) = l.length - 1 by omega]
  have hov2 : overEls ((l.eraseIdx i).map sc ++ (l.drop (l.length - 1)).map sc) (l.length - 1) [[S ⟨#[]⟩]] = (l.eraseIdx i).map sc ++ [[S ⟨#[]⟩]] := by
    unfold overEls
    rw [List.take_left' (by rw [List.length_map, hlen]), List.drop_of_length_le (by simp; omega), List.append_nil]
  have hxl : ((l.eraseIdx i).map sc ++ (l.drop (l.length - 1)).map sc).length = l.length := by rw [List.length_append, List.length_map, List.length_map, List.length_drop, hlen]; omega
  refine AWp.plan (.take 0 [false, true, false, true, true, true, false, false] (.take 1 [true, false, false, true, true, true, false, false] (.take 2 [true, true, false, true, true, true, false, false] (.take 3 [true, true, true, false, true, false, false, false] (.take 4 [true, true, true, true, false, false, false, false] (.take 5 [true, true, true, true, true, false, false, false] (.one 6 (.take 7 [true, true, true, true, true, true, true, false] .done)))))))) [true, true, true, true, true, true, false, true] mixed hn rfl rfl ?_
  simp (config := { maxSteps := 2000000 }) only [go_sem, ↓reduceIte, Int.reduceToNat, Nat.reduceMul, Int.reduceBEq, Int.reduceBNe, Nat.reduceBEq, Nat.reduceAdd, Nat.reduceSub, Nat.reduceLeDiff, Nat.reduceEqDiff, Nat.reduceLT, reduceCtorEq]
  (repeat (refine And.intro (by first | omega | (refine ⟨by omega, by omega⟩) | (refine ⟨by omega, by omega, by omega⟩) | (simp only [List.length_map, List.length_range, List.length_append, List.length_cons, List.length_nil, List.length_replicate, List.length_set]; omega) | (simp; omega) | (intro hgd; cases hgd) | (intro hgd; refine ⟨hgd, ?_⟩; first | omega | (refine ⟨by omega, by omega⟩) | (simp; omega))) ?_))
  refine AOne.rule (AWpL.appIn (r := 0) (off := 0) (n := i) (k := l.length) (els := l.map sc) (ys := (l.drop (i + 1)).map sc) (ob := i + 1 + (l.length - (i + 1)) ≤ (l.map sc).length) rfl rfl (by show some (((l.map sc).drop (i + 1)).take (l.length - (i + 1)), _) = _; rw [hdl]) rfl (by rw [hn]; rfl) (by simp only [List.length_map]; omega) (fun el hm y hy => by
    obtain ⟨z, _, rfl⟩ := List.mem_map.1 hm
    exact hc z y hy) (by simp; omega) (by simp; omega) (by omega) (AWpL.ofM hn rfl ?_))
  rw [Nat.zero_add, hov, List.length_map, List.length_drop, show i + (l.length - (i + 1)) = l.length - 1 by omega]
  generalize (l.eraseIdx i).map sc ++ (l.drop (l.length - 1)).map sc = X at *
  have h1 : l.length - (l.length - 1) = 1 := by omega
  simp (config := { maxSteps := 2000000 }) only [go_sem, ↓reduceIte, Int.reduceToNat, Nat.reduceMul, Int.reduceBEq, Int.reduceBNe, Nat.reduceBEq, Nat.reduceAdd, Nat.reduceSub, Nat.reduceLeDiff, Nat.reduceEqDiff, Nat.reduceLT, reduceCtorEq, h1]
  (repeat (refine And.intro (by first | omega | (refine ⟨by omega, by omega⟩) | (refine ⟨by omega, by omega, by omega⟩) | (simp only [List.length_map, List.length_range, List.length_append, List.length_cons, List.length_nil, List.length_replicate, List.length_set]; omega) | (simp; omega) | (intro hgd; cases hgd) | (intro hgd; refine ⟨hgd, ?_⟩; first | omega | (refine ⟨by omega, by omega⟩) | (simp; omega))) ?_))
  refine AWpL.clr (r := 0) (off := l.length - 1) (n := 1) (k := 1) (els := X) rfl rfl (by rw [hn]; rfl) (by omega) (fun v hv => by
    simp only [Value.cells, List.mem_cons, List.not_mem_nil, or_false] at hv
    first | (rcases hv with rfl | rfl | rfl | rfl | rfl | rfl | rfl | rfl | rfl; all_goals rfl) | (rcases hv with rfl | rfl | rfl | rfl | rfl; all_goals rfl) | (rcases hv with rfl | rfl | rfl; all_goals rfl) | (subst hv; rfl)) (.inl (by decide)) (AWpL.ofM hn rfl ?_)
  have hr1 : List.replicate 1 [S ⟨#[]⟩] = [[S ⟨#[]⟩]] := rfl
  simp (config := { maxSteps := 2000000 }) only [go_sem, ↓reduceIte, Int.reduceToNat, Nat.reduceMul, Int.reduceBEq, Int.reduceBNe, Nat.reduceBEq, Nat.reduceAdd, Nat.reduceSub, Nat.reduceLeDiff, Nat.reduceEqDiff, Nat.reduceLT, reduceCtorEq, hr1, hov2]
  refine Retn.ret (π := [0]) hp hnp ⟨rfl, ?_⟩
  simp (config := { maxSteps := 2000000 }) only [go_sem, ↓reduceIte, Int.reduceToNat, Nat.reduceMul, Int.reduceBEq, Int.reduceBNe, Nat.reduceBEq, Nat.reduceAdd, Nat.reduceSub, Nat.reduceLeDiff, Nat.reduceEqDiff, Nat.reduceLT, reduceCtorEq, Aw.renR, Aw.pos]

def joinB (n : Net) (L : List ByteArray) (i j : Nat) : Bool := plc (closeL n L) i == plc (closeL n L) j
set_option maxRecDepth 20000 in
set_option maxHeartbeats 1000000 in
theorem s10 (n : Net) (hk : NetOk n) (hv : NetV n) (nl fl) (l : List ByteArray) (hl : ∀ s ∈ l, SwName n s) (hll : l.length ≤ 1000) (i0 j0 : Nat) (hi : i0 < n.nodes.l.length) (hj : j0 < n.nodes.l.length) :
    Aw.Spec Try.prog 10 [] [ss nl fl l, .pim (netc n), .pim [I i0], .pim [I j0]] (Gives (· = B (joinB n l i0 j0))) := by
  refine Aw.Spec.givesW k10 rfl rfl fun E hn hnp hp => ?_
  unfold a10
  refine AWp.ofD [] [] hn mixed rfl ?_
  simp (config := { maxSteps := 2000000 }) only [go_sem, ↓reduceIte, Int.reduceToNat, Nat.reduceMul, Int.reduceBEq, Int.reduceBNe, Nat.reduceBEq, Nat.reduceAdd, Nat.reduceSub, Nat.reduceLeDiff, Nat.reduceEqDiff, Nat.reduceLT, reduceCtorEq]
  refine AWp.loop (fun k s => ∃ (i : Nat) (m : Net), i + k = l.length ∧ NetOk m ∧ NetV m ∧ closeL m (l.drop i) = closeL n l ∧ (∀ s ∈ l, SwName m s) ∧ Weak E s ⟨[(1, .pim (netc n)), (2, .pim [I i0]), (3, .pim [I j0]), (6, .ptr 0 0 0), (12, ss nl fl l), (13, I l.length), (14, I i)], [.box 29 (netc m)]⟩) (n := l.length)
    ⟨0, n, by omega, hk, hv, rfl, hl, weak_to [0] hp hnp rfl (by simp (config := { maxSteps := 2000000 }) only [go_sem, ↓reduceIte, Int.reduceToNat, Nat.reduceMul, Int.reduceBEq, Int.reduceBNe, Nat.reduceBEq, Nat.reduceAdd, Nat.reduceSub, Nat.reduceLeDiff, Nat.reduceEqDiff, Nat.reduceLT, reduceCtorEq, Int.natCast_zero, Aw.pos]) (by simp (config := { maxSteps := 2000000 }) only [go_sem, ↓reduceIte, Int.reduceToNat, Nat.reduceMul, Int.reduceBEq, Int.reduceBNe, Nat.reduceBEq, Nat.reduceAdd, Nat.reduceSub, Nat.reduceLeDiff, Nat.reduceEqDiff, Nat.reduceLT, reduceCtorEq, Aw.renR, Aw.pos] <;> rfl)⟩ ?_
  rintro k s ⟨i, m, hik, hmk, hmv, hcl, hsw, hw⟩
  refine AWp.weak hw (AWp.ofD [] [] hn mixed rfl ?_)
  rcases Nat.lt_or_ge i l.length with hlt | hge
  · have e0 : decide ((i : Int) < (l.length : Int)) = true := decide_eq_true (by omega)
    have e1 := getD_mapD default sc hlt
    have e2 : IntKind.i64.wrap ((i : Int) + 1) = ((i + 1 : Nat) : Int) := by rw [w64 (by omega) (by omega)]; omega
    have hx : l.getD i default ∈ l := by
      rw [List.getD_eq_getElem?_getD, List.getElem?_eq_getElem hlt]
      exact List.getElem_mem _
    rw [List.drop_eq_getElem_cons hlt] at hcl
    have hd : l[i] = l.getD i default := by rw [List.getD_eq_getElem?_getD, List.getElem?_eq_getElem hlt]; rfl
    rw [hd] at hcl
    generalize l.getD i default = x at *
    have hS := hsw x hx
    obtain ⟨f1, f2, f3⟩ := find_sw hmv hS
    simp (config := { maxSteps := 2000000 }) only [go_sem, ↓reduceIte, Int.reduceToNat, Nat.reduceMul, Int.reduceBEq, Int.reduceBNe, Nat.reduceBEq, Nat.reduceAdd, Nat.reduceSub, Nat.reduceLeDiff, Nat.reduceEqDiff, Nat.reduceLT, reduceCtorEq, e0, e1]
    (repeat (refine And.intro (by first | omega | (refine ⟨by omega, by omega⟩) | (refine ⟨by omega, by omega, by omega⟩) | (simp only [List.length_map, List.length_range, List.length_append, List.length_cons, List.length_nil, List.length_replicate, List.length_set]; omega) | (simp; omega) | (intro hgd; cases hgd) | (intro hgd; refine ⟨hgd, ?_⟩; first | omega | (refine ⟨by omega, by omega⟩) | (simp; omega))) ?_))
    refine AWpL.callA [] (s11 m hmk hmv x (swK m x) f1 f2) rfl rfl (by rw [hn]; rfl) rfl (fun r hr => by cases hr) fun rg v hv' => ?_
    obtain ⟨rfl, rfl⟩ := hv'
    refine ⟨Nat.zero_le _, ?_⟩
    rw [retS_new]
    refine AWpL.ofM hn rfl ?_
    simp (config := { maxSteps := 2000000 }) only [go_sem, ↓reduceIte, Int.reduceToNat, Nat.reduceMul, Int.reduceBEq, Int.reduceBNe, Nat.reduceBEq, Nat.reduceAdd, Nat.reduceSub, Nat.reduceLeDiff, Nat.reduceEqDiff, Nat.reduceLT, reduceCtorEq, e2]
    exact ⟨k - 1, by omega, i + 1, setS m x, by omega, set_ok hmk f1, set_v hmv f1, hcl, fun t ht => hS.set hmv (hsw t ht), weak_to [0] hp hnp rfl (by simp (config := { maxSteps := 2000000 }) only [go_sem, ↓reduceIte, Int.reduceToNat, Nat.reduceMul, Int.reduceBEq, Int.reduceBNe, Nat.reduceBEq, Nat.reduceAdd, Nat.reduceSub, Nat.reduceLeDiff, Nat.reduceEqDiff, Nat.reduceLT, reduceCtorEq, Aw.pos]) (by simp (config := { maxSteps := 2000000 }) only [go_sem, ↓reduceIte, Int.reduceToNat, Nat.reduceMul, Int.reduceBEq, Int.reduceBNe, Nat.reduceBEq, Nat.reduceAdd, Nat.reduceSub, Nat.reduceLeDiff, Nat.reduceEqDiff, Nat.reduceLT, reduceCtorEq, Aw.renR, Aw.pos]; rfl)⟩
  · have e0 : decide ((i : Int) < (l.length : Int)) = false := decide_eq_false (by omega)
    rw [List.drop_of_length_le hge] at hcl
    have hcl : m = closeL n l := hcl
    subst hcl
    have hpl := places_len hmv
    rw [close_nodes] at hpl
    have hs : sres (netF (closeL n l) == 0) (placesF (closeL n l)) = placesF (closeL n l) := by rw [netF_zero.2 hmv]; rfl
    simp (config := { maxSteps := 2000000 }) only [go_sem, ↓reduceIte, Int.reduceToNat, Nat.reduceMul, Int.reduceBEq, Int.reduceBNe, Nat.reduceBEq, Nat.reduceAdd, Nat.reduceSub, Nat.reduceLeDiff, Nat.reduceEqDiff, Nat.reduceLT, reduceCtorEq, e0]
    refine AWpL.callA [] (s12 (closeL n l) hmk) rfl rfl (by rw [hn]; rfl) rfl (fun r hr => by cases hr) fun rg v hv' => ?_
    obtain ⟨rfl, rfl⟩ := hv'
    refine ⟨Nat.zero_le _, ?_⟩
    rw [retS_nil, hs, netF_zero.2 hmv]
    refine AWpL.ofM hn rfl ?_
    have f1 := getD_mapD 0 ic (l := placesF (closeL n l)) (i := i0) (by omega)
    have f2 := getD_mapD 0 ic (l := placesF (closeL n l)) (i := j0) (by omega)
    simp (config := { maxSteps := 2000000 }) only [go_sem, ↓reduceIte, Int.reduceToNat, Nat.reduceMul, Int.reduceBEq, Int.reduceBNe, Nat.reduceBEq, Nat.reduceAdd, Nat.reduceSub, Nat.reduceLeDiff, Nat.reduceEqDiff, Nat.reduceLT, reduceCtorEq, f1, f2]
    have hq : (((placesF (closeL n l)).length : Int) == (n.nodes.l.length : Int)) = true := by rw [hpl]; exact beq_self_eq_true _
    rw [hq, Bool.true_and]
    exact ⟨fun h => ⟨h, by omega, by omega⟩, fun h => ⟨h, by omega, by omega⟩, rfl⟩
theorem way_sym2 {n : Net} (hv : NetV n) {a b : ByteArray} (ha : a ∈ n.nodes.l) (hb : b ∈ n.nodes.l) : (wayN n a b).map (·.length) = (wayN n b a).map (·.length) := by
  have h := way_sym (oed_in hv) (atI_int hv ha).2 (atI_int hv hb).2
  unfold wayN
  cases h1 : wayF (manyF n).toNat (oedF n) (atI n a) (atI n b) <;> cases h2 : wayF (manyF n).toNat (oedF n) (atI n b) (atI n a) <;> rw [h1, h2] at h
  · cases h
  · cases h
  · rename_i p q
    have h : some p.length = some q.length := h
    show some (p.map _).length = some (q.map _).length
    rw [List.length_map, List.length_map, h]
theorem eraseIdx_mapX {α β : Type} (f : α → β) : ∀ (l : List α) (k : Nat), (l.map f).eraseIdx k = (l.eraseIdx k).map f
  | [], _ => rfl
  | x :: l, 0 => rfl
  | x :: l, k + 1 => by simp [eraseIdx_mapX f l k]
theorem join_all {n : Net} (hk : NetOk n) (hv : NetV n) {i j : Nat} (hi : i < n.nodes.l.length) (hj : j < n.nodes.l.length) {L : List ByteArray} (h : wayN n (n.nodes.l[i]) (n.nodes.l[j]) = some L) (hid : idx n n.nodes.l[i] = i) (hjd : idx n n.nodes.l[j] = j) :
    joinB n L i j = true ∧ ∀ k, k < L.length → joinB n (L.eraseIdx k) i j = false := by
  have ha := List.getElem_mem hi
  have hb := List.getElem_mem hj
  have hw := wayN_ok hv ha hb
  rw [h] at hw
  obtain ⟨p, far, d, rfl, hL, hP, hPl, _⟩ := hw
  have hsn := name_sw (PathP_lt hP)
  obtain ⟨c1, c2, _⟩ := close_ok hk hv hsn
  have e1 : plc n i = (atI n n.nodes.l[i] : Int) := by have := (atI_int hv ha).1; rw [hid] at this; exact this
  have e2 : plc n j = (atI n n.nodes.l[j] : Int) := by have := (atI_int hv hb).1; rw [hjd] at this; exact this
  constructor
  · obtain ⟨g1, g2⟩ := (ev_close hv hsn).1 (place_ev c2)
    have := path_joins hv g1 g2 hP (fun s hs => hs) i j hi hj e1 e2
    unfold joinB
    rw [beq_iff_eq]; exact this
  · intro k hk'
    rw [List.length_map] at hk'
    have := path_cut (N := 0) (d := 0) hv hP hk' hi hj e1 e2 hk
    unfold joinB
    rw [beq_eq_false_iff_ne]
    have he : (nameP n p).eraseIdx k = nameP n (p.eraseIdx k) := by unfold nameP; rw [eraseIdx_mapX]
    rw [he]; exact this
theorem idx_at {n : Net} (hv : NetV n) {i : Nat} (hi : i < n.nodes.l.length) : idx n n.nodes.l[i] = i := by
  obtain ⟨h1, h2, h3⟩ := idx_int (List.getElem_mem hi)
  have hnd : n.nodes.l.Nodup := by
    have h := hv.names
    unfold namesN at h
    exact (List.nodup_append.1 h).1
  refine nodup_idx hnd h2 hi ?_
  rw [List.getD_eq_getElem?_getD, List.getElem?_eq_getElem h2] at h3
  exact h3
set_option maxRecDepth 20000 in
set_option maxHeartbeats 4000000 in
theorem s3 (n : Net) (hk : NetOk n) (a0 b0 : Int) : Aw.Spec Try.prog 3 [] [neta n, I a0, I b0] (Gives (· = B true)) := by
  refine Aw.Spec.givesW k3 rfl rfl fun E hn hnp hp => ?_
  unfold a3
  have pin : ∀ r, E.pin r = none := fun r => hp.none hnp (Nat.zero_le _)
  refine AWp.ofD [999] [] hn mixed rfl ?_
  simp (config := { maxSteps := 2000000 }) only [go_sem, ↓reduceIte, Int.reduceToNat, Nat.reduceMul, Int.reduceBEq, Int.reduceBNe, Nat.reduceBEq, Nat.reduceAdd, Nat.reduceSub, Nat.reduceLeDiff, Nat.reduceEqDiff, Nat.reduceLT, reduceCtorEq]
  (refine AWpL.calle (s6 n hk) rfl (by rw [hn]; rfl) (by simp (config := { maxSteps := 2000000 }) only [go_sem, ↓reduceIte, Int.reduceToNat, Nat.reduceMul, Int.reduceBEq, Int.reduceBNe, Nat.reduceBEq, Nat.reduceAdd, Nat.reduceSub, Nat.reduceLeDiff, Nat.reduceEqDiff, Nat.reduceLT, reduceCtorEq]) (AWpL.ofM hn rfl ?_); simp (config := { maxSteps := 2000000 }) only [go_sem, ↓reduceIte, Int.reduceToNat, Nat.reduceMul, Int.reduceBEq, Int.reduceBNe, Nat.reduceBEq, Nat.reduceAdd, Nat.reduceSub, Nat.reduceLeDiff, Nat.reduceEqDiff, Nat.reduceLT, reduceCtorEq])
  refine ⟨fun _ => ?_, fun h => ?_⟩
  · (refine AWpL.calle (s7) rfl (by rw [hn]; rfl) (by simp (config := { maxSteps := 2000000 }) only [go_sem, ↓reduceIte, Int.reduceToNat, Nat.reduceMul, Int.reduceBEq, Int.reduceBNe, Nat.reduceBEq, Nat.reduceAdd, Nat.reduceSub, Nat.reduceLeDiff, Nat.reduceEqDiff, Nat.reduceLT, reduceCtorEq]) (AWpL.ofM hn rfl ?_); simp (config := { maxSteps := 2000000 }) only [go_sem, ↓reduceIte, Int.reduceToNat, Nat.reduceMul, Int.reduceBEq, Int.reduceBNe, Nat.reduceBEq, Nat.reduceAdd, Nat.reduceSub, Nat.reduceLeDiff, Nat.reduceEqDiff, Nat.reduceLT, reduceCtorEq])
  rw [Bool.or_eq_false_iff] at h
  have h0 : netF n = 0 := by simpa using h.1
  have hlen : n.nodes.l.length ≠ 0 := by have := h.2; simpa using this
  have hv := netF_zero.1 h0
  have h24 := hv.nodes
  have e1 : IntKind.i64.wrap ((n.nodes.l.length : Int) - 1) = (n.nodes.l.length : Int) - 1 := w64 (by omega) (by omega)
  have hci := cut_range a0 0 ((n.nodes.l.length : Int) - 1) (by omega)
  have hcj := cut_range b0 0 ((n.nodes.l.length : Int) - 1) (by omega)
  have hsi := s8 a0 0 ((n.nodes.l.length : Int) - 1) (by decide) (by omega) (by omega)
  have hsj := s8 b0 0 ((n.nodes.l.length : Int) - 1) (by decide) (by omega) (by omega)
  obtain ⟨i, hii⟩ : ∃ k : Nat, cut a0 0 ((n.nodes.l.length : Int) - 1) = k := ⟨(cut a0 0 ((n.nodes.l.length : Int) - 1)).toNat, by omega⟩
  obtain ⟨j, hjj⟩ : ∃ k : Nat, cut b0 0 ((n.nodes.l.length : Int) - 1) = k := ⟨(cut b0 0 ((n.nodes.l.length : Int) - 1)).toNat, by omega⟩
  rw [hii] at hci hsi
  rw [hjj] at hcj hsj
  have hi : i < n.nodes.l.length := by omega
  have hj : j < n.nodes.l.length := by omega
  have f1 := getD_map sc hi
  have f2 := getD_map sc hj
  have hmi := List.getElem_mem hi
  have hmj := List.getElem_mem hj
  have hsym := way_sym2 hv hmi hmj
  have hjoin := fun L (h : wayN n n.nodes.l[i] n.nodes.l[j] = some L) => join_all hk hv hi hj h (idx_at hv hi) (idx_at hv hj)
  have hnm := fun L (h : wayN n n.nodes.l[i] n.nodes.l[j] = some L) => way_names hv hmi hmj h
  generalize n.nodes.l[i] = x at *
  generalize n.nodes.l[j] = y at *
  refine AWp.cut ⟨[(3, .ptr 0 0 0), (4, .ptr 1 0 0), (5, .ptr 2 0 0)], [.box 29 (netc n), .box 3 [I i], .box 3 [I j]]⟩ ?_ ?_
  · refine AWp.plan (.take 0 [false, true, true, true, true, false, true, true, true, true, true, false, false, false] (.take 1 [true, false, false, false, false, false, true, true, true, true, true, false, false, false] (.take 2 [true, true, false, false, false, false, true, true, true, true, true, false, false, false] (.take 3 [true, true, true, false, false, false, true, true, true, true, true, false, false, false] (.take 4 [true, true, true, true, false, false, true, true, true, true, true, false, false, false] (.take 6 [true, true, true, true, true, true, false, true, true, true, true, false, false, false] (.take 7 [true, true, true, true, true, true, true, false, false, false, false, false, false, false] (.take 8 [true, true, true, true, true, true, true, true, false, false, false, false, false, false] (.take 9 [true, true, true, true, true, true, true, true, true, false, false, false, false, false] (.take 10 [true, true, true, true, true, true, true, true, true, true, false, false, false, false] (.one 5 (.one 11 (.one 12 (.one 13 .done)))))))))))))) [true, true, true, true, true, true, true, true, true, true, true, true, false, false] mixed hn rfl rfl ?_
    simp (config := { maxSteps := 2000000 }) only [go_sem, ↓reduceIte, Int.reduceToNat, Nat.reduceMul, Int.reduceBEq, Int.reduceBNe, Nat.reduceBEq, Nat.reduceAdd, Nat.reduceSub, Nat.reduceLeDiff, Nat.reduceEqDiff, Nat.reduceLT, reduceCtorEq, e1]
    refine AOne.calle hsi rfl (by rw [hn]; rfl) (by simp (config := { maxSteps := 2000000 }) only [go_sem, ↓reduceIte, Int.reduceToNat, Nat.reduceMul, Int.reduceBEq, Int.reduceBNe, Nat.reduceBEq, Nat.reduceAdd, Nat.reduceSub, Nat.reduceLeDiff, Nat.reduceEqDiff, Nat.reduceLT, reduceCtorEq]) ?_
    simp (config := { maxSteps := 2000000 }) only [go_sem, ↓reduceIte, Int.reduceToNat, Nat.reduceMul, Int.reduceBEq, Int.reduceBNe, Nat.reduceBEq, Nat.reduceAdd, Nat.reduceSub, Nat.reduceLeDiff, Nat.reduceEqDiff, Nat.reduceLT, reduceCtorEq]
    refine AOne.calle hsj rfl (by rw [hn]; rfl) (by simp (config := { maxSteps := 2000000 }) only [go_sem, ↓reduceIte, Int.reduceToNat, Nat.reduceMul, Int.reduceBEq, Int.reduceBNe, Nat.reduceBEq, Nat.reduceAdd, Nat.reduceSub, Nat.reduceLeDiff, Nat.reduceEqDiff, Nat.reduceLT, reduceCtorEq]) ?_
    simp (config := { maxSteps := 2000000 }) only [go_sem, ↓reduceIte, Int.reduceToNat, Nat.reduceMul, Int.reduceBEq, Int.reduceBNe, Nat.reduceBEq, Nat.reduceAdd, Nat.reduceSub, Nat.reduceLeDiff, Nat.reduceEqDiff, Nat.reduceLT, reduceCtorEq]
    exact weak_to [0, 1, 2] hp hnp rfl (by simp (config := { maxSteps := 2000000 }) only [go_sem, ↓reduceIte, Int.reduceToNat, Nat.reduceMul, Int.reduceBEq, Int.reduceBNe, Nat.reduceBEq, Nat.reduceAdd, Nat.reduceSub, Nat.reduceLeDiff, Nat.reduceEqDiff, Nat.reduceLT, reduceCtorEq, Aw.pos]) (by simp (config := { maxSteps := 2000000 }) only [go_sem, ↓reduceIte, Int.reduceToNat, Nat.reduceMul, Int.reduceBEq, Int.reduceBNe, Nat.reduceBEq, Nat.reduceAdd, Nat.reduceSub, Nat.reduceLeDiff, Nat.reduceEqDiff, Nat.reduceLT, reduceCtorEq, Aw.renR, Aw.pos])
  simp (config := { maxSteps := 2000000 }) only [go_sem, ↓reduceIte, Int.reduceToNat, Nat.reduceMul, Int.reduceBEq, Int.reduceBNe, Nat.reduceBEq, Nat.reduceAdd, Nat.reduceSub, Nat.reduceLeDiff, Nat.reduceEqDiff, Nat.reduceLT, reduceCtorEq]
  refine AWp.plan (.take 0 [false, true, true, true, true, true, true, true, true, true, true, false, false, false, false, false, false] (.take 1 [true, false, false, true, false, false, true, true, true, true, true, false, false, false, false, false, false] (.take 2 [true, true, false, true, false, false, true, true, true, true, true, false, false, false, false, false, false] (.take 3 [true, true, true, false, false, false, true, true, true, true, true, false, false, false, false, false, false] (.take 4 [true, true, true, true, false, false, true, true, true, true, true, false, false, false, false, false, false] (.take 5 [true, true, true, true, true, false, true, true, true, true, true, false, false, false, false, false, false] (.take 6 [true, true, true, true, true, true, false, false, true, false, false, false, false, false, false, false, false] (.take 7 [true, true, true, true, true, true, true, false, true, false, false, false, false, false, false, false, false] (.take 8 [true, true, true, true, true, true, true, true, false, false, false, false, false, false, false, false, false] (.take 9 [true, true, true, true, true, true, true, true, true, false, false, false, false, false, false, false, false] (.take 10 [true, true, true, true, true, true, true, true, true, true, false, false, false, false, false, false, false] (.one 11 (.take 12 [true, true, true, true, true, true, true, true, true, true, true, true, false, false, false, false, false] (.take 13 [true, true, true, true, true, true, true, true, true, true, true, true, true, false, true, false, false] (.take 14 [true, true, true, true, true, true, true, true, true, true, true, true, true, true, false, true, false] (.take 15 [true, true, true, true, true, true, true, true, true, true, true, true, true, true, true, false, false] (.take 16 [true, true, true, true, true, true, true, true, true, true, true, true, true, true, true, true, false] .done))))))))))))))))) [true, true, true, true, true, true, true, true, true, true, true, true, true, true, true, true, true] mixed hn rfl rfl ?_
  simp (config := { maxSteps := 2000000 }) only [go_sem, ↓reduceIte, Int.reduceToNat, Nat.reduceMul, Int.reduceBEq, Int.reduceBNe, Nat.reduceBEq, Nat.reduceAdd, Nat.reduceSub, Nat.reduceLeDiff, Nat.reduceEqDiff, Nat.reduceLT, reduceCtorEq, f1, f2]
  refine ⟨by omega, by omega, ?_⟩
  refine AOne.callA (s9 n hk hv x y hmi hmj) rfl (by rw [hn]; rfl) fun rg v hv' => ?_
  obtain ⟨rfl, rfl⟩ := hv'
  rw [retS_nil]
  simp (config := { maxSteps := 2000000 }) only [go_sem, ↓reduceIte, Int.reduceToNat, Nat.reduceMul, Int.reduceBEq, Int.reduceBNe, Nat.reduceBEq, Nat.reduceAdd, Nat.reduceSub, Nat.reduceLeDiff, Nat.reduceEqDiff, Nat.reduceLT, reduceCtorEq]
  refine AWp.plan (.take 0 [false, true, true, true, true, true, true, true, true, true, true, false, false, false, false, false, false] (.take 1 [true, false, false, true, false, false, true, true, true, true, true, false, false, false, false, false, false] (.take 2 [true, true, false, true, false, false, true, true, true, true, true, false, false, false, false, false, false] (.take 3 [true, true, true, false, false, false, true, true, true, true, true, false, false, false, false, false, false] (.take 4 [true, true, true, true, false, false, true, true, true, true, true, false, false, false, false, false, false] (.take 5 [true, true, true, true, true, false, true, true, true, true, true, false, false, false, false, false, false] (.take 6 [true, true, true, true, true, true, false, false, true, false, false, false, false, false, false, false, false] (.take 7 [true, true, true, true, true, true, true, false, true, false, false, false, false, false, false, false, false] (.take 8 [true, true, true, true, true, true, true, true, false, false, false, false, false, false, false, false, false] (.take 9 [true, true, true, true, true, true, true, true, true, false, false, false, false, false, false, false, false] (.take 10 [true, true, true, true, true, true, true, true, true, true, false, false, false, false, false, false, false] (.one 11 (.take 12 [true, true, true, true, true, true, true, true, true, true, true, true, false, false, false, false, false] (.take 13 [true, true, true, true, true, true, true, true, true, true, true, true, true, false, true, false, false] (.take 14 [true, true, true, true, true, true, true, true, true, true, true, true, true, true, false, true, false] (.take 15 [true, true, true, true, true, true, true, true, true, true, true, true, true, true, true, false, false] (.take 16 [true, true, true, true, true, true, true, true, true, true, true, true, true, true, true, true, false] .done))))))))))))))))) [true, true, true, true, true, true, true, true, true, true, true, true, true, true, true, true, true] mixed hn rfl rfl ?_
  simp (config := { maxSteps := 2000000 }) only [go_sem, ↓reduceIte, Int.reduceToNat, Nat.reduceMul, Int.reduceBEq, Int.reduceBNe, Nat.reduceBEq, Nat.reduceAdd, Nat.reduceSub, Nat.reduceLeDiff, Nat.reduceEqDiff, Nat.reduceLT, reduceCtorEq, f1, f2]
  refine ⟨by omega, by omega, ?_⟩
  refine AOne.callA (s9 n hk hv y x hmj hmi) rfl (by rw [hn]; rfl) fun rg v hv' => ?_
  obtain ⟨rfl, rfl⟩ := hv'
  rw [retS_nil]
  cases hw : wayN n x y with
  | none =>
    rw [hw] at hsym
    have hw2 : wayN n y x = none := by
      cases h : wayN n y x with
      | none => rfl
      | some q => rw [h] at hsym; cases hsym
    rw [hw2]
    simp (config := { maxSteps := 2000000 }) only [go_sem, ↓reduceIte, Int.reduceToNat, Nat.reduceMul, Int.reduceBEq, Int.reduceBNe, Nat.reduceBEq, Nat.reduceAdd, Nat.reduceSub, Nat.reduceLeDiff, Nat.reduceEqDiff, Nat.reduceLT, reduceCtorEq]
    (refine AWpL.calle (s7) rfl (by rw [hn]; rfl) (by simp (config := { maxSteps := 2000000 }) only [go_sem, ↓reduceIte, Int.reduceToNat, Nat.reduceMul, Int.reduceBEq, Int.reduceBNe, Nat.reduceBEq, Nat.reduceAdd, Nat.reduceSub, Nat.reduceLeDiff, Nat.reduceEqDiff, Nat.reduceLT, reduceCtorEq]) (AWpL.ofM hn rfl ?_); simp (config := { maxSteps := 2000000 }) only [go_sem, ↓reduceIte, Int.reduceToNat, Nat.reduceMul, Int.reduceBEq, Int.reduceBNe, Nat.reduceBEq, Nat.reduceAdd, Nat.reduceSub, Nat.reduceLeDiff, Nat.reduceEqDiff, Nat.reduceLT, reduceCtorEq])
  | some L =>
    rw [hw] at hsym
    obtain ⟨q, hw2, hlq⟩ : ∃ q, wayN n y x = some q ∧ q.length = L.length := by
      cases h : wayN n y x with
      | none => rw [h] at hsym; cases hsym
      | some q =>
        rw [h] at hsym
        exact ⟨q, rfl, (Option.some.inj hsym).symm⟩
    rw [hw2]
    obtain ⟨hjt, hjf⟩ := hjoin L hw
    obtain ⟨hsn, hL24⟩ := hnm L hw
    have hbn : ((L.length : Int) != (L.length : Int)) = false := by simp
    simp (config := { maxSteps := 2000000 }) only [go_sem, ↓reduceIte, Int.reduceToNat, Nat.reduceMul, Int.reduceBEq, Int.reduceBNe, Nat.reduceBEq, Nat.reduceAdd, Nat.reduceSub, Nat.reduceLeDiff, Nat.reduceEqDiff, Nat.reduceLT, reduceCtorEq, hlq, hbn]
    refine AWp.loop (fun k s => ∃ m : Nat, m + k = L.length ∧ Weak E s ⟨[(7, ss none false L), (11, .fn 10 [.ptr 0 0 0, .ptr 1 0 0, .ptr 2 0 0]), (93, I L.length), (94, I m)], [.box 29 (netc n), .box 3 [I i], .box 3 [I j]]⟩) (n := L.length)
      ⟨0, by omega, weak_to [0, 1, 2] hp hnp rfl (by simp (config := { maxSteps := 2000000 }) only [go_sem, ↓reduceIte, Int.reduceToNat, Nat.reduceMul, Int.reduceBEq, Int.reduceBNe, Nat.reduceBEq, Nat.reduceAdd, Nat.reduceSub, Nat.reduceLeDiff, Nat.reduceEqDiff, Nat.reduceLT, reduceCtorEq, Int.natCast_zero, Aw.pos] <;> rfl) (by simp (config := { maxSteps := 2000000 }) only [go_sem, ↓reduceIte, Int.reduceToNat, Nat.reduceMul, Int.reduceBEq, Int.reduceBNe, Nat.reduceBEq, Nat.reduceAdd, Nat.reduceSub, Nat.reduceLeDiff, Nat.reduceEqDiff, Nat.reduceLT, reduceCtorEq, Aw.renR, Aw.pos])⟩ ?_
    rintro k s ⟨m, hmk, hw⟩
    refine AWp.weak hw (AWp.ofD [999] [] hn mixed rfl ?_)
    rcases Nat.lt_or_ge m L.length with hlt | hge
    · have g0 : decide ((m : Int) < (L.length : Int)) = true := decide_eq_true (by omega)
      have g2 : IntKind.i64.wrap ((m : Int) + 1) = ((m + 1 : Nat) : Int) := by rw [w64 (by omega) (by omega)]; omega
      have hel : (L.eraseIdx m).length = L.length - 1 := by rw [List.length_eraseIdx, if_pos hlt]
      have hes : ∀ s ∈ L.eraseIdx m, SwName n s := fun s h => hsn s (List.mem_of_mem_eraseIdx h)
      simp (config := { maxSteps := 2000000 }) only [go_sem, ↓reduceIte, Int.reduceToNat, Nat.reduceMul, Int.reduceBEq, Int.reduceBNe, Nat.reduceBEq, Nat.reduceAdd, Nat.reduceSub, Nat.reduceLeDiff, Nat.reduceEqDiff, Nat.reduceLT, reduceCtorEq, g0, g2]
      refine AWpL.callA [] (o14 none false L (by omega)) rfl rfl (by rw [hn]; rfl) rfl (fun r hr => by cases hr) fun rg v hv' => ?_
      obtain ⟨rfl, rfl⟩ := hv'
      refine ⟨Nat.zero_le _, ?_⟩
      rw [retS_new]
      refine AWpL.ofM hn rfl ?_
      simp (config := { maxSteps := 2000000 }) only [go_sem, ↓reduceIte, Int.reduceToNat, Nat.reduceMul, Int.reduceBEq, Int.reduceBNe, Nat.reduceBEq, Nat.reduceAdd, Nat.reduceSub, Nat.reduceLeDiff, Nat.reduceEqDiff, Nat.reduceLT, reduceCtorEq, g2]
      refine AWpL.callA [3] (s13 L m hlt (by omega) (fun x y hy => by rw [List.mem_singleton.1 hy]; rfl)) rfl rfl (by rw [hn]; rfl) rfl (fun r hr => .inr (pin r)) fun rg v hv' => ?_
      obtain ⟨rfl, rfl⟩ := hv'
      refine ⟨Nat.le_refl _, AWpL.ofM hn rfl ?_⟩
      simp (config := { maxSteps := 2000000 }) only [go_sem, ↓reduceIte, Int.reduceToNat, Nat.reduceMul, Int.reduceBEq, Int.reduceBNe, Nat.reduceBEq, Nat.reduceAdd, Nat.reduceSub, Nat.reduceLeDiff, Nat.reduceEqDiff, Nat.reduceLT, reduceCtorEq, Aw.retS, Aw.retRg, Aw.kpM, Aw.bkM, Aw.pos, Aw.isBox]
      have hbor : ((L.eraseIdx m).map sc ++ [[S ⟨#[]⟩]]).take (L.length - 1) = (L.eraseIdx m).map sc := List.take_left' (by rw [List.length_map, hel])
      refine AWpL_callve (y := B (joinB n (L.eraseIdx m) i j)) rfl (by kernel_rfl) (by
        have h := s10 n hk hv none false (L.eraseIdx m) hes (by omega) i j hi hj
        simp (config := { maxSteps := 2000000 }) only [go_sem, ↓reduceIte, Int.reduceToNat, Nat.reduceMul, Int.reduceBEq, Int.reduceBNe, Nat.reduceBEq, Nat.reduceAdd, Nat.reduceSub, Nat.reduceLeDiff, Nat.reduceEqDiff, Nat.reduceLT, reduceCtorEq, Aw.borA, List.map_cons, List.map_nil, List.drop_zero, hbor]
        exact h) rfl (by rw [hn]; rfl) (by simp (config := { maxSteps := 2000000 }) only [go_sem, ↓reduceIte, Int.reduceToNat, Nat.reduceMul, Int.reduceBEq, Int.reduceBNe, Nat.reduceBEq, Nat.reduceAdd, Nat.reduceSub, Nat.reduceLeDiff, Nat.reduceEqDiff, Nat.reduceLT, reduceCtorEq, List.length_append, List.length_map, hel, List.length_cons, List.length_nil] <;> omega) (by simp (config := { maxSteps := 2000000 }) only [go_sem, ↓reduceIte, Int.reduceToNat, Nat.reduceMul, Int.reduceBEq, Int.reduceBNe, Nat.reduceBEq, Nat.reduceAdd, Nat.reduceSub, Nat.reduceLeDiff, Nat.reduceEqDiff, Nat.reduceLT, reduceCtorEq]) (AWpL.ofM hn rfl ?_)
      rw [hjf m hlt]
      simp (config := { maxSteps := 2000000 }) only [go_sem, ↓reduceIte, Int.reduceToNat, Nat.reduceMul, Int.reduceBEq, Int.reduceBNe, Nat.reduceBEq, Nat.reduceAdd, Nat.reduceSub, Nat.reduceLeDiff, Nat.reduceEqDiff, Nat.reduceLT, reduceCtorEq, g2]
      exact ⟨k - 1, by omega, m + 1, by omega, weak_to [0, 1, 2] hp hnp rfl (by simp (config := { maxSteps := 2000000 }) only [go_sem, ↓reduceIte, Int.reduceToNat, Nat.reduceMul, Int.reduceBEq, Int.reduceBNe, Nat.reduceBEq, Nat.reduceAdd, Nat.reduceSub, Nat.reduceLeDiff, Nat.reduceEqDiff, Nat.reduceLT, reduceCtorEq, Aw.pos] <;> rfl) (by simp (config := { maxSteps := 2000000 }) only [go_sem, ↓reduceIte, Int.reduceToNat, Nat.reduceMul, Int.reduceBEq, Int.reduceBNe, Nat.reduceBEq, Nat.reduceAdd, Nat.reduceSub, Nat.reduceLeDiff, Nat.reduceEqDiff, Nat.reduceLT, reduceCtorEq, Aw.renR, Aw.pos] <;> rfl)⟩
    · have g0 : decide ((m : Int) < (L.length : Int)) = false := decide_eq_false (by omega)
      simp (config := { maxSteps := 2000000 }) only [go_sem, ↓reduceIte, Int.reduceToNat, Nat.reduceMul, Int.reduceBEq, Int.reduceBNe, Nat.reduceBEq, Nat.reduceAdd, Nat.reduceSub, Nat.reduceLeDiff, Nat.reduceEqDiff, Nat.reduceLT, reduceCtorEq, g0]
      (refine AWpL.calle (s7) rfl (by rw [hn]; rfl) (by simp (config := { maxSteps := 2000000 }) only [go_sem, ↓reduceIte, Int.reduceToNat, Nat.reduceMul, Int.reduceBEq, Int.reduceBNe, Nat.reduceBEq, Nat.reduceAdd, Nat.reduceSub, Nat.reduceLeDiff, Nat.reduceEqDiff, Nat.reduceLT, reduceCtorEq]) (AWpL.ofM hn rfl ?_); simp (config := { maxSteps := 2000000 }) only [go_sem, ↓reduceIte, Int.reduceToNat, Nat.reduceMul, Int.reduceBEq, Int.reduceBNe, Nat.reduceBEq, Nat.reduceAdd, Nat.reduceSub, Nat.reduceLeDiff, Nat.reduceEqDiff, Nat.reduceLT, reduceCtorEq])
      refine AWpL.guardT rfl (AWpL.weak (weak_opt 109 rfl) (AWpL.weak (weak_opt 108 rfl) ?_))
      refine AWpL_callve (y := B (joinB n L i j)) rfl (by kernel_rfl) (s10 n hk hv none false L hsn (by omega) i j hi hj) rfl (by rw [hn]; rfl) (by simp (config := { maxSteps := 2000000 }) only [go_sem, ↓reduceIte, Int.reduceToNat, Nat.reduceMul, Int.reduceBEq, Int.reduceBNe, Nat.reduceBEq, Nat.reduceAdd, Nat.reduceSub, Nat.reduceLeDiff, Nat.reduceEqDiff, Nat.reduceLT, reduceCtorEq]) (by simp (config := { maxSteps := 2000000 }) only [go_sem, ↓reduceIte, Int.reduceToNat, Nat.reduceMul, Int.reduceBEq, Int.reduceBNe, Nat.reduceBEq, Nat.reduceAdd, Nat.reduceSub, Nat.reduceLeDiff, Nat.reduceEqDiff, Nat.reduceLT, reduceCtorEq]) (AWpL.ofM hn rfl ?_)
      rw [hjt]
      simp (config := { maxSteps := 2000000 }) only [go_sem, ↓reduceIte, Int.reduceToNat, Nat.reduceMul, Int.reduceBEq, Int.reduceBNe, Nat.reduceBEq, Nat.reduceAdd, Nat.reduceSub, Nat.reduceLeDiff, Nat.reduceEqDiff, Nat.reduceLT, reduceCtorEq]
end Go.Proofs.Ytmginfhlohenhaa
