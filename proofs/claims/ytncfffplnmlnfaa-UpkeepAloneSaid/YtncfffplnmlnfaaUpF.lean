/- Upkeep: what the laws compute. -/
import Derived.Test.YtncfffplnmlnfaaAwZf
import Derived.Test.YtncfffplnmlnfaaUpE
set_option linter.unusedVariables false
set_option linter.unusedSimpArgs false
namespace Go.Proofs.Ytncfffplnmlnfaa
open Go.Proofs.Ytncfffplnmlnfaa.Aw
attribute [local go_sem] Int.natCast_zero Int.natCast_one bne_self_eq_false beq_self_eq_true Bool.not_true Bool.not_false Option.isSome_none Option.isSome_some Aw.bkM_nil Option.getD_some Option.getD_none Nat.sub_zero Int.toNat_zero Aw.frzS Aw.frzT Aw.frzA Aw.frzL Aw.frzR Aw.frzO Aw.frzOL Aw.frzOT Aw.frzOR Aw.killS Aw.mapT Aw.mapR Aw.killM Aw.resAVs Aw.resAV Aw.quietOps Aw.wpP Aw.wpT Aw.wpS Aw.AOp.mild List.getElem?_cons_zero List.getElem?_cons_succ Bool.and_false Bool.and_self Bool.false_and Aw.opOb Aw.gdB Aw.Rnd Aw.subTm List.length_map Int.toNat_natCast and_self Aw.SeqC Aw.stops Aw.Ends Aw.looks Aw.renA Aw.renL Aw.renT Aw.renS Aw.wpO Aw.aop Aw.putTm Aw.St.ev Aw.St.put Aw.St.putO Aw.binAV Aw.intBin Aw.strBin Aw.pickAV Aw.optInt Aw.AV.strip Aw.AV.guard Aw.AV.cells Aw.gdOb Aw.AOp.opds Aw.AOp.still Aw.ptrCells Aw.St.reg Aw.fillAV Aw.fillOb Aw.elsOb Aw.splice Aw.firm Aw.cellish Aw.AV.shut Aw.shutAll Aw.Seq Aw.Blk Aw.retS_nil Aw.mapA Aw.mapL Aw.borA Aw.borOb Aw.allOb Aw.tupOf Aw.params Aw.Opd.of Array.toList Value.cells List.map_cons List.map_nil List.getD_cons_zero List.getD_cons_succ List.getD_nil List.length_cons List.length_nil List.take_succ_cons List.take_zero List.take_nil List.drop_zero List.drop_succ_cons List.drop_nil List.set_cons_zero List.set_cons_succ List.append_nil List.nil_append List.cons_append List.all_cons List.all_nil cond_false cond_true if_true if_false true_and and_true Bool.and_true Bool.true_and Option.map_some Option.map_none false_implies forall_const implies_true forall_eq imp_self Bool.cond_false_right Bool.cond_true_left beq_true beq_false Bool.not_eq_true' Bool.false_eq_true Nat.zero_add Nat.add_zero Aw.eqCells Aw.exactCap Aw.overEls Aw.revealS Aw.srcEls Aw.srcSz
attribute [local go_sem ↓] Aw.look_nil Aw.look_ite Aw.wpL_nil Aw.wpL_op Aw.wpL_gd Aw.wpQ_nil Aw.wpQ_op Aw.wpQ_gd Aw.wpC_draw Aw.wpC_reg Aw.wpC_skip Aw.wpC_ret Aw.wpC_exit Aw.wpC_seq Aw.wpC_block Aw.wpC_loop Aw.wpC_cond Aw.stopAt_nil Aw.stopAt_cons Aw.wpD_skip Aw.wpD_ret Aw.wpD_exit Aw.wpD_region Aw.wpD_draw Aw.wpM_nil Aw.wpM_op Aw.wpM_gd Aw.wpD_seq Aw.wpD_block Aw.wpD_loop Aw.wpD_cond
/- gridhall/gridhallkeep4.UpkeepCrews -/
def a3 : ACode :=
  (.seq (.region false [] [
     ⟨(some 1), none, (.box 25 (.t 0))⟩,
     ⟨(some 2), none, (.mov (.v (.bool false)))⟩])
  (.seq (.region false [] [
     ⟨(some 14), none, (.load 3 true (.t 1))⟩,
     ⟨(some 15), none, (.call 6 [(.t 14)])⟩,
     ⟨none, none, (.store 3 (.t 1) (.t 15))⟩])
  (.seq (.region false [] [
     ⟨(some 17), none, (.load 3 true (.t 1))⟩,
     ⟨(some 18), none, (.call 7 [(.t 17)])⟩,
     ⟨(some 16), none, (.mov (.t 18))⟩,
     ⟨(some 19), none, (.ext 0 (.t 16))⟩,
     ⟨(some 20), none, (.ext 1 (.t 16))⟩,
     ⟨(some 21), none, (.ext 2 (.t 16))⟩,
     ⟨(some 3), none, (.mov (.t 19))⟩,
     ⟨(some 4), none, (.mov (.t 20))⟩,
     ⟨(some 5), none, (.mov (.t 21))⟩])
  (.seq (.seq (.region false [] [
     ⟨(some 22), none, (.mov (.t 5))⟩,
     ⟨(some 23), none, (.bin .neq 28 (.t 22) (.v (.int .i64 0)))⟩])
  (.cond (.t 23)
    (.seq (.region false [] [
       ⟨(some 24), none, (.call 8 [])⟩,
       ⟨(some 25), none, (.mov (.t 24))⟩,
       ⟨(some 26), (some (25, true)), (.mov (.t 4))⟩,
       ⟨(some 27), (some (25, true)), (.bin .eql 3 (.t 26) (.v (.int .i64 0)))⟩,
       ⟨(some 28), none, (.pick (.t 25) (.t 27) (.v (.bool false)))⟩,
       ⟨(some 2), none, (.mov (.t 28))⟩])
    .ret)
    .skip))
  (.seq (.region true [[], [], [], [], [2, 0, 0, 2, 3], [3, 1, 4, 0, 1, 2, 3, 4]] [
     ⟨(some 29), none, (.load 3 true (.t 1))⟩,
     ⟨(some 30), none, (.load 3 true (.t 1))⟩,
     ⟨(some 6), none, (.alloc 25 (.agg #[(.slice none 0 0), (.slice none 0 0), (.int .i64 0)]))⟩,
     ⟨(some 7), none, (.alloc 25 (.agg #[(.slice none 0 0), (.slice none 0 0), (.int .i64 0)]))⟩,
     ⟨none, none, (.store 3 (.t 6) (.t 29))⟩,
     ⟨none, none, (.store 3 (.t 7) (.t 30))⟩])
  (.seq (.region false [] [
     ⟨(some 31), none, (.fld 2 (.t 1))⟩,
     ⟨(some 32), none, (.load 1 false (.t 31))⟩,
     ⟨(some 33), none, (.bin .add 3 (.t 32) (.v (.int .i64 1)))⟩,
     ⟨(some 34), none, (.mni (.t 33) (.v (.int .i64 6)))⟩,
     ⟨(some 35), none, (.fld 2 (.t 6))⟩,
     ⟨none, none, (.store 1 (.t 35) (.t 34))⟩])
  (.seq (.region false [] [
     ⟨(some 36), none, (.fld 1 (.t 1))⟩,
     ⟨(some 37), none, (.load 1 false (.t 36))⟩,
     ⟨(some 38), none, (.fld 1 (.t 1))⟩,
     ⟨(some 39), none, (.load 1 false (.t 38))⟩,
     ⟨(some 40), none, (.len (.t 39))⟩,
     ⟨(some 41), none, (.bin .sub 3 (.t 40) (.v (.int .i64 1)))⟩,
     ⟨(some 42), none, (.mxi (.v (.int .i64 0)) (.t 41))⟩,
     ⟨(some 43), none, (.slc 2 (.t 37) none (some (.t 42)) none)⟩,
     ⟨(some 44), none, (.fld 1 (.t 7))⟩,
     ⟨none, none, (.store 1 (.t 44) (.t 43))⟩])
  (.seq (.region false [] [
     ⟨(some 46), none, (.load 3 true (.t 6))⟩,
     ⟨(some 47), none, (.call 7 [(.t 46)])⟩,
     ⟨(some 45), none, (.mov (.t 47))⟩,
     ⟨(some 48), none, (.ext 0 (.t 45))⟩,
     ⟨(some 49), none, (.ext 1 (.t 45))⟩,
     ⟨(some 50), none, (.ext 2 (.t 45))⟩,
     ⟨(some 8), none, (.mov (.t 48))⟩,
     ⟨(some 9), none, (.mov (.t 49))⟩,
     ⟨(some 10), none, (.mov (.t 50))⟩])
  (.seq (.region false [] [
     ⟨(some 52), none, (.load 3 true (.t 7))⟩,
     ⟨(some 53), none, (.call 7 [(.t 52)])⟩,
     ⟨(some 51), none, (.mov (.t 53))⟩,
     ⟨(some 54), none, (.ext 0 (.t 51))⟩,
     ⟨(some 55), none, (.ext 1 (.t 51))⟩,
     ⟨(some 56), none, (.ext 2 (.t 51))⟩,
     ⟨(some 11), none, (.mov (.t 54))⟩,
     ⟨(some 12), none, (.mov (.t 55))⟩,
     ⟨(some 13), none, (.mov (.t 56))⟩])
  (.seq (.region false [] [
     ⟨(some 57), none, (.call 8 [])⟩,
     ⟨(some 58), none, (.mov (.t 57))⟩,
     ⟨(some 59), (some (58, true)), (.mov (.t 10))⟩,
     ⟨(some 60), (some (58, true)), (.bin .eql 28 (.t 59) (.v (.int .i64 0)))⟩,
     ⟨(some 61), none, (.pick (.t 58) (.t 60) (.v (.bool false)))⟩,
     ⟨(some 62), none, (.mov (.t 61))⟩,
     ⟨(some 63), (some (62, true)), (.mov (.t 13))⟩,
     ⟨(some 64), (some (62, true)), (.bin .eql 28 (.t 63) (.v (.int .i64 0)))⟩,
     ⟨(some 65), none, (.pick (.t 62) (.t 64) (.v (.bool false)))⟩,
     ⟨(some 66), none, (.mov (.t 65))⟩,
     ⟨(some 67), (some (66, true)), (.mov (.t 9))⟩,
     ⟨(some 68), (some (66, true)), (.mov (.t 4))⟩,
     ⟨(some 69), (some (66, true)), (.bin .leq 3 (.t 67) (.t 68))⟩,
     ⟨(some 70), none, (.pick (.t 66) (.t 69) (.v (.bool false)))⟩,
     ⟨(some 71), none, (.mov (.t 70))⟩,
     ⟨(some 72), (some (71, true)), (.mov (.t 12))⟩,
     ⟨(some 73), (some (71, true)), (.mov (.t 4))⟩,
     ⟨(some 74), (some (71, true)), (.bin .leq 3 (.t 72) (.t 73))⟩,
     ⟨(some 75), none, (.pick (.t 71) (.t 74) (.v (.bool false)))⟩,
     ⟨(some 2), none, (.mov (.t 75))⟩])
  .ret))))))))))
theorem k3 : FnIs Try.prog 3 76 [.t 2] a3 := ⟨_, _, Try.func3, rfl, by kernel_rfl, by kernel_rfl, rfl⟩
/- gridhall/gridhallkeep4.UpkeepAlone -/
def a4 : ACode :=
  (.seq (.region false [] [
     ⟨(some 1), none, (.box 25 (.t 0))⟩,
     ⟨(some 2), none, (.mov (.v (.bool false)))⟩])
  (.seq (.region false [] [
     ⟨(some 9), none, (.load 3 true (.t 1))⟩,
     ⟨(some 10), none, (.call 6 [(.t 9)])⟩,
     ⟨none, none, (.store 3 (.t 1) (.t 10))⟩])
  (.seq (.region false [] [
     ⟨(some 11), none, (.fld 1 (.t 1))⟩,
     ⟨none, none, (.store 1 (.t 11) (.v (.slice none 0 0)))⟩])
  (.seq (.region false [] [
     ⟨(some 13), none, (.load 3 true (.t 1))⟩,
     ⟨(some 14), none, (.call 7 [(.t 13)])⟩,
     ⟨(some 12), none, (.mov (.t 14))⟩,
     ⟨(some 15), none, (.ext 0 (.t 12))⟩,
     ⟨(some 16), none, (.ext 1 (.t 12))⟩,
     ⟨(some 17), none, (.ext 2 (.t 12))⟩,
     ⟨(some 3), none, (.mov (.t 15))⟩,
     ⟨(some 4), none, (.mov (.t 16))⟩,
     ⟨(some 5), none, (.mov (.t 17))⟩])
  (.seq (.seq (.region false [] [
     ⟨(some 18), none, (.mov (.t 5))⟩,
     ⟨(some 19), none, (.bin .neq 28 (.t 18) (.v (.int .i64 0)))⟩,
     ⟨(some 20), none, (.mov (.t 19))⟩,
     ⟨(some 21), (some (20, false)), (.fld 0 (.t 1))⟩,
     ⟨(some 22), (some (20, false)), (.load 1 false (.t 21))⟩,
     ⟨(some 23), (some (20, false)), (.len (.t 22))⟩,
     ⟨(some 24), (some (20, false)), (.bin .eql 3 (.t 23) (.v (.int .i64 0)))⟩,
     ⟨(some 25), none, (.pick (.t 20) (.v (.bool true)) (.t 24))⟩])
  (.cond (.t 25)
    (.seq (.region false [] [
       ⟨(some 26), none, (.call 8 [])⟩,
       ⟨(some 27), none, (.mov (.t 26))⟩,
       ⟨(some 28), (some (27, true)), (.mov (.t 4))⟩,
       ⟨(some 29), (some (27, true)), (.bin .eql 3 (.t 28) (.v (.int .i64 0)))⟩,
       ⟨(some 30), none, (.pick (.t 27) (.t 29) (.v (.bool false)))⟩,
       ⟨(some 2), none, (.mov (.t 30))⟩])
    .ret)
    .skip))
  (.seq (.region false [] [
     ⟨(some 31), none, (.fld 0 (.t 1))⟩,
     ⟨(some 32), none, (.load 1 false (.t 31))⟩,
     ⟨(some 33), none, (.fld 0 (.t 1))⟩,
     ⟨(some 34), none, (.load 1 false (.t 33))⟩,
     ⟨(some 35), none, (.len (.t 34))⟩,
     ⟨(some 36), none, (.bin .sub 3 (.t 35) (.v (.int .i64 1)))⟩,
     ⟨(some 37), none, (.slc 5 (.t 32) none (some (.t 36)) none)⟩,
     ⟨(some 38), none, (.fld 0 (.t 1))⟩,
     ⟨none, none, (.store 1 (.t 38) (.t 37))⟩])
  (.seq (.region false [] [
     ⟨(some 40), none, (.load 3 true (.t 1))⟩,
     ⟨(some 41), none, (.call 7 [(.t 40)])⟩,
     ⟨(some 39), none, (.mov (.t 41))⟩,
     ⟨(some 42), none, (.ext 0 (.t 39))⟩,
     ⟨(some 43), none, (.ext 1 (.t 39))⟩,
     ⟨(some 44), none, (.ext 2 (.t 39))⟩,
     ⟨(some 6), none, (.mov (.t 42))⟩,
     ⟨(some 7), none, (.mov (.t 43))⟩,
     ⟨(some 8), none, (.mov (.t 44))⟩])
  (.seq (.region false [] [
     ⟨(some 45), none, (.call 8 [])⟩,
     ⟨(some 46), none, (.mov (.t 45))⟩,
     ⟨(some 47), (some (46, true)), (.mov (.t 8))⟩,
     ⟨(some 48), (some (46, true)), (.bin .eql 28 (.t 47) (.v (.int .i64 0)))⟩,
     ⟨(some 49), none, (.pick (.t 46) (.t 48) (.v (.bool false)))⟩,
     ⟨(some 50), none, (.mov (.t 49))⟩,
     ⟨(some 51), (some (50, true)), (.mov (.t 7))⟩,
     ⟨(some 52), (some (50, true)), (.mov (.t 4))⟩,
     ⟨(some 53), (some (50, true)), (.bin .leq 3 (.t 51) (.t 52))⟩,
     ⟨(some 54), none, (.pick (.t 50) (.t 53) (.v (.bool false)))⟩,
     ⟨(some 2), none, (.mov (.t 54))⟩])
  .ret))))))))
theorem k4 : FnIs Try.prog 4 55 [.t 2] a4 := ⟨_, _, Try.func4, rfl, by kernel_rfl, by kernel_rfl, rfl⟩
/- gridhall/gridhallkeep4.UpkeepVerified -/
def a5 : ACode :=
  (.seq (.region false [] [
     ⟨(some 2), none, (.box 25 (.t 0))⟩,
     ⟨(some 4), none, (.mov (.v (.bool false)))⟩])
  (.seq (.region false [] [
     ⟨(some 12), none, (.load 3 true (.t 2))⟩,
     ⟨(some 13), none, (.call 6 [(.t 12)])⟩,
     ⟨none, none, (.store 3 (.t 2) (.t 13))⟩])
  (.seq (.region false [] [
     ⟨(some 15), none, (.load 3 true (.t 2))⟩,
     ⟨(some 16), none, (.call 7 [(.t 15)])⟩,
     ⟨(some 14), none, (.mov (.t 16))⟩,
     ⟨(some 17), none, (.ext 0 (.t 14))⟩,
     ⟨(some 18), none, (.ext 1 (.t 14))⟩,
     ⟨(some 19), none, (.ext 2 (.t 14))⟩,
     ⟨(some 5), none, (.mov (.t 17))⟩,
     ⟨(some 6), none, (.mov (.t 18))⟩,
     ⟨(some 7), none, (.mov (.t 19))⟩])
  (.seq (.region false [] [
     ⟨(some 21), none, (.load 3 true (.t 2))⟩,
     ⟨(some 22), none, (.mov (.t 1))⟩,
     ⟨(some 23), none, (.call 9 [(.t 21), (.t 22)])⟩,
     ⟨(some 20), none, (.mov (.t 23))⟩,
     ⟨(some 24), none, (.ext 0 (.t 20))⟩,
     ⟨(some 25), none, (.ext 1 (.t 20))⟩,
     ⟨(some 8), none, (.mov (.t 24))⟩,
     ⟨(some 9), none, (.mov (.t 25))⟩])
  (.seq (.seq (.region false [] [
     ⟨(some 26), none, (.mov (.t 7))⟩,
     ⟨(some 27), none, (.bin .neq 28 (.t 26) (.v (.int .i64 0)))⟩])
  (.cond (.t 27)
    (.seq (.region false [] [
       ⟨(some 28), none, (.call 8 [])⟩,
       ⟨(some 29), none, (.mov (.t 28))⟩,
       ⟨(some 30), (some (29, true)), (.mov (.t 5))⟩,
       ⟨(some 31), (some (29, true)), (.len (.t 30))⟩,
       ⟨(some 32), (some (29, true)), (.bin .eql 3 (.t 31) (.v (.int .i64 0)))⟩,
       ⟨(some 33), none, (.pick (.t 29) (.t 32) (.v (.bool false)))⟩,
       ⟨(some 34), none, (.mov (.t 33))⟩,
       ⟨(some 35), (some (34, true)), (.mov (.t 6))⟩,
       ⟨(some 36), (some (34, true)), (.bin .eql 3 (.t 35) (.v (.int .i64 0)))⟩,
       ⟨(some 37), none, (.pick (.t 34) (.t 36) (.v (.bool false)))⟩,
       ⟨(some 38), none, (.mov (.t 37))⟩,
       ⟨(some 39), (some (38, true)), (.mov (.t 7))⟩,
       ⟨(some 40), (some (38, true)), (.bin .neq 28 (.t 39) (.v (.int .i64 8)))⟩,
       ⟨(some 41), (some (38, true)), (.mov (.t 40))⟩,
       ⟨(some 42), (some (41, false)), (.mov (.t 9))⟩,
       ⟨(some 43), (some (41, false)), (.bin .neq 28 (.t 42) (.v (.int .i64 0)))⟩,
       ⟨(some 44), (some (38, true)), (.pick (.t 41) (.v (.bool true)) (.t 43))⟩,
       ⟨(some 45), none, (.pick (.t 38) (.t 44) (.v (.bool false)))⟩,
       ⟨(some 4), none, (.mov (.t 45))⟩])
    .ret)
    .skip))
  (.seq (.region false [] [
     ⟨(some 47), none, (.load 3 true (.t 2))⟩,
     ⟨(some 48), none, (.mov (.t 5))⟩,
     ⟨(some 49), none, (.call 9 [(.t 47), (.t 48)])⟩,
     ⟨(some 46), none, (.mov (.t 49))⟩,
     ⟨(some 50), none, (.ext 0 (.t 46))⟩,
     ⟨(some 51), none, (.ext 1 (.t 46))⟩,
     ⟨(some 10), none, (.mov (.t 50))⟩,
     ⟨(some 11), none, (.mov (.t 51))⟩])
  (.seq (.region false [] [
     ⟨(some 52), none, (.call 8 [])⟩,
     ⟨(some 53), none, (.mov (.t 52))⟩,
     ⟨(some 54), (some (53, true)), (.mov (.t 11))⟩,
     ⟨(some 55), (some (53, true)), (.bin .eql 28 (.t 54) (.v (.int .i64 0)))⟩,
     ⟨(some 56), none, (.pick (.t 53) (.t 55) (.v (.bool false)))⟩,
     ⟨(some 57), none, (.mov (.t 56))⟩,
     ⟨(some 58), (some (57, true)), (.mov (.t 10))⟩,
     ⟨(some 59), (some (57, true)), (.mov (.t 6))⟩,
     ⟨(some 60), (some (57, true)), (.bin .eql 3 (.t 58) (.t 59))⟩,
     ⟨(some 61), none, (.pick (.t 57) (.t 60) (.v (.bool false)))⟩,
     ⟨(some 62), none, (.mov (.t 61))⟩,
     ⟨(some 63), (some (62, true)), (.mov (.t 9))⟩,
     ⟨(some 64), (some (62, true)), (.bin .neq 28 (.t 63) (.v (.int .i64 0)))⟩,
     ⟨(some 65), (some (62, true)), (.mov (.t 64))⟩,
     ⟨(some 66), (some (65, false)), (.mov (.t 8))⟩,
     ⟨(some 67), (some (65, false)), (.mov (.t 6))⟩,
     ⟨(some 68), (some (65, false)), (.bin .geq 3 (.t 66) (.t 67))⟩,
     ⟨(some 69), (some (62, true)), (.pick (.t 65) (.v (.bool true)) (.t 68))⟩,
     ⟨(some 70), none, (.pick (.t 62) (.t 69) (.v (.bool false)))⟩,
     ⟨(some 4), none, (.mov (.t 70))⟩])
  .ret)))))))
theorem k5 : FnIs Try.prog 5 71 [.t 4] a5 := ⟨_, _, Try.func5, rfl, by kernel_rfl, by kernel_rfl, rfl⟩

/-- What Best says of a task that Check lets in. -/
theorem best_some {t : Task} (hc : upChk t = 0) (hz : 0 < t.jobs.length) (hs : SPost t [] none (searchF t t.jobs.length [] none) All) (he : (bestF t).2.2 = 0) :
    Full t (bestF t).1 ∧ (bestF t).2.1 = costE t (bestF t).1 ∧ ∀ p, Full t p → (bestF t).2.1 ≤ costE t p := by
  unfold bestF at he ⊢
  rw [if_neg (by simp [hc]), if_neg (by omega)] at he ⊢
  cases hr : searchF t t.jobs.length [] none with
  | none => rw [hr] at he; cases he
  | some q =>
    rw [hr] at hs
    exact ⟨hs.full q rfl, rfl, fun p hp => hs.new q p rfl hp (List.nil_prefix) trivial⟩
theorem best_none {t : Task} (hc : upChk t = 0) (hz : 0 < t.jobs.length) (hs : SPost t [] none (searchF t t.jobs.length [] none) All) (he : (bestF t).2.2 ≠ 0) : (bestF t) = ([], 0, 8) ∧ ∀ p, ¬ Full t p := by
  unfold bestF at he ⊢
  rw [if_neg (by simp [hc]), if_neg (by omega)] at he ⊢
  cases hr : searchF t t.jobs.length [] none with
  | none =>
    rw [hr] at hs
    exact ⟨rfl, fun p hp => (hs.none rfl).2 p hp List.nil_prefix trivial⟩
  | some q => rw [hr] at he; exact absurd rfl he
theorem best_err {t : Task} (he : (bestF t).2.2 ≠ 0) : (bestF t).1 = [] ∧ (bestF t).2.1 = 0 := by
  unfold bestF at he ⊢
  split
  · exact ⟨rfl, rfl⟩
  · rename_i h1
    rw [if_neg h1] at he
    split
    · rename_i h2; rw [if_pos h2] at he; exact absurd rfl he
    · rename_i h2
      rw [if_neg h2] at he
      split
      · exact ⟨rfl, rfl⟩
      · rename_i q hq; rw [hq] at he; exact absurd rfl he
theorem best_chk {t : Task} (he : (bestF t).2.2 = 0) : upChk t = 0 := by
  unfold bestF at he
  split at he
  · exact he
  · rename_i h; exact Classical.not_not.1 h
theorem costE_nonneg {t : Task} (hok : UpOk t) {l : List Int} (h : InWin t l) : 0 ≤ costE t l := (costN_bound hok h l.length (Nat.le_refl _)).1
theorem best_nonneg {t : Task} (hs : upChk t = 0 → 0 < t.jobs.length → SPost t [] none (searchF t t.jobs.length [] none) All) : 0 ≤ (bestF t).2.1 := by
  by_cases he : (bestF t).2.2 = 0
  · have hc := best_chk he
    rcases Nat.eq_zero_or_pos t.jobs.length with hz | hz
    · unfold bestF; rw [if_neg (by simp [hc]), if_pos hz]; exact Int.le_refl _
    · obtain ⟨h1, h2, _⟩ := best_some hc hz (hs hc hz) he
      rw [h2]; exact costE_nonneg (up_ok hc) h1.1.1
  · rw [(best_err he).2]; exact Int.le_refl _
/-- A task that allows more has a best plan that costs at most as much. -/
theorem best_mono {t t' : Task} (hj : t'.jobs = t.jobs) (hc' : upChk t = 0 → upChk t' = 0) (ha : ∀ l, allowedE t l = 0 → allowedE t' l = 0) (he : (bestF t).2.2 = 0)
    (hs : upChk t = 0 → 0 < t.jobs.length → SPost t [] none (searchF t t.jobs.length [] none) All) (hs' : upChk t' = 0 → 0 < t'.jobs.length → SPost t' [] none (searchF t' t'.jobs.length [] none) All) :
    (bestF t').2.2 = 0 ∧ (bestF t').2.1 ≤ (bestF t).2.1 := by
  have hc := best_chk he
  have hc2 := hc' hc
  rcases Nat.eq_zero_or_pos t.jobs.length with hz | hz
  · have e1 : bestF t = ([], 0, 0) := by unfold bestF; rw [if_neg (by simp [hc]), if_pos hz]
    have e2 : bestF t' = ([], 0, 0) := by unfold bestF; rw [if_neg (by simp [hc2]), if_pos (by rw [hj]; exact hz)]
    rw [e1, e2]
    exact ⟨rfl, Int.le_refl _⟩
  · obtain ⟨h1, h2, _⟩ := best_some hc hz (hs hc hz) he
    have hz' : 0 < t'.jobs.length := by rw [hj]; exact hz
    have hjob : ∀ i, job t' i = job t i := fun i => by unfold job; rw [hj]
    have hcost : ∀ l n, costN t' l n = costN t l n := fun l n => by
      induction n with
      | zero => rfl
      | succ n ih => rw [costN, costN, ih, hjob]
    have hf : Full t' (bestF t).1 := ⟨⟨⟨by rw [hj]; exact h1.1.1.1, fun i hi => by rw [hjob]; exact h1.1.1.2 i hi⟩, fun k hk => ha _ (h1.1.2 k hk)⟩, by rw [hj]; exact h1.2⟩
    have he' : (bestF t').2.2 = 0 := by
      by_cases h : (bestF t').2.2 = 0
      · exact h
      · exact absurd hf ((best_none hc2 hz' (hs' hc2 hz') h).2 _)
    obtain ⟨_, _, h5⟩ := best_some hc2 hz' (hs' hc2 hz') he'
    refine ⟨he', ?_⟩
    rw [h2]
    have := h5 _ hf
    unfold costE at this ⊢
    rw [hcost] at this
    exact this
def moreT (t : Task) : Task := { t with crews := min (t.crews + 1) 6 }
def lessT (t : Task) (fa : Bool) : Task := { t with fa := fa, apart := t.apart.take (t.apart.length - 1) }
theorem more_chk {t : Task} (h : upChk t = 0) : upChk (moreT t) = 0 := by
  have hok := up_ok h
  have h1 := hok.crews
  unfold upChk moreT at *
  simp only at *
  split at h
  · cases h
  split at h
  · cases h
  rename_i h2 h3
  rw [if_neg h2, if_neg (by omega)]
  exact h
theorem chkP_take {n : Nat} : ∀ {l : List (Int × Int)} (k : Nat), chkP n l = 0 → chkP n (l.take k) = 0
  | _, 0, h => by simp [chkP]
  | [], k + 1, h => by simp [chkP]
  | p :: l, k + 1, h => by
    rw [List.take_succ_cons]
    unfold chkP at h ⊢
    split at h
    · cases h
    split at h
    · cases h
    rename_i h1 h2
    rw [if_neg h1, if_neg h2]
    exact chkP_take k h
theorem less_chk {t : Task} (fa) (h : upChk t = 0) : upChk (lessT t fa) = 0 := by
  unfold upChk lessT at *
  simp only at *
  split at h
  · cases h
  split at h
  · cases h
  split at h
  · rename_i h1; exact absurd h h1
  rename_i h2 h3 h4
  rw [if_neg (by simp; omega), if_neg h3, if_neg h4]
  exact chkP_take _ h
theorem more_allowed {t : Task} (hc : t.crews ≤ min (t.crews + 1) 6) (l : List Int) (h : allowedE t l = 0) : allowedE (moreT t) l = 0 := by
  unfold allowedE at h ⊢
  split at h
  · cases h
  split at h
  · cases h
  rename_i h1 h2
  have h3 : (moreT t).apart.any (badPair (moreT t) l) = t.apart.any (badPair t l) := rfl
  rw [h3, if_neg h1, if_neg]
  intro h4
  apply h2
  rw [List.any_eq_true] at h4 ⊢
  obtain ⟨j, hj, ho⟩ := h4
  refine ⟨j, hj, ?_⟩
  unfold overB at ho ⊢
  rw [decide_eq_true_eq] at ho ⊢
  have h5 : (moreT t).crews = min (t.crews + 1) 6 := rfl
  have h6 : ∀ d i, manyN (moreT t) l d i = manyN t l d i := fun d i => rfl
  rw [h5, h6] at ho
  omega
theorem less_allowed {t : Task} (fa) (l : List Int) (h : allowedE t l = 0) : allowedE (lessT t fa) l = 0 := by
  unfold allowedE at h ⊢
  split at h
  · cases h
  split at h
  · cases h
  rename_i h1 h2
  rw [if_neg, if_neg]
  · exact h2
  · intro h3
    apply h1
    rw [List.any_eq_true] at h3 ⊢
    obtain ⟨p, hp, hb⟩ := h3
    exact ⟨p, List.mem_of_mem_take hp, hb⟩
set_option maxRecDepth 20000 in
set_option maxHeartbeats 1000000 in
theorem s3 (t : Task) (hs : Named t) (hl63 : t.jobs.length ≤ 9223372036854775807) (hcw : -9223372036854775808 ≤ t.crews ∧ t.crews ≤ 9223372036854775807) (ha63 : t.apart.length ≤ 9223372036854775807) : Aw.Spec Try.prog 3 [] [ta t] (Gives (· = B true)) := by
  refine Aw.Spec.givesW k3 rfl rfl fun E hn hnp hp => ?_
  unfold a3
  have pin : ∀ r, E.pin r = none := fun r => hp.none hnp (Nat.zero_le _)
  refine AWp.ofD [] [] hn mixed rfl ?_
  simp (config := { maxSteps := 2000000 }) only [go_sem, ↓reduceIte, Int.reduceToNat, Nat.reduceMul, Int.reduceBEq, Int.reduceBNe, Nat.reduceBEq, Nat.reduceAdd, Nat.reduceSub, Nat.reduceLeDiff, Nat.reduceEqDiff, Nat.reduceLT, reduceCtorEq]
  refine AWpL.callA [] (s6 t hl63) rfl rfl (by rw [hn]; rfl) rfl (fun r hr => by cases hr) fun rg v hv => ?_
  obtain ⟨rfl, rfl⟩ := hv
  refine ⟨Nat.zero_le _, ?_⟩
  rw [retS_new]
  have hsm := hs.small
  have hcr : (smallT t).crews = t.crews := rfl
  have hap : (smallT t).apart = t.apart := rfl
  generalize smallT t = T at *
  refine AWpL.ofM hn rfl ?_
  simp (config := { maxSteps := 2000000 }) only [go_sem, ↓reduceIte, Int.reduceToNat, Nat.reduceMul, Int.reduceBEq, Int.reduceBNe, Nat.reduceBEq, Nat.reduceAdd, Nat.reduceSub, Nat.reduceLeDiff, Nat.reduceEqDiff, Nat.reduceLT, reduceCtorEq]
  refine AWpL.callA [] (s7 T hsm) rfl rfl (by rw [hn]; rfl) rfl (fun r hr => by cases hr) fun rg v hv => ?_
  obtain ⟨rfl, rfl, hsp⟩ := hv
  refine ⟨Nat.zero_le _, ?_⟩
  rw [retS_nil]
  refine AWpL.ofM hn rfl ?_
  simp (config := { maxSteps := 2000000 }) only [go_sem, ↓reduceIte, Int.reduceToNat, Nat.reduceMul, Int.reduceBEq, Int.reduceBNe, Nat.reduceBEq, Nat.reduceAdd, Nat.reduceSub, Nat.reduceLeDiff, Nat.reduceEqDiff, Nat.reduceLT, reduceCtorEq]
  simp only [bne_iff_ne, ne_eq, bne_eq_false_iff_eq]
  refine ⟨fun h => ?_, fun h => ?_⟩
  · (refine AWpL.calle (s8) rfl (by rw [hn]; rfl) (by simp (config := { maxSteps := 2000000 }) only [go_sem, ↓reduceIte, Int.reduceToNat, Nat.reduceMul, Int.reduceBEq, Int.reduceBNe, Nat.reduceBEq, Nat.reduceAdd, Nat.reduceSub, Nat.reduceLeDiff, Nat.reduceEqDiff, Nat.reduceLT, reduceCtorEq]) (AWpL.ofM hn rfl ?_); simp (config := { maxSteps := 2000000 }) only [go_sem, ↓reduceIte, Int.reduceToNat, Nat.reduceMul, Int.reduceBEq, Int.reduceBNe, Nat.reduceBEq, Nat.reduceAdd, Nat.reduceSub, Nat.reduceLeDiff, Nat.reduceEqDiff, Nat.reduceLT, reduceCtorEq])
    rw [(best_err h).2]; rfl
  have hc := best_chk h
  have hok := up_ok hc
  have hcw2 := hok.crews
  have hal := hok.alen
  refine AWp.cut ⟨[(1, .ptr 0 0 0), (4, I (bestF T).2.1), (6, .ptr 1 0 0), (7, .ptr 2 0 0)], [.box 25 (tc T), .box 25 (tc T), .box 25 (tc T)]⟩ ?_ ?_
  · refine AWp.plan (.take 0 [false, true, true, true, false, false] (.three 1 (.two 2 (.one 3 (.one 4 (.one 5 .done))) 3 (.one 2 (.one 4 (.one 5 .done)))) 2 (.two 1 (.one 3 (.one 4 (.one 5 .done))) 3 (.two 1 (.one 4 (.one 5 .done)) 4 (.take 1 [true, false, true, true, true, false] (.one 5 .done)))) 3 (.two 1 (.one 2 (.one 4 (.one 5 .done))) 2 (.two 1 (.one 4 (.one 5 .done)) 4 (.take 1 [true, false, true, true, true, false] (.one 5 .done)))))) [true, true, true, true, false, false] mixed hn rfl rfl ?_
    simp (config := { maxSteps := 2000000 }) only [go_sem, ↓reduceIte, Int.reduceToNat, Nat.reduceMul, Int.reduceBEq, Int.reduceBNe, Nat.reduceBEq, Nat.reduceAdd, Nat.reduceSub, Nat.reduceLeDiff, Nat.reduceEqDiff, Nat.reduceLT, reduceCtorEq]
    repeat' refine And.intro ?_ ?_
    all_goals first
      | (refine weak_to [0, 2, 3] hp hnp rfl ?_ ?_ <;> (simp (config := { maxSteps := 2000000 }) only [go_sem, ↓reduceIte, Int.reduceToNat, Nat.reduceMul, Int.reduceBEq, Int.reduceBNe, Nat.reduceBEq, Nat.reduceAdd, Nat.reduceSub, Nat.reduceLeDiff, Nat.reduceEqDiff, Nat.reduceLT, reduceCtorEq, Aw.renR, Aw.pos]) <;> fail)
      | (refine weak_to [0, 3, 2] hp hnp rfl ?_ ?_ <;> (simp (config := { maxSteps := 2000000 }) only [go_sem, ↓reduceIte, Int.reduceToNat, Nat.reduceMul, Int.reduceBEq, Int.reduceBNe, Nat.reduceBEq, Nat.reduceAdd, Nat.reduceSub, Nat.reduceLeDiff, Nat.reduceEqDiff, Nat.reduceLT, reduceCtorEq, Aw.renR, Aw.pos]) <;> fail)
  have e1 : IntKind.i64.wrap (T.crews + 1) = T.crews + 1 := w64 (by omega) (by omega)
  have e2 : max 0 (IntKind.i64.wrap ((T.apart.length : Int) - 1)) = ((T.apart.length - 1 : Nat) : Int) := by rw [w64 (by omega) (by omega)]; omega
  have e3 : ((T.apart.map pc).take (T.apart.length - 1)) = (T.apart.take (T.apart.length - 1)).map pc := List.map_take.symm
  simp (config := { maxSteps := 2000000 }) only [go_sem, ↓reduceIte, Int.reduceToNat, Nat.reduceMul, Int.reduceBEq, Int.reduceBNe, Nat.reduceBEq, Nat.reduceAdd, Nat.reduceSub, Nat.reduceLeDiff, Nat.reduceEqDiff, Nat.reduceLT, reduceCtorEq, e1, e2, e3]
  (repeat (refine And.intro (by first | omega | (refine ⟨by omega, by omega⟩) | (refine ⟨by omega, by omega, by omega⟩) | (simp only [List.length_map, List.length_range, List.length_append, List.length_cons, List.length_nil, List.length_replicate, List.length_set]; omega) | (simp; omega) | (intro hgd; cases hgd) | (intro hgd; refine ⟨hgd, ?_⟩; first | omega | (refine ⟨by omega, by omega⟩) | (simp; omega))) ?_))
  refine AWpL.callA [] (s7 (moreT T) hsm) rfl rfl (by rw [hn]; rfl) rfl (fun r hr => by cases hr) fun rg v hv => ?_
  obtain ⟨rfl, rfl, hsp1⟩ := hv
  refine ⟨Nat.zero_le _, ?_⟩
  rw [retS_nil]
  refine AWpL.ofM hn rfl ?_
  simp (config := { maxSteps := 2000000 }) only [go_sem, ↓reduceIte, Int.reduceToNat, Nat.reduceMul, Int.reduceBEq, Int.reduceBNe, Nat.reduceBEq, Nat.reduceAdd, Nat.reduceSub, Nat.reduceLeDiff, Nat.reduceEqDiff, Nat.reduceLT, reduceCtorEq]
  refine AWpL.callA [] (s7 (lessT T false) hsm) rfl rfl (by rw [hn]; rfl) rfl (fun r hr => by cases hr) fun rg v hv => ?_
  obtain ⟨rfl, rfl, hsp2⟩ := hv
  refine ⟨Nat.zero_le _, ?_⟩
  rw [retS_nil]
  refine AWpL.ofM hn rfl ?_
  simp (config := { maxSteps := 2000000 }) only [go_sem, ↓reduceIte, Int.reduceToNat, Nat.reduceMul, Int.reduceBEq, Int.reduceBNe, Nat.reduceBEq, Nat.reduceAdd, Nat.reduceSub, Nat.reduceLeDiff, Nat.reduceEqDiff, Nat.reduceLT, reduceCtorEq]
  obtain ⟨g1, g2⟩ := best_mono (t := T) (t' := moreT T) rfl more_chk (more_allowed (by omega)) h hsp hsp1
  obtain ⟨g3, g4⟩ := best_mono (t := T) (t' := lessT T false) rfl (less_chk false) (less_allowed false) h hsp hsp2
  have f1 := decide_eq_true g2
  have f2 := decide_eq_true g4
  (refine AWpL.calle (s8) rfl (by rw [hn]; rfl) (by simp (config := { maxSteps := 2000000 }) only [go_sem, ↓reduceIte, Int.reduceToNat, Nat.reduceMul, Int.reduceBEq, Int.reduceBNe, Nat.reduceBEq, Nat.reduceAdd, Nat.reduceSub, Nat.reduceLeDiff, Nat.reduceEqDiff, Nat.reduceLT, reduceCtorEq]) (AWpL.ofM hn rfl ?_); simp (config := { maxSteps := 2000000 }) only [go_sem, ↓reduceIte, Int.reduceToNat, Nat.reduceMul, Int.reduceBEq, Int.reduceBNe, Nat.reduceBEq, Nat.reduceAdd, Nat.reduceSub, Nat.reduceLeDiff, Nat.reduceEqDiff, Nat.reduceLT, reduceCtorEq])
  rw [g1, g3, f1, f2]; rfl
end Go.Proofs.Ytncfffplnmlnfaa
