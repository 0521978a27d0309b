/- Islands: the law of splits. -/
import Derived.Test.YtmkodhpbjedfkaaAwZh
import Derived.Test.YtmkodhpbjedfkaaIslG
import Derived.Test.YtmkodhpbjedfkaaIslC
set_option linter.unusedVariables false
set_option linter.unusedSimpArgs false
namespace Go.Proofs.Ytmkodhpbjedfkaa
open Go.Proofs.Ytmkodhpbjedfkaa.Aw
attribute [local go_sem] Int.natCast_zero Int.natCast_one bne_self_eq_false beq_self_eq_true Bool.not_true Bool.not_false Option.isSome_none Option.isSome_some Aw.bkM_nil Option.getD_some Option.getD_none Nat.sub_zero Int.toNat_zero Aw.frzS Aw.frzT Aw.frzA Aw.frzL Aw.frzR Aw.frzO Aw.frzOL Aw.frzOT Aw.frzOR Aw.killS Aw.mapT Aw.mapR Aw.killM Aw.resAVs Aw.resAV Aw.quietOps Aw.wpP Aw.wpT Aw.wpS Aw.AOp.mild List.getElem?_cons_zero List.getElem?_cons_succ Bool.and_false Bool.and_self Bool.false_and Aw.opOb Aw.gdB Aw.Rnd Aw.subTm List.length_map Int.toNat_natCast and_self Aw.SeqC Aw.stops Aw.Ends Aw.looks Aw.renA Aw.renL Aw.renT Aw.renS Aw.wpO Aw.aop Aw.putTm Aw.St.ev Aw.St.put Aw.St.putO Aw.binAV Aw.intBin Aw.strBin Aw.pickAV Aw.optInt Aw.AV.strip Aw.AV.guard Aw.AV.cells Aw.gdOb Aw.AOp.opds Aw.AOp.still Aw.ptrCells Aw.St.reg Aw.fillAV Aw.fillOb Aw.elsOb Aw.splice Aw.firm Aw.cellish Aw.AV.shut Aw.shutAll Aw.Seq Aw.Blk Aw.retS_nil Aw.mapA Aw.mapL Aw.borA Aw.borOb Aw.allOb Aw.tupOf Aw.params Aw.Opd.of Array.toList Value.cells List.map_cons List.map_nil List.getD_cons_zero List.getD_cons_succ List.getD_nil List.length_cons List.length_nil List.take_succ_cons List.take_zero List.take_nil List.drop_zero List.drop_succ_cons List.drop_nil List.set_cons_zero List.set_cons_succ List.append_nil List.nil_append List.cons_append List.all_cons List.all_nil cond_false cond_true if_true if_false true_and and_true Bool.and_true Bool.true_and Option.map_some Option.map_none false_implies forall_const implies_true forall_eq imp_self Bool.cond_false_right Bool.cond_true_left beq_true beq_false Bool.not_eq_true' Bool.false_eq_true Nat.zero_add Nat.add_zero Aw.eqCells Aw.stopDraw Aw.skipS Aw.exactCap Aw.revealS Aw.srcEls Aw.srcSz
attribute [local go_sem ↓] Aw.look_nil Aw.look_ite Aw.wpL_nil Aw.wpL_op Aw.wpL_gd Aw.wpQ_nil Aw.wpQ_op Aw.wpQ_gd Aw.wpC_draw Aw.wpC_reg Aw.wpC_skip Aw.wpC_ret Aw.wpC_exit Aw.wpC_seq Aw.wpC_block Aw.wpC_loop Aw.wpC_cond Aw.stopAt_nil Aw.stopAt_cons Aw.wpD_skip Aw.wpD_ret Aw.wpD_exit Aw.wpD_region Aw.wpD_draw Aw.wpM_nil Aw.wpM_op Aw.wpM_gd Aw.wpD_seq Aw.wpD_block Aw.wpD_loop Aw.wpD_cond
/- gridhall/islands.Places -/
def a14 : ACode :=
  (.seq (.region false [] [
     ⟨(some 1), none, (.box 29 (.t 0))⟩,
     ⟨(some 2), none, (.mov (.v (.slice none 0 0)))⟩,
     ⟨(some 3), none, (.mov (.v (.int .i64 0)))⟩])
  (.seq (.seq (.region false [] [
     ⟨(some 7), none, (.load 6 true (.t 1))⟩,
     ⟨(some 8), none, (.call 10 [(.t 7)])⟩,
     ⟨(some 4), none, (.mov (.t 8))⟩])
  (.seq (.region false [] [
     ⟨(some 9), none, (.mov (.t 4))⟩,
     ⟨(some 10), none, (.bin .neq 31 (.t 9) (.v (.int .i64 0)))⟩])
  (.cond (.t 10)
    (.seq (.region false [] [
       ⟨(some 11), none, (.mov (.t 4))⟩,
       ⟨(some 2), none, (.mov (.v (.slice none 0 0)))⟩,
       ⟨(some 3), none, (.mov (.t 11))⟩])
    .ret)
    .skip)))
  (.seq (.region false [] [
     ⟨(some 13), none, (.load 6 true (.t 1))⟩,
     ⟨(some 14), none, (.call 16 [(.t 13)])⟩,
     ⟨(some 12), none, (.mov (.t 14))⟩,
     ⟨(some 15), none, (.ext 0 (.t 12))⟩,
     ⟨(some 16), none, (.ext 1 (.t 12))⟩,
     ⟨(some 5), none, (.mov (.t 15))⟩,
     ⟨(some 6), none, (.mov (.t 16))⟩])
  (.seq (.region false [] [
     ⟨(some 17), none, (.mov (.t 5))⟩,
     ⟨(some 2), none, (.mov (.t 17))⟩,
     ⟨(some 3), none, (.mov (.v (.int .i64 0)))⟩])
  .ret))))
theorem k14 : FnIs Try.prog 14 18 [.t 2, .t 3] a14 := ⟨_, _, Try.func14, rfl, by kernel_rfl, by kernel_rfl, rfl⟩
/- gridhall/islands.Splits -/
def a12 : ACode :=
  (.seq (.region false [] [
     ⟨(some 2), none, (.box 29 (.t 0))⟩,
     ⟨(some 4), none, (.mov (.v (.bool false)))⟩,
     ⟨(some 5), none, (.mov (.v (.int .i64 0)))⟩])
  (.seq (.region false [] [
     ⟨(some 16), none, (.load 6 true (.t 2))⟩,
     ⟨(some 17), none, (.mov (.t 1))⟩,
     ⟨(some 18), none, (.call 26 [(.t 16), (.t 17)])⟩,
     ⟨(some 15), none, (.mov (.t 18))⟩,
     ⟨(some 19), none, (.ext 0 (.t 15))⟩,
     ⟨(some 20), none, (.ext 1 (.t 15))⟩,
     ⟨(some 21), none, (.ext 2 (.t 15))⟩,
     ⟨(some 6), none, (.mov (.t 19))⟩,
     ⟨(some 7), none, (.mov (.t 20))⟩,
     ⟨(some 8), none, (.mov (.t 21))⟩])
  (.seq (.block 0 (.seq (.region false [] [
      ⟨(some 23), none, (.mov (.t 8))⟩,
      ⟨(some 24), none, (.bin .neq 31 (.t 23) (.v (.int .i64 0)))⟩,
      ⟨(some 22), none, (.mov (.t 24))⟩])
   (.cond (.t 22)
     (.seq (.region false [] [
        ⟨(some 25), none, (.mov (.t 8))⟩,
        ⟨(some 4), none, (.mov (.v (.bool false)))⟩,
        ⟨(some 5), none, (.mov (.t 25))⟩])
     .ret)
     (.seq (.region false [] [
        ⟨(some 27), none, (.mov (.t 6))⟩,
        ⟨(some 28), none, (.bin .neq 9 (.t 27) (.v (.string ⟨#[115, 119, 105, 116, 99, 104]⟩)))⟩,
        ⟨(some 29), none, (.mov (.t 28))⟩,
        ⟨(some 30), (some (29, true)), (.mov (.t 6))⟩,
        ⟨(some 31), (some (29, true)), (.bin .neq 9 (.t 30) (.v (.string ⟨#[98, 114, 97, 110, 99, 104]⟩)))⟩,
        ⟨(some 32), none, (.pick (.t 29) (.t 31) (.v (.bool false)))⟩,
        ⟨(some 26), none, (.mov (.t 32))⟩])
     (.cond (.t 26)
       (.seq (.region false [] [
          ⟨(some 4), none, (.mov (.v (.bool false)))⟩,
          ⟨(some 5), none, (.mov (.v (.int .i64 1)))⟩])
       .ret)
       .skip)))))
  (.seq (.region false [] [
     ⟨(some 34), none, (.load 6 true (.t 2))⟩,
     ⟨(some 35), none, (.mov (.t 1))⟩,
     ⟨(some 36), none, (.call 13 [(.t 34), (.t 35)])⟩,
     ⟨(some 33), none, (.mov (.t 36))⟩,
     ⟨(some 37), none, (.ext 0 (.t 33))⟩,
     ⟨(some 38), none, (.ext 1 (.t 33))⟩,
     ⟨(some 9), none, (.alloc 29 (.agg #[(.slice none 0 0), (.slice none 0 0), (.slice none 0 0), (.slice none 0 0), (.slice none 0 0), (.slice none 0 0)]))⟩,
     ⟨none, none, (.store 6 (.t 9) (.t 37))⟩,
     ⟨(some 10), none, (.mov (.t 38))⟩])
  (.seq (.region false [] [
     ⟨(some 40), none, (.load 6 true (.t 2))⟩,
     ⟨(some 41), none, (.call 16 [(.t 40)])⟩,
     ⟨(some 39), none, (.mov (.t 41))⟩,
     ⟨(some 42), none, (.ext 0 (.t 39))⟩,
     ⟨(some 43), none, (.ext 1 (.t 39))⟩,
     ⟨(some 11), none, (.mov (.t 42))⟩,
     ⟨(some 12), none, (.mov (.t 43))⟩])
  (.seq (.region false [] [
     ⟨(some 45), none, (.load 6 true (.t 9))⟩,
     ⟨(some 46), none, (.call 16 [(.t 45)])⟩,
     ⟨(some 44), none, (.mov (.t 46))⟩,
     ⟨(some 47), none, (.ext 0 (.t 44))⟩,
     ⟨(some 48), none, (.ext 1 (.t 44))⟩,
     ⟨(some 13), none, (.mov (.t 47))⟩,
     ⟨(some 14), none, (.mov (.t 48))⟩])
  (.seq (.region false [] [
     ⟨(some 49), none, (.mov (.t 14))⟩,
     ⟨(some 50), none, (.mov (.t 12))⟩,
     ⟨(some 51), none, (.bin .gtr 3 (.t 49) (.t 50))⟩,
     ⟨(some 4), none, (.mov (.t 51))⟩,
     ⟨(some 5), none, (.mov (.v (.int .i64 0)))⟩])
  .ret)))))))
theorem k12 : FnIs Try.prog 12 52 [.t 4, .t 5] a12 := ⟨_, _, Try.func12, rfl, by kernel_rfl, by kernel_rfl, rfl⟩
/- gridhall/gridhallkeep4.IslandsSplits -/
def a5 : ACode :=
  (.seq (.region false [] [
     ⟨(some 2), none, (.box 29 (.t 0))⟩,
     ⟨(some 4), none, (.mov (.v (.bool false)))⟩])
  (.seq (.seq (.region false [] [
     ⟨(some 16), none, (.load 6 true (.t 2))⟩,
     ⟨(some 17), none, (.call 10 [(.t 16)])⟩,
     ⟨(some 18), none, (.bin .neq 31 (.t 17) (.v (.int .i64 0)))⟩,
     ⟨(some 19), none, (.mov (.t 18))⟩,
     ⟨(some 20), (some (19, false)), (.fld 2 (.t 2))⟩,
     ⟨(some 21), (some (19, false)), (.load 1 false (.t 20))⟩,
     ⟨(some 22), (some (19, false)), (.len (.t 21))⟩,
     ⟨(some 23), (some (19, false)), (.bin .eql 3 (.t 22) (.v (.int .i64 0)))⟩,
     ⟨(some 24), none, (.pick (.t 19) (.v (.bool true)) (.t 23))⟩])
  (.cond (.t 24)
    (.seq (.region false [] [
       ⟨(some 25), none, (.call 8 [])⟩,
       ⟨(some 4), none, (.mov (.t 25))⟩])
    .ret)
    .skip))
  (.seq (.region true [[], [0], [], [], [3], [4], [5], [2, 6], [1, 7], [8], [], [10, 9, 7, 0, 1, 2, 3, 4, 5, 6, 7, 8, 9, 10]] [
     ⟨(some 26), none, (.fld 2 (.t 2))⟩,
     ⟨(some 27), none, (.load 1 false (.t 26))⟩,
     ⟨(some 28), none, (.mov (.t 1))⟩,
     ⟨(some 29), none, (.fld 2 (.t 2))⟩,
     ⟨(some 30), none, (.load 1 false (.t 29))⟩,
     ⟨(some 31), none, (.len (.t 30))⟩,
     ⟨(some 32), none, (.bin .sub 3 (.t 31) (.v (.int .i64 1)))⟩,
     ⟨(some 33), none, (.call 11 [(.t 28), (.v (.int .i64 0)), (.t 32)])⟩,
     ⟨(some 34), none, (.idx 9 (.t 27) (.t 33))⟩,
     ⟨(some 35), none, (.load 9 true (.t 34))⟩,
     ⟨(some 5), none, (.alloc 47 (.agg #[(.string ⟨#[]⟩), (.string ⟨#[]⟩), (.string ⟨#[]⟩), (.int .i64 0), (.int .i64 0), (.int .i64 0), (.int .i64 0), (.int .i64 0), (.int .i64 0)]))⟩,
     ⟨none, none, (.store 9 (.t 5) (.t 35))⟩])
  (.seq (.region false [] [
     ⟨(some 37), none, (.load 6 true (.t 2))⟩,
     ⟨(some 38), none, (.fld 0 (.t 5))⟩,
     ⟨(some 39), none, (.load 1 false (.t 38))⟩,
     ⟨(some 40), none, (.call 12 [(.t 37), (.t 39)])⟩,
     ⟨(some 36), none, (.mov (.t 40))⟩,
     ⟨(some 41), none, (.ext 0 (.t 36))⟩,
     ⟨(some 42), none, (.ext 1 (.t 36))⟩,
     ⟨(some 6), none, (.mov (.t 41))⟩,
     ⟨(some 7), none, (.mov (.t 42))⟩])
  (.seq (.region false [] [
     ⟨(some 44), none, (.load 6 true (.t 2))⟩,
     ⟨(some 45), none, (.fld 0 (.t 5))⟩,
     ⟨(some 46), none, (.load 1 false (.t 45))⟩,
     ⟨(some 47), none, (.call 13 [(.t 44), (.t 46)])⟩,
     ⟨(some 43), none, (.mov (.t 47))⟩,
     ⟨(some 48), none, (.ext 0 (.t 43))⟩,
     ⟨(some 49), none, (.ext 1 (.t 43))⟩,
     ⟨(some 8), none, (.alloc 29 (.agg #[(.slice none 0 0), (.slice none 0 0), (.slice none 0 0), (.slice none 0 0), (.slice none 0 0), (.slice none 0 0)]))⟩,
     ⟨none, none, (.store 6 (.t 8) (.t 48))⟩,
     ⟨(some 9), none, (.mov (.t 49))⟩])
  (.seq (.region false [] [
     ⟨(some 51), none, (.load 6 true (.t 8))⟩,
     ⟨(some 52), none, (.call 14 [(.t 51)])⟩,
     ⟨(some 50), none, (.mov (.t 52))⟩,
     ⟨(some 53), none, (.ext 0 (.t 50))⟩,
     ⟨(some 54), none, (.ext 1 (.t 50))⟩,
     ⟨(some 10), none, (.mov (.t 53))⟩,
     ⟨(some 11), none, (.mov (.t 54))⟩])
  (.seq (.region false [] [
     ⟨(some 56), none, (.load 6 true (.t 2))⟩,
     ⟨(some 57), none, (.fld 1 (.t 5))⟩,
     ⟨(some 58), none, (.load 1 false (.t 57))⟩,
     ⟨(some 59), none, (.call 15 [(.t 56), (.t 58)])⟩,
     ⟨(some 55), none, (.mov (.t 59))⟩,
     ⟨(some 60), none, (.ext 0 (.t 55))⟩,
     ⟨(some 61), none, (.ext 1 (.t 55))⟩,
     ⟨(some 12), none, (.mov (.t 60))⟩,
     ⟨(some 13), none, (.mov (.t 61))⟩])
  (.seq (.region false [] [
     ⟨(some 63), none, (.load 6 true (.t 2))⟩,
     ⟨(some 64), none, (.fld 2 (.t 5))⟩,
     ⟨(some 65), none, (.load 1 false (.t 64))⟩,
     ⟨(some 66), none, (.call 15 [(.t 63), (.t 65)])⟩,
     ⟨(some 62), none, (.mov (.t 66))⟩,
     ⟨(some 67), none, (.ext 0 (.t 62))⟩,
     ⟨(some 68), none, (.ext 1 (.t 62))⟩,
     ⟨(some 14), none, (.mov (.t 67))⟩,
     ⟨(some 15), none, (.mov (.t 68))⟩])
  (.seq (.seq (.region false [] [
     ⟨(some 69), none, (.mov (.t 7))⟩,
     ⟨(some 70), none, (.bin .neq 31 (.t 69) (.v (.int .i64 0)))⟩,
     ⟨(some 71), none, (.mov (.t 70))⟩,
     ⟨(some 72), (some (71, false)), (.mov (.t 9))⟩,
     ⟨(some 73), (some (71, false)), (.bin .neq 31 (.t 72) (.v (.int .i64 0)))⟩,
     ⟨(some 74), none, (.pick (.t 71) (.v (.bool true)) (.t 73))⟩,
     ⟨(some 75), none, (.mov (.t 74))⟩,
     ⟨(some 76), (some (75, false)), (.mov (.t 11))⟩,
     ⟨(some 77), (some (75, false)), (.bin .neq 31 (.t 76) (.v (.int .i64 0)))⟩,
     ⟨(some 78), none, (.pick (.t 75) (.v (.bool true)) (.t 77))⟩,
     ⟨(some 79), none, (.mov (.t 78))⟩,
     ⟨(some 80), (some (79, false)), (.mov (.t 13))⟩,
     ⟨(some 81), (some (79, false)), (.bin .neq 31 (.t 80) (.v (.int .i64 0)))⟩,
     ⟨(some 82), none, (.pick (.t 79) (.v (.bool true)) (.t 81))⟩,
     ⟨(some 83), none, (.mov (.t 82))⟩,
     ⟨(some 84), (some (83, false)), (.mov (.t 15))⟩,
     ⟨(some 85), (some (83, false)), (.bin .neq 31 (.t 84) (.v (.int .i64 0)))⟩,
     ⟨(some 86), none, (.pick (.t 83) (.v (.bool true)) (.t 85))⟩,
     ⟨(some 87), none, (.mov (.t 86))⟩,
     ⟨(some 88), (some (87, false)), (.mov (.t 10))⟩,
     ⟨(some 89), (some (87, false)), (.len (.t 88))⟩,
     ⟨(some 90), (some (87, false)), (.fld 0 (.t 2))⟩,
     ⟨(some 91), (some (87, false)), (.load 1 false (.t 90))⟩,
     ⟨(some 92), (some (87, false)), (.len (.t 91))⟩,
     ⟨(some 93), (some (87, false)), (.bin .neq 3 (.t 89) (.t 92))⟩,
     ⟨(some 94), none, (.pick (.t 87) (.v (.bool true)) (.t 93))⟩,
     ⟨(some 95), none, (.mov (.t 94))⟩,
     ⟨(some 96), (some (95, false)), (.mov (.t 12))⟩,
     ⟨(some 97), (some (95, false)), (.mov (.t 10))⟩,
     ⟨(some 98), (some (95, false)), (.len (.t 97))⟩,
     ⟨(some 99), (some (95, false)), (.bin .geq 3 (.t 96) (.t 98))⟩,
     ⟨(some 100), none, (.pick (.t 95) (.v (.bool true)) (.t 99))⟩,
     ⟨(some 101), none, (.mov (.t 100))⟩,
     ⟨(some 102), (some (101, false)), (.mov (.t 14))⟩,
     ⟨(some 103), (some (101, false)), (.mov (.t 10))⟩,
     ⟨(some 104), (some (101, false)), (.len (.t 103))⟩,
     ⟨(some 105), (some (101, false)), (.bin .geq 3 (.t 102) (.t 104))⟩,
     ⟨(some 106), none, (.pick (.t 101) (.v (.bool true)) (.t 105))⟩])
  (.cond (.t 106)
    (.seq (.region false [] [
       ⟨(some 4), none, (.mov (.v (.bool false)))⟩])
    .ret)
    .skip))
  (.seq (.region true [[], [0, 0], [1], [1], [1], [3, 4, 1], [5, 1], [1], [1], [7, 8, 1], [9, 1], [6, 10, 1], [2, 11, 1], [1, 12], [13, 1, 0, 1, 2, 3, 4, 5, 6, 7, 8, 9, 10, 11, 12, 13]] [
     ⟨(some 107), none, (.call 8 [])⟩,
     ⟨(some 108), none, (.mov (.t 107))⟩,
     ⟨(some 109), (some (108, true)), (.mov (.t 6))⟩,
     ⟨(some 110), (some (108, true)), (.mov (.t 10))⟩,
     ⟨(some 111), (some (108, true)), (.mov (.t 12))⟩,
     ⟨(some 112), (some (108, true)), (.idx 1 (.t 110) (.t 111))⟩,
     ⟨(some 113), (some (108, true)), (.load 1 false (.t 112))⟩,
     ⟨(some 114), (some (108, true)), (.mov (.t 10))⟩,
     ⟨(some 115), (some (108, true)), (.mov (.t 14))⟩,
     ⟨(some 116), (some (108, true)), (.idx 1 (.t 114) (.t 115))⟩,
     ⟨(some 117), (some (108, true)), (.load 1 false (.t 116))⟩,
     ⟨(some 118), (some (108, true)), (.bin .neq 3 (.t 113) (.t 117))⟩,
     ⟨(some 119), (some (108, true)), (.beq false (.t 109) (.t 118))⟩,
     ⟨(some 120), none, (.pick (.t 108) (.t 119) (.v (.bool false)))⟩,
     ⟨(some 4), none, (.mov (.t 120))⟩])
  .ret))))))))))
theorem k5 : FnIs Try.prog 5 121 [.t 4] a5 := ⟨_, _, Try.func5, rfl, by kernel_rfl, by kernel_rfl, rfl⟩

set_option maxRecDepth 20000 in
theorem s14 (n : Net) (hk : NetOk n) (hv : NetV n) : Aw.Spec Try.prog 14 [] [neta n] (fun rg v => rg = [] ∧ v = .tup [.imm none true 1 ((placesF n).map ic), I 0]) := by
  refine Aw.Spec.regsW k14 rfl rfl fun E hn hnp hp => ?_
  unfold a14
  have h0 := netF_zero.2 hv
  refine AWp.ofD [] [] hn mixed rfl ?_
  simp (config := { maxSteps := 2000000 }) only [go_sem, ↓reduceIte, Int.reduceToNat, Nat.reduceMul, Int.reduceBEq, Int.reduceBNe, Nat.reduceBEq, Nat.reduceAdd, Nat.reduceSub, Nat.reduceLeDiff, Nat.reduceEqDiff, Nat.reduceLT, reduceCtorEq]
  (refine AWpL.calle (s10 n hk) rfl (by rw [hn]; rfl) (by simp (config := { maxSteps := 2000000 }) only [go_sem, ↓reduceIte, Int.reduceToNat, Nat.reduceMul, Int.reduceBEq, Int.reduceBNe, Nat.reduceBEq, Nat.reduceAdd, Nat.reduceSub, Nat.reduceLeDiff, Nat.reduceEqDiff, Nat.reduceLT, reduceCtorEq]) (AWpL.ofM hn rfl ?_); simp (config := { maxSteps := 2000000 }) only [go_sem, ↓reduceIte, Int.reduceToNat, Nat.reduceMul, Int.reduceBEq, Int.reduceBNe, Nat.reduceBEq, Nat.reduceAdd, Nat.reduceSub, Nat.reduceLeDiff, Nat.reduceEqDiff, Nat.reduceLT, reduceCtorEq])
  simp (config := { maxSteps := 2000000 }) only [go_sem, ↓reduceIte, Int.reduceToNat, Nat.reduceMul, Int.reduceBEq, Int.reduceBNe, Nat.reduceBEq, Nat.reduceAdd, Nat.reduceSub, Nat.reduceLeDiff, Nat.reduceEqDiff, Nat.reduceLT, reduceCtorEq, h0]
  refine AWpL.callA [] (s16 n hk hv) rfl rfl (by rw [hn]; rfl) rfl (fun r hr => by cases hr) fun rg v hv' => ?_
  obtain ⟨rfl, rfl⟩ := hv'
  refine ⟨Nat.zero_le _, ?_⟩
  rw [retS_nil]
  refine AWpL.ofM hn rfl ?_
  simp (config := { maxSteps := 2000000 }) only [go_sem, ↓reduceIte, Int.reduceToNat, Nat.reduceMul, Int.reduceBEq, Int.reduceBNe, Nat.reduceBEq, Nat.reduceAdd, Nat.reduceSub, Nat.reduceLeDiff, Nat.reduceEqDiff, Nat.reduceLT, reduceCtorEq]
  refine Retn.ret (π := []) hp hnp ⟨rfl, ?_⟩
  simp (config := { maxSteps := 2000000 }) only [go_sem, ↓reduceIte, Int.reduceToNat, Nat.reduceMul, Int.reduceBEq, Int.reduceBNe, Nat.reduceBEq, Nat.reduceAdd, Nat.reduceSub, Nat.reduceLeDiff, Nat.reduceEqDiff, Nat.reduceLT, reduceCtorEq]
set_option maxRecDepth 20000 in
set_option maxHeartbeats 1000000 in
theorem s12 (n : Net) (hk : NetOk n) (hv : NetV n) (k : Nat) (hkl : k < n.brs.l.length) (s : ByteArray) (hf : findN n s = (kBr, (k : Int), 0)) :
    Aw.Spec Try.prog 12 [] [neta n, S s] (Gives (· = .tup [B (decide (manyF (delB n k) > manyF n)), I 0])) := by
  refine Aw.Spec.givesW k12 rfl rfl fun E hn hnp hp => ?_
  unfold a12
  have hF := s26 n hk s
  rw [hf] at hF
  have n2 : (kBr.toList == (ByteArray.mk #[115, 119, 105, 116, 99, 104]).toList) = false := by decide +kernel
  have n3 : (kBr.toList == (ByteArray.mk #[98, 114, 97, 110, 99, 104]).toList) = true := by decide +kernel
  refine AWp.ofD [] [] hn mixed rfl ?_
  simp (config := { maxSteps := 2000000 }) only [go_sem, ↓reduceIte, Int.reduceToNat, Nat.reduceMul, Int.reduceBEq, Int.reduceBNe, Nat.reduceBEq, Nat.reduceAdd, Nat.reduceSub, Nat.reduceLeDiff, Nat.reduceEqDiff, Nat.reduceLT, reduceCtorEq]
  refine AWpL.calle hF rfl (by rw [hn]; rfl) (by simp (config := { maxSteps := 2000000 }) only [go_sem, ↓reduceIte, Int.reduceToNat, Nat.reduceMul, Int.reduceBEq, Int.reduceBNe, Nat.reduceBEq, Nat.reduceAdd, Nat.reduceSub, Nat.reduceLeDiff, Nat.reduceEqDiff, Nat.reduceLT, reduceCtorEq]) (AWpL.ofM hn rfl ?_)
  simp (config := { maxSteps := 2000000 }) only [go_sem, ↓reduceIte, Int.reduceToNat, Nat.reduceMul, Int.reduceBEq, Int.reduceBNe, Nat.reduceBEq, Nat.reduceAdd, Nat.reduceSub, Nat.reduceLeDiff, Nat.reduceEqDiff, Nat.reduceLT, reduceCtorEq, n2, n3]
  refine AWpL.callA [] (s13 n hk hv s k hkl hf) rfl rfl (by rw [hn]; rfl) rfl (fun r hr => by cases hr) fun rg v hv' => ?_
  obtain ⟨rfl, rfl⟩ := hv'
  refine ⟨Nat.zero_le _, ?_⟩
  rw [retS_new]
  refine AWpL.ofM hn rfl ?_
  simp (config := { maxSteps := 2000000 }) only [go_sem, ↓reduceIte, Int.reduceToNat, Nat.reduceMul, Int.reduceBEq, Int.reduceBNe, Nat.reduceBEq, Nat.reduceAdd, Nat.reduceSub, Nat.reduceLeDiff, Nat.reduceEqDiff, Nat.reduceLT, reduceCtorEq]
  refine AWpL.callA [] (s16 n hk hv) rfl rfl (by rw [hn]; rfl) rfl (fun r hr => by cases hr) fun rg v hv' => ?_
  obtain ⟨rfl, rfl⟩ := hv'
  refine ⟨Nat.zero_le _, ?_⟩
  rw [retS_nil]
  refine AWpL.ofM hn rfl ?_
  simp (config := { maxSteps := 2000000 }) only [go_sem, ↓reduceIte, Int.reduceToNat, Nat.reduceMul, Int.reduceBEq, Int.reduceBNe, Nat.reduceBEq, Nat.reduceAdd, Nat.reduceSub, Nat.reduceLeDiff, Nat.reduceEqDiff, Nat.reduceLT, reduceCtorEq]
  refine AWpL.callA [] (s16 (delB n k) (delB_ok hk k) (delB_v hv k)) rfl rfl (by rw [hn]; rfl) rfl (fun r hr => by cases hr) fun rg v hv' => ?_
  obtain ⟨rfl, rfl⟩ := hv'
  refine ⟨Nat.zero_le _, ?_⟩
  rw [retS_nil]
  refine AWpL.ofM hn rfl ?_
  simp (config := { maxSteps := 2000000 }) only [go_sem, ↓reduceIte, Int.reduceToNat, Nat.reduceMul, Int.reduceBEq, Int.reduceBNe, Nat.reduceBEq, Nat.reduceAdd, Nat.reduceSub, Nat.reduceLeDiff, Nat.reduceEqDiff, Nat.reduceLT, reduceCtorEq]
set_option maxRecDepth 20000 in
set_option maxHeartbeats 1000000 in
theorem s5 (n : Net) (hk : NetOk n) (kk : Int) : Aw.Spec Try.prog 5 [] [neta n, I kk] (Gives (· = B true)) := by
  refine Aw.Spec.givesW k5 rfl rfl fun E hn hnp hp => ?_
  unfold a5
  have pin : ∀ r, E.pin r = none := fun r => hp.none hnp (Nat.zero_le _)
  refine AWp.ofD [] [] hn mixed rfl ?_
  simp (config := { maxSteps := 2000000 }) only [go_sem, ↓reduceIte, Int.reduceToNat, Nat.reduceMul, Int.reduceBEq, Int.reduceBNe, Nat.reduceBEq, Nat.reduceAdd, Nat.reduceSub, Nat.reduceLeDiff, Nat.reduceEqDiff, Nat.reduceLT, reduceCtorEq]
  (refine AWpL.calle (s10 n hk) rfl (by rw [hn]; rfl) (by simp (config := { maxSteps := 2000000 }) only [go_sem, ↓reduceIte, Int.reduceToNat, Nat.reduceMul, Int.reduceBEq, Int.reduceBNe, Nat.reduceBEq, Nat.reduceAdd, Nat.reduceSub, Nat.reduceLeDiff, Nat.reduceEqDiff, Nat.reduceLT, reduceCtorEq]) (AWpL.ofM hn rfl ?_); simp (config := { maxSteps := 2000000 }) only [go_sem, ↓reduceIte, Int.reduceToNat, Nat.reduceMul, Int.reduceBEq, Int.reduceBNe, Nat.reduceBEq, Nat.reduceAdd, Nat.reduceSub, Nat.reduceLeDiff, Nat.reduceEqDiff, Nat.reduceLT, reduceCtorEq])
  refine ⟨fun _ => ?_, fun h => ?_⟩
  · (refine AWpL.calle (s8) rfl (by rw [hn]; rfl) (by simp (config := { maxSteps := 2000000 }) only [go_sem, ↓reduceIte, Int.reduceToNat, Nat.reduceMul, Int.reduceBEq, Int.reduceBNe, Nat.reduceBEq, Nat.reduceAdd, Nat.reduceSub, Nat.reduceLeDiff, Nat.reduceEqDiff, Nat.reduceLT, reduceCtorEq]) (AWpL.ofM hn rfl ?_); simp (config := { maxSteps := 2000000 }) only [go_sem, ↓reduceIte, Int.reduceToNat, Nat.reduceMul, Int.reduceBEq, Int.reduceBNe, Nat.reduceBEq, Nat.reduceAdd, Nat.reduceSub, Nat.reduceLeDiff, Nat.reduceEqDiff, Nat.reduceLT, reduceCtorEq])
  rw [Bool.or_eq_false_iff] at h
  have h0 : netF n = 0 := by simpa using h.1
  have hlen : n.brs.l.length ≠ 0 := by have := h.2; simpa using this
  have hv := netF_zero.1 h0
  have h24 := hv.nbr
  have e1 : IntKind.i64.wrap ((n.brs.l.length : Int) - 1) = (n.brs.l.length : Int) - 1 := w64 (by omega) (by omega)
  have hc := cut_range kk 0 ((n.brs.l.length : Int) - 1) (by omega)
  have hcs := s11 kk 0 ((n.brs.l.length : Int) - 1) (by decide) (by omega) (by omega)
  obtain ⟨k, hkk⟩ : ∃ k : Nat, cut kk 0 ((n.brs.l.length : Int) - 1) = k := ⟨(cut kk 0 ((n.brs.l.length : Int) - 1)).toNat, by omega⟩
  rw [hkk] at hc hcs
  have hkl : k < n.brs.l.length := by omega
  have e2 := getD_map brc hkl
  have hfd := find_br hv hkl
  have hsp := splitsN hv hkl
  have hxb := hv.br _ (List.getElem_mem hkl)
  have hpl := places_len (delB_v hv k)
  generalize n.brs.l[k] = x at *
  obtain ⟨a1, a2, a3⟩ := idx_int hxb.1
  obtain ⟨b1, b2, b3⟩ := idx_int hxb.2.1
  have nE : ∀ z, z ∈ n.nodes.l → nodeE n z = 0 ∧ nodeI n z = (idx n z : Int) := fun z hz => by
    obtain ⟨c1, c2, c3⟩ := idx_int hz
    have hE : nodeE n z = 0 := by unfold nodeE; rw [if_neg (by simp [h0]), if_neg (by omega)]
    exact ⟨hE, by unfold nodeI; rw [if_pos hE, c1]⟩
  obtain ⟨nA, iA⟩ := nE _ hxb.1
  obtain ⟨nB, iB⟩ := nE _ hxb.2.1
  refine AWp.cut ⟨[(2, .ptr 0 0 0), (5, .ptr 1 0 0)], [.box 29 (netc n), .box 47 (brc x)]⟩ ?_ ?_
  · refine AWp.plan (.take 0 [false, false, true, true, true, true, true, true, false, false, true, false] (.take 1 [true, false, true, true, true, true, true, true, false, false, true, false] (.take 2 [true, true, false, true, true, true, true, false, false, false, true, false] (.take 3 [true, true, true, false, false, false, false, false, false, false, true, false] (.take 4 [true, true, true, true, false, false, false, false, false, false, true, false] (.take 5 [true, true, true, true, true, false, false, false, false, false, true, false] (.take 6 [true, true, true, true, true, true, false, false, false, false, true, false] (.two 7 (.take 8 [true, true, true, true, true, true, true, true, false, false, true, false] (.take 9 [true, true, true, true, true, true, true, true, true, false, true, false] (.one 10 (.one 11 .done)))) 10 (.one 7 (.take 8 [true, true, true, true, true, true, true, true, false, false, true, false] (.take 9 [true, true, true, true, true, true, true, true, true, false, true, false] (.one 11 .done)))))))))))) [true, true, true, true, true, true, true, true, true, true, true, false] mixed hn rfl rfl ?_
    simp (config := { maxSteps := 2000000 }) only [go_sem, ↓reduceIte, Int.reduceToNat, Nat.reduceMul, Int.reduceBEq, Int.reduceBNe, Nat.reduceBEq, Nat.reduceAdd, Nat.reduceSub, Nat.reduceLeDiff, Nat.reduceEqDiff, Nat.reduceLT, reduceCtorEq, e1]
    refine ⟨?_, ?_⟩
    all_goals
      refine AOne.calle hcs rfl (by rw [hn]; rfl) (by simp (config := { maxSteps := 2000000 }) only [go_sem, ↓reduceIte, Int.reduceToNat, Nat.reduceMul, Int.reduceBEq, Int.reduceBNe, Nat.reduceBEq, Nat.reduceAdd, Nat.reduceSub, Nat.reduceLeDiff, Nat.reduceEqDiff, Nat.reduceLT, reduceCtorEq]) ?_
      simp (config := { maxSteps := 2000000 }) only [go_sem, ↓reduceIte, Int.reduceToNat, Nat.reduceMul, Int.reduceBEq, Int.reduceBNe, Nat.reduceBEq, Nat.reduceAdd, Nat.reduceSub, Nat.reduceLeDiff, Nat.reduceEqDiff, Nat.reduceLT, reduceCtorEq, e2]
      refine ⟨⟨by omega, by omega⟩, weak_to [0, 1] hp hnp rfl (by simp (config := { maxSteps := 2000000 }) only [go_sem, ↓reduceIte, Int.reduceToNat, Nat.reduceMul, Int.reduceBEq, Int.reduceBNe, Nat.reduceBEq, Nat.reduceAdd, Nat.reduceSub, Nat.reduceLeDiff, Nat.reduceEqDiff, Nat.reduceLT, reduceCtorEq, Aw.pos]) (by simp (config := { maxSteps := 2000000 }) only [go_sem, ↓reduceIte, Int.reduceToNat, Nat.reduceMul, Int.reduceBEq, Int.reduceBNe, Nat.reduceBEq, Nat.reduceAdd, Nat.reduceSub, Nat.reduceLeDiff, Nat.reduceEqDiff, Nat.reduceLT, reduceCtorEq, Aw.renR, Aw.pos])⟩
  simp (config := { maxSteps := 2000000 }) only [go_sem, ↓reduceIte, Int.reduceToNat, Nat.reduceMul, Int.reduceBEq, Int.reduceBNe, Nat.reduceBEq, Nat.reduceAdd, Nat.reduceSub, Nat.reduceLeDiff, Nat.reduceEqDiff, Nat.reduceLT, reduceCtorEq]
  (refine AWpL.calle (s12 n hk hv k hkl x.name hfd) rfl (by rw [hn]; rfl) (by simp (config := { maxSteps := 2000000 }) only [go_sem, ↓reduceIte, Int.reduceToNat, Nat.reduceMul, Int.reduceBEq, Int.reduceBNe, Nat.reduceBEq, Nat.reduceAdd, Nat.reduceSub, Nat.reduceLeDiff, Nat.reduceEqDiff, Nat.reduceLT, reduceCtorEq]) (AWpL.ofM hn rfl ?_); simp (config := { maxSteps := 2000000 }) only [go_sem, ↓reduceIte, Int.reduceToNat, Nat.reduceMul, Int.reduceBEq, Int.reduceBNe, Nat.reduceBEq, Nat.reduceAdd, Nat.reduceSub, Nat.reduceLeDiff, Nat.reduceEqDiff, Nat.reduceLT, reduceCtorEq])
  refine AWpL.callA [] (s13 n hk hv x.name k hkl hfd) rfl rfl (by rw [hn]; rfl) rfl (fun r hr => by cases hr) fun rg v hv' => ?_
  obtain ⟨rfl, rfl⟩ := hv'
  refine ⟨Nat.zero_le _, ?_⟩
  rw [retS_new]
  refine AWpL.ofM hn rfl ?_
  simp (config := { maxSteps := 2000000 }) only [go_sem, ↓reduceIte, Int.reduceToNat, Nat.reduceMul, Int.reduceBEq, Int.reduceBNe, Nat.reduceBEq, Nat.reduceAdd, Nat.reduceSub, Nat.reduceLeDiff, Nat.reduceEqDiff, Nat.reduceLT, reduceCtorEq]
  refine AWpL.callA [] (s14 (delB n k) (delB_ok hk k) (delB_v hv k)) rfl rfl (by rw [hn]; rfl) rfl (fun r hr => by cases hr) fun rg v hv' => ?_
  obtain ⟨rfl, rfl⟩ := hv'
  refine ⟨Nat.zero_le _, ?_⟩
  rw [retS_nil]
  refine AWpL.ofM hn rfl ?_
  simp (config := { maxSteps := 2000000 }) only [go_sem, ↓reduceIte, Int.reduceToNat, Nat.reduceMul, Int.reduceBEq, Int.reduceBNe, Nat.reduceBEq, Nat.reduceAdd, Nat.reduceSub, Nat.reduceLeDiff, Nat.reduceEqDiff, Nat.reduceLT, reduceCtorEq]
  (refine AWpL.calle (s15 n hk x.a) rfl (by rw [hn]; rfl) (by simp (config := { maxSteps := 2000000 }) only [go_sem, ↓reduceIte, Int.reduceToNat, Nat.reduceMul, Int.reduceBEq, Int.reduceBNe, Nat.reduceBEq, Nat.reduceAdd, Nat.reduceSub, Nat.reduceLeDiff, Nat.reduceEqDiff, Nat.reduceLT, reduceCtorEq]) (AWpL.ofM hn rfl ?_); simp (config := { maxSteps := 2000000 }) only [go_sem, ↓reduceIte, Int.reduceToNat, Nat.reduceMul, Int.reduceBEq, Int.reduceBNe, Nat.reduceBEq, Nat.reduceAdd, Nat.reduceSub, Nat.reduceLeDiff, Nat.reduceEqDiff, Nat.reduceLT, reduceCtorEq])
  simp (config := { maxSteps := 2000000 }) only [go_sem, ↓reduceIte, Int.reduceToNat, Nat.reduceMul, Int.reduceBEq, Int.reduceBNe, Nat.reduceBEq, Nat.reduceAdd, Nat.reduceSub, Nat.reduceLeDiff, Nat.reduceEqDiff, Nat.reduceLT, reduceCtorEq, nA, iA]
  (refine AWpL.calle (s15 n hk x.b) rfl (by rw [hn]; rfl) (by simp (config := { maxSteps := 2000000 }) only [go_sem, ↓reduceIte, Int.reduceToNat, Nat.reduceMul, Int.reduceBEq, Int.reduceBNe, Nat.reduceBEq, Nat.reduceAdd, Nat.reduceSub, Nat.reduceLeDiff, Nat.reduceEqDiff, Nat.reduceLT, reduceCtorEq]) (AWpL.ofM hn rfl ?_); simp (config := { maxSteps := 2000000 }) only [go_sem, ↓reduceIte, Int.reduceToNat, Nat.reduceMul, Int.reduceBEq, Int.reduceBNe, Nat.reduceBEq, Nat.reduceAdd, Nat.reduceSub, Nat.reduceLeDiff, Nat.reduceEqDiff, Nat.reduceLT, reduceCtorEq])
  have hpn : (delB n k).nodes.l.length = n.nodes.l.length := rfl
  have e5 : (((placesF (delB n k)).length : Int) != (n.nodes.l.length : Int)) = false := by rw [hpl, hpn]; simp
  have e6 : decide ((idx n x.a : Int) ≥ ((placesF (delB n k)).length : Int)) = false := decide_eq_false (by omega)
  have e7 : decide ((idx n x.b : Int) ≥ ((placesF (delB n k)).length : Int)) = false := decide_eq_false (by omega)
  have e3 := getD_mapD 0 ic (l := placesF (delB n k)) (i := idx n x.a) (by omega)
  have e4 := getD_mapD 0 ic (l := placesF (delB n k)) (i := idx n x.b) (by omega)
  simp (config := { maxSteps := 2000000 }) only [go_sem, ↓reduceIte, Int.reduceToNat, Nat.reduceMul, Int.reduceBEq, Int.reduceBNe, Nat.reduceBEq, Nat.reduceAdd, Nat.reduceSub, Nat.reduceLeDiff, Nat.reduceEqDiff, Nat.reduceLT, reduceCtorEq, nB, iB, e5, e6, e7, Bool.or_self]
  refine AWpQ.calle s8 (by rw [hn]; rfl) (by simp (config := { maxSteps := 2000000 }) only [go_sem, ↓reduceIte, Int.reduceToNat, Nat.reduceMul, Int.reduceBEq, Int.reduceBNe, Nat.reduceBEq, Nat.reduceAdd, Nat.reduceSub, Nat.reduceLeDiff, Nat.reduceEqDiff, Nat.reduceLT, reduceCtorEq]) (AWpQ.of hn rfl ?_)
  simp (config := { maxSteps := 2000000 }) only [go_sem, ↓reduceIte, Int.reduceToNat, Nat.reduceMul, Int.reduceBEq, Int.reduceBNe, Nat.reduceBEq, Nat.reduceAdd, Nat.reduceSub, Nat.reduceLeDiff, Nat.reduceEqDiff, Nat.reduceLT, reduceCtorEq, e3, e4]
  rw [hsp]
  exact ⟨⟨by omega, by omega⟩, ⟨by omega, by omega⟩, by rw [beq_self_eq_true]⟩
end Go.Proofs.Ytmkodhpbjedfkaa
