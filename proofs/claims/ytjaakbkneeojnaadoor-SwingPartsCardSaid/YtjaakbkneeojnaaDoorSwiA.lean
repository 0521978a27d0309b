/- Swing: what the functions of the package compute. -/
import Derived.Test.YtjaakbkneeojnaaDoorAwZl
import Derived.Test.YtjaakbkneeojnaaDoorRatF
set_option linter.unusedVariables false
set_option linter.unusedSimpArgs false
namespace Go.Proofs.YtjaakbkneeojnaaDoor
open Go.Proofs.YtjaakbkneeojnaaDoor.Aw
attribute [local go_sem] Int.natCast_zero Int.natCast_one bne_self_eq_false beq_self_eq_true Bool.not_true Bool.not_false Option.isSome_none Option.isSome_some Aw.bkM_nil Option.getD_some Option.getD_none Nat.sub_zero Int.toNat_zero Aw.frzS Aw.frzT Aw.frzA Aw.frzL Aw.frzR Aw.frzO Aw.frzOL Aw.frzOT Aw.frzOR Aw.killS Aw.mapT Aw.mapR Aw.killM Aw.resAVs Aw.resAV Aw.quietOps Aw.wpP Aw.wpT Aw.wpS Aw.AOp.mild List.getElem?_cons_zero List.getElem?_cons_succ Bool.and_false Bool.and_self Bool.false_and Aw.opOb Aw.gdB Aw.Rnd Aw.subTm List.length_map Int.toNat_natCast and_self Aw.SeqC Aw.stops Aw.Ends Aw.looks Aw.renA Aw.renL Aw.renT Aw.renS Aw.wpO Aw.aop Aw.putTm Aw.St.ev Aw.St.put Aw.St.putO Aw.binAV Aw.intBin Aw.strBin Aw.pickAV Aw.optInt Aw.AV.strip Aw.AV.guard Aw.AV.cells Aw.gdOb Aw.AOp.opds Aw.AOp.still Aw.ptrCells Aw.St.reg Aw.fillAV Aw.fillOb Aw.elsOb Aw.splice Aw.firm Aw.cellish Aw.AV.shut Aw.shutAll Aw.Seq Aw.Blk Aw.retS_nil Aw.mapA Aw.mapL Aw.borA Aw.borOb Aw.allOb Aw.tupOf Aw.params Aw.Opd.of Array.toList Value.cells List.map_cons List.map_nil List.getD_cons_zero List.getD_cons_succ List.getD_nil List.length_cons List.length_nil List.take_succ_cons List.take_zero List.take_nil List.drop_zero List.drop_succ_cons List.drop_nil List.set_cons_zero List.set_cons_succ List.append_nil List.nil_append List.cons_append List.all_cons List.all_nil cond_false cond_true if_true if_false true_and and_true Bool.and_true Bool.true_and Option.map_some Option.map_none false_implies forall_const implies_true forall_eq imp_self Bool.cond_false_right Bool.cond_true_left beq_true beq_false Bool.not_eq_true' Bool.false_eq_true Nat.zero_add Nat.add_zero Aw.eqCells Aw.stopDraw Aw.skipS Aw.exactCap Aw.revealS Aw.srcEls Aw.srcSz
attribute [local go_sem ↓] Aw.look_nil Aw.look_ite Aw.wpL_nil Aw.wpL_op Aw.wpL_gd Aw.wpQ_nil Aw.wpQ_op Aw.wpQ_gd Aw.wpC_draw Aw.wpC_reg Aw.wpC_skip Aw.wpC_ret Aw.wpC_exit Aw.wpC_seq Aw.wpC_block Aw.wpC_loop Aw.wpC_cond Aw.stopAt_nil Aw.stopAt_cons Aw.wpD_skip Aw.wpD_ret Aw.wpD_exit Aw.wpD_region Aw.wpD_draw Aw.wpM_nil Aw.wpM_op Aw.wpM_gd Aw.wpD_seq Aw.wpD_block Aw.wpD_loop Aw.wpD_cond
/- gridhall/swing.Check -/
def a18 : ACode :=
  (.seq (.region false [] [
     ⟨(some 1), none, (.box 24 (.t 0))⟩,
     ⟨(some 2), none, (.mov (.v (.int .i64 0)))⟩])
  (.seq (.block 0 (.seq (.region false [] [
      ⟨(some 4), none, (.fld 0 (.t 1))⟩,
      ⟨(some 5), none, (.load 1 false (.t 4))⟩,
      ⟨(some 6), none, (.bin .lss 3 (.t 5) (.v (.int .i64 1)))⟩,
      ⟨(some 7), none, (.mov (.t 6))⟩,
      ⟨(some 8), (some (7, false)), (.fld 0 (.t 1))⟩,
      ⟨(some 9), (some (7, false)), (.load 1 false (.t 8))⟩,
      ⟨(some 10), (some (7, false)), (.bin .gtr 3 (.t 9) (.v (.int .i64 1000)))⟩,
      ⟨(some 11), none, (.pick (.t 7) (.v (.bool true)) (.t 10))⟩,
      ⟨(some 12), none, (.mov (.t 11))⟩,
      ⟨(some 13), (some (12, false)), (.fld 1 (.t 1))⟩,
      ⟨(some 14), (some (12, false)), (.load 1 false (.t 13))⟩,
      ⟨(some 15), (some (12, false)), (.bin .lss 3 (.t 14) (.v (.int .i64 0)))⟩,
      ⟨(some 16), none, (.pick (.t 12) (.v (.bool true)) (.t 15))⟩,
      ⟨(some 17), none, (.mov (.t 16))⟩,
      ⟨(some 18), (some (17, false)), (.fld 1 (.t 1))⟩,
      ⟨(some 19), (some (17, false)), (.load 1 false (.t 18))⟩,
      ⟨(some 20), (some (17, false)), (.fld 0 (.t 1))⟩,
      ⟨(some 21), (some (17, false)), (.load 1 false (.t 20))⟩,
      ⟨(some 22), (some (17, false)), (.bin .gtr 3 (.t 19) (.t 21))⟩,
      ⟨(some 23), none, (.pick (.t 17) (.v (.bool true)) (.t 22))⟩,
      ⟨(some 3), none, (.mov (.t 23))⟩])
   (.cond (.t 3)
     (.seq (.region false [] [
        ⟨(some 2), none, (.mov (.v (.int .i64 4)))⟩])
     .ret)
     (.seq (.region false [] [
        ⟨(some 25), none, (.fld 2 (.t 1))⟩,
        ⟨(some 26), none, (.load 1 false (.t 25))⟩,
        ⟨(some 27), none, (.bin .lss 3 (.t 26) (.v (.int .i64 0)))⟩,
        ⟨(some 28), none, (.mov (.t 27))⟩,
        ⟨(some 29), (some (28, false)), (.fld 2 (.t 1))⟩,
        ⟨(some 30), (some (28, false)), (.load 1 false (.t 29))⟩,
        ⟨(some 31), (some (28, false)), (.bin .gtr 3 (.t 30) (.v (.int .i64 100000)))⟩,
        ⟨(some 32), none, (.pick (.t 28) (.v (.bool true)) (.t 31))⟩,
        ⟨(some 33), none, (.mov (.t 32))⟩,
        ⟨(some 34), (some (33, false)), (.fld 3 (.t 1))⟩,
        ⟨(some 35), (some (33, false)), (.load 1 false (.t 34))⟩,
        ⟨(some 36), (some (33, false)), (.bin .lss 3 (.t 35) (.v (.int .i64 0)))⟩,
        ⟨(some 37), none, (.pick (.t 33) (.v (.bool true)) (.t 36))⟩,
        ⟨(some 38), none, (.mov (.t 37))⟩,
        ⟨(some 39), (some (38, false)), (.fld 3 (.t 1))⟩,
        ⟨(some 40), (some (38, false)), (.load 1 false (.t 39))⟩,
        ⟨(some 41), (some (38, false)), (.bin .gtr 3 (.t 40) (.v (.int .i64 100000)))⟩,
        ⟨(some 42), none, (.pick (.t 38) (.v (.bool true)) (.t 41))⟩,
        ⟨(some 24), none, (.mov (.t 42))⟩])
     (.cond (.t 24)
       (.seq (.region false [] [
          ⟨(some 2), none, (.mov (.v (.int .i64 4)))⟩])
       .ret)
       .skip)))))
  (.seq (.region false [] [
     ⟨(some 43), none, (.fld 4 (.t 1))⟩,
     ⟨(some 44), none, (.load 1 false (.t 43))⟩,
     ⟨(some 45), none, (.call 47 [(.t 44)])⟩,
     ⟨(some 2), none, (.mov (.t 45))⟩])
  .ret)))
theorem k18 : FnIs Tryd.prog 18 46 [.t 2] a18 := ⟨_, _, Tryd.func18, rfl, by kernel_rfl, by kernel_rfl, rfl⟩
/- gridhall/swing.excess -/
def a44 : ACode :=
  (.seq (.region false [] [
     ⟨(some 2), none, (.box 24 (.t 0))⟩,
     ⟨(some 3), none, (.box 62 (.t 1))⟩,
     ⟨(some 4), none, (.alloc 62 (.agg #[(.bool false), (.slice none 0 0), (.slice none 0 0)]))⟩])
  (.seq (.region true [[], [0], [], [2], [1, 3], [4], [], [6], [7, 5], [], [8, 9, 8], [5, 10, 10], [11, 11, 0, 1, 2, 3, 4, 5, 6, 7, 8, 9, 10, 11]] [
     ⟨(some 5), none, (.fld 2 (.t 2))⟩,
     ⟨(some 6), none, (.load 1 false (.t 5))⟩,
     ⟨(some 7), none, (.fld 3 (.t 2))⟩,
     ⟨(some 8), none, (.load 1 false (.t 7))⟩,
     ⟨(some 9), none, (.bin .sub 3 (.t 6) (.t 8))⟩,
     ⟨(some 10), none, (.call 42 [(.t 9)])⟩,
     ⟨(some 11), none, (.fld 1 (.t 2))⟩,
     ⟨(some 12), none, (.load 1 false (.t 11))⟩,
     ⟨(some 13), none, (.call 42 [(.t 12)])⟩,
     ⟨(some 14), none, (.load 3 true (.t 3))⟩,
     ⟨(some 15), none, (.call 43 [(.t 13), (.t 14)])⟩,
     ⟨(some 16), none, (.call 48 [(.t 10), (.t 15)])⟩,
     ⟨none, none, (.store 3 (.t 4) (.t 16))⟩])
  .ret))
theorem k44 : FnIs Tryd.prog 44 17 [.c 4 3 true] a44 := ⟨_, _, Tryd.func44, rfl, by kernel_rfl, by kernel_rfl, rfl⟩
/- gridhall/swing.step -/
def a40 : ACode :=
  (.seq (.region false [] [
     ⟨(some 2), none, (.box 24 (.t 0))⟩,
     ⟨(some 3), none, (.box 62 (.t 1))⟩,
     ⟨(some 4), none, (.alloc 62 (.agg #[(.bool false), (.slice none 0 0), (.slice none 0 0)]))⟩])
  (.seq (.region true [[], [], [], [1, 2], [], [4], [5, 3], [3, 6, 6], [0, 7, 7], [8, 8, 0, 1, 2, 3, 4, 5, 6, 7, 8]] [
     ⟨(some 5), none, (.load 3 true (.t 3))⟩,
     ⟨(some 6), none, (.load 5 true (.t 2))⟩,
     ⟨(some 7), none, (.load 3 true (.t 3))⟩,
     ⟨(some 8), none, (.call 44 [(.t 6), (.t 7)])⟩,
     ⟨(some 9), none, (.fld 0 (.t 2))⟩,
     ⟨(some 10), none, (.load 1 false (.t 9))⟩,
     ⟨(some 11), none, (.call 42 [(.t 10)])⟩,
     ⟨(some 12), none, (.call 52 [(.t 8), (.t 11)])⟩,
     ⟨(some 13), none, (.call 46 [(.t 5), (.t 12)])⟩,
     ⟨none, none, (.store 3 (.t 4) (.t 13))⟩])
  .ret))
theorem k40 : FnIs Tryd.prog 40 14 [.c 4 3 true] a40 := ⟨_, _, Tryd.func40, rfl, by kernel_rfl, by kernel_rfl, rfl⟩
/- gridhall/swing.text -/
def a39 : ACode :=
  (.seq (.region false [] [
     ⟨(some 1), none, (.box 62 (.t 0))⟩,
     ⟨(some 2), none, (.mov (.v (.string ⟨#[]⟩)))⟩,
     ⟨(some 3), none, (.mov (.v (.int .i64 0)))⟩])
  (.seq (.seq (.region false [] [
     ⟨(some 5), none, (.load 3 true (.t 1))⟩,
     ⟨(some 6), none, (.call 57 [(.t 5)])⟩,
     ⟨(some 4), none, (.mov (.t 6))⟩])
  (.seq (.region false [] [
     ⟨(some 7), none, (.mov (.t 4))⟩,
     ⟨(some 8), none, (.bin .neq 25 (.t 7) (.v (.int .i64 0)))⟩])
  (.cond (.t 8)
    (.seq (.region false [] [
       ⟨(some 9), none, (.mov (.t 4))⟩,
       ⟨(some 2), none, (.mov (.v (.string ⟨#[]⟩)))⟩,
       ⟨(some 3), none, (.mov (.t 9))⟩])
    .ret)
    .skip)))
  (.seq (.region false [] [
     ⟨(some 10), none, (.load 3 true (.t 1))⟩,
     ⟨(some 11), none, (.call 55 [(.t 10)])⟩,
     ⟨(some 2), none, (.mov (.t 11))⟩,
     ⟨(some 3), none, (.mov (.v (.int .i64 0)))⟩])
  .ret)))
theorem k39 : FnIs Tryd.prog 39 12 [.t 2, .t 3] a39 := ⟨_, _, Tryd.func39, rfl, by kernel_rfl, by kernel_rfl, rfl⟩
/- gridhall/swing.Step -/
def a12 : ACode :=
  (.seq (.region false [] [
     ⟨(some 1), none, (.box 24 (.t 0))⟩,
     ⟨(some 2), none, (.alloc 24 (.agg #[(.int .i64 0), (.int .i64 0), (.int .i64 0), (.int .i64 0), (.string ⟨#[]⟩)]))⟩,
     ⟨(some 3), none, (.mov (.v (.int .i64 0)))⟩])
  (.seq (.seq (.region false [] [
     ⟨(some 7), none, (.load 5 true (.t 1))⟩,
     ⟨(some 8), none, (.call 18 [(.t 7)])⟩,
     ⟨(some 4), none, (.mov (.t 8))⟩])
  (.seq (.region false [] [
     ⟨(some 9), none, (.mov (.t 4))⟩,
     ⟨(some 10), none, (.bin .neq 25 (.t 9) (.v (.int .i64 0)))⟩])
  (.cond (.t 10)
    (.seq (.region false [] [
       ⟨(some 11), none, (.build (.agg #[(.int .i64 0), (.int .i64 0), (.int .i64 0), (.int .i64 0), (.string ⟨#[]⟩)]) [])⟩,
       ⟨(some 12), none, (.mov (.t 4))⟩,
       ⟨none, none, (.store 5 (.t 2) (.t 11))⟩,
       ⟨(some 3), none, (.mov (.t 12))⟩])
    .ret)
    .skip)))
  (.seq (.region true [[], [], [1], [2], [0, 3, 3], [4, 4], [5], [6], [6], [7, 5, 0, 1, 2, 3, 4, 5, 6, 7], [8, 9, 0, 1, 2, 3, 4, 5, 6, 7, 8, 9]] [
     ⟨(some 14), none, (.load 5 true (.t 1))⟩,
     ⟨(some 15), none, (.fld 4 (.t 1))⟩,
     ⟨(some 16), none, (.load 1 false (.t 15))⟩,
     ⟨(some 17), none, (.call 41 [(.t 16)])⟩,
     ⟨(some 18), none, (.call 40 [(.t 14), (.t 17)])⟩,
     ⟨(some 19), none, (.call 39 [(.t 18)])⟩,
     ⟨(some 13), none, (.mov (.t 19))⟩,
     ⟨(some 20), none, (.ext 0 (.t 13))⟩,
     ⟨(some 21), none, (.ext 1 (.t 13))⟩,
     ⟨(some 5), none, (.mov (.t 20))⟩,
     ⟨(some 6), none, (.mov (.t 21))⟩])
  (.seq (.seq (.region false [] [
     ⟨(some 22), none, (.mov (.t 6))⟩,
     ⟨(some 23), none, (.bin .neq 25 (.t 22) (.v (.int .i64 0)))⟩])
  (.cond (.t 23)
    (.seq (.region false [] [
       ⟨(some 24), none, (.build (.agg #[(.int .i64 0), (.int .i64 0), (.int .i64 0), (.int .i64 0), (.string ⟨#[]⟩)]) [])⟩,
       ⟨(some 25), none, (.mov (.t 6))⟩,
       ⟨none, none, (.store 5 (.t 2) (.t 24))⟩,
       ⟨(some 3), none, (.mov (.t 25))⟩])
    .ret)
    .skip))
  (.seq (.region false [] [
     ⟨(some 26), none, (.mov (.t 5))⟩,
     ⟨(some 27), none, (.fld 4 (.t 1))⟩,
     ⟨none, none, (.store 1 (.t 27) (.t 26))⟩])
  (.seq (.region false [] [
     ⟨(some 28), none, (.load 5 true (.t 1))⟩,
     ⟨none, none, (.store 5 (.t 2) (.t 28))⟩,
     ⟨(some 3), none, (.mov (.v (.int .i64 0)))⟩])
  .ret))))))
theorem k12 : FnIs Tryd.prog 12 29 [.c 2 5 true, .t 3] a12 := ⟨_, _, Tryd.func12, rfl, by kernel_rfl, by kernel_rfl, rfl⟩
/- gridhall/swing.Momentum -/
def a14 : ACode :=
  (.seq (.region false [] [
     ⟨(some 1), none, (.box 24 (.t 0))⟩,
     ⟨(some 2), none, (.mov (.v (.string ⟨#[]⟩)))⟩,
     ⟨(some 3), none, (.mov (.v (.int .i64 0)))⟩])
  (.seq (.seq (.region false [] [
     ⟨(some 5), none, (.load 5 true (.t 1))⟩,
     ⟨(some 6), none, (.call 18 [(.t 5)])⟩,
     ⟨(some 4), none, (.mov (.t 6))⟩])
  (.seq (.region false [] [
     ⟨(some 7), none, (.mov (.t 4))⟩,
     ⟨(some 8), none, (.bin .neq 25 (.t 7) (.v (.int .i64 0)))⟩])
  (.cond (.t 8)
    (.seq (.region false [] [
       ⟨(some 9), none, (.mov (.t 4))⟩,
       ⟨(some 2), none, (.mov (.v (.string ⟨#[]⟩)))⟩,
       ⟨(some 3), none, (.mov (.t 9))⟩])
    .ret)
    .skip)))
  (.seq (.region true [[], [0], [1], [], [3], [4, 2], [2, 5, 5], [6, 6], [7], [7], [8, 7, 0, 1, 2, 3, 4, 5, 6, 7, 8, 9], [9, 10, 0, 1, 2, 3, 4, 5, 6, 7, 8, 9, 10]] [
     ⟨(some 10), none, (.fld 0 (.t 1))⟩,
     ⟨(some 11), none, (.load 1 false (.t 10))⟩,
     ⟨(some 12), none, (.call 42 [(.t 11)])⟩,
     ⟨(some 13), none, (.fld 4 (.t 1))⟩,
     ⟨(some 14), none, (.load 1 false (.t 13))⟩,
     ⟨(some 15), none, (.call 41 [(.t 14)])⟩,
     ⟨(some 16), none, (.call 43 [(.t 12), (.t 15)])⟩,
     ⟨(some 17), none, (.call 39 [(.t 16)])⟩,
     ⟨(some 18), none, (.ext 0 (.t 17))⟩,
     ⟨(some 19), none, (.ext 1 (.t 17))⟩,
     ⟨(some 2), none, (.mov (.t 18))⟩,
     ⟨(some 3), none, (.mov (.t 19))⟩])
  .ret)))
theorem k14 : FnIs Tryd.prog 14 20 [.t 2, .t 3] a14 := ⟨_, _, Tryd.func14, rfl, by kernel_rfl, by kernel_rfl, rfl⟩
/- gridhall/swing.Excess -/
def a15 : ACode :=
  (.seq (.region false [] [
     ⟨(some 1), none, (.box 24 (.t 0))⟩,
     ⟨(some 2), none, (.mov (.v (.string ⟨#[]⟩)))⟩,
     ⟨(some 3), none, (.mov (.v (.int .i64 0)))⟩])
  (.seq (.seq (.region false [] [
     ⟨(some 5), none, (.load 5 true (.t 1))⟩,
     ⟨(some 6), none, (.call 18 [(.t 5)])⟩,
     ⟨(some 4), none, (.mov (.t 6))⟩])
  (.seq (.region false [] [
     ⟨(some 7), none, (.mov (.t 4))⟩,
     ⟨(some 8), none, (.bin .neq 25 (.t 7) (.v (.int .i64 0)))⟩])
  (.cond (.t 8)
    (.seq (.region false [] [
       ⟨(some 9), none, (.mov (.t 4))⟩,
       ⟨(some 2), none, (.mov (.v (.string ⟨#[]⟩)))⟩,
       ⟨(some 3), none, (.mov (.t 9))⟩])
    .ret)
    .skip)))
  (.seq (.region true [[], [], [1], [2], [0, 3, 3], [4, 4], [5], [5], [6, 5, 0, 1, 2, 3, 4, 5, 6, 7], [7, 8, 0, 1, 2, 3, 4, 5, 6, 7, 8]] [
     ⟨(some 10), none, (.load 5 true (.t 1))⟩,
     ⟨(some 11), none, (.fld 4 (.t 1))⟩,
     ⟨(some 12), none, (.load 1 false (.t 11))⟩,
     ⟨(some 13), none, (.call 41 [(.t 12)])⟩,
     ⟨(some 14), none, (.call 44 [(.t 10), (.t 13)])⟩,
     ⟨(some 15), none, (.call 39 [(.t 14)])⟩,
     ⟨(some 16), none, (.ext 0 (.t 15))⟩,
     ⟨(some 17), none, (.ext 1 (.t 15))⟩,
     ⟨(some 2), none, (.mov (.t 16))⟩,
     ⟨(some 3), none, (.mov (.t 17))⟩])
  .ret)))
theorem k15 : FnIs Tryd.prog 15 18 [.t 2, .t 3] a15 := ⟨_, _, Tryd.func15, rfl, by kernel_rfl, by kernel_rfl, rfl⟩
/- gridhall/swing.Steady -/
def a17 : ACode :=
  (.seq (.region false [] [
     ⟨(some 1), none, (.box 24 (.t 0))⟩,
     ⟨(some 2), none, (.mov (.v (.string ⟨#[]⟩)))⟩,
     ⟨(some 3), none, (.mov (.v (.int .i64 0)))⟩])
  (.seq (.seq (.region false [] [
     ⟨(some 5), none, (.load 5 true (.t 1))⟩,
     ⟨(some 6), none, (.call 18 [(.t 5)])⟩,
     ⟨(some 4), none, (.mov (.t 6))⟩])
  (.seq (.region false [] [
     ⟨(some 7), none, (.mov (.t 4))⟩,
     ⟨(some 8), none, (.bin .neq 25 (.t 7) (.v (.int .i64 0)))⟩])
  (.cond (.t 8)
    (.seq (.region false [] [
       ⟨(some 9), none, (.mov (.t 4))⟩,
       ⟨(some 2), none, (.mov (.v (.string ⟨#[]⟩)))⟩,
       ⟨(some 3), none, (.mov (.t 9))⟩])
    .ret)
    .skip)))
  (.seq (.seq (.region false [] [
     ⟨(some 10), none, (.fld 1 (.t 1))⟩,
     ⟨(some 11), none, (.load 1 false (.t 10))⟩,
     ⟨(some 12), none, (.bin .eql 3 (.t 11) (.v (.int .i64 0)))⟩])
  (.cond (.t 12)
    (.seq (.region false [] [
       ⟨(some 2), none, (.mov (.v (.string ⟨#[]⟩)))⟩,
       ⟨(some 3), none, (.mov (.v (.int .i64 10)))⟩])
    .ret)
    .skip))
  (.seq (.region false [] [
     ⟨(some 13), none, (.fld 2 (.t 1))⟩,
     ⟨(some 14), none, (.load 1 false (.t 13))⟩,
     ⟨(some 15), none, (.fld 3 (.t 1))⟩,
     ⟨(some 16), none, (.load 1 false (.t 15))⟩,
     ⟨(some 17), none, (.bin .sub 3 (.t 14) (.t 16))⟩,
     ⟨(some 18), none, (.fld 1 (.t 1))⟩,
     ⟨(some 19), none, (.load 1 false (.t 18))⟩,
     ⟨(some 20), none, (.call 20 [(.t 17), (.t 19)])⟩,
     ⟨(some 21), none, (.ext 0 (.t 20))⟩,
     ⟨(some 22), none, (.ext 1 (.t 20))⟩,
     ⟨(some 2), none, (.mov (.t 21))⟩,
     ⟨(some 3), none, (.mov (.t 22))⟩])
  .ret))))
theorem k17 : FnIs Tryd.prog 17 23 [.t 2, .t 3] a17 := ⟨_, _, Tryd.func17, rfl, by kernel_rfl, by kernel_rfl, rfl⟩

/-- An island. -/
structure Isl where
  ine : Int
  dam : Int
  sup : Int
  dem : Int
  freq : List UInt8
abbrev ic (x : Isl) : List AV := [I x.ine, I x.dam, I x.sup, I x.dem, S (bA x.freq)]
abbrev ia (x : Isl) : AV := .agg (ic x)
def Isl.zero : Isl := ⟨0, 0, 0, 0, []⟩
/-- Texts are not endless. -/
def Sz (x : Isl) : Prop := x.freq.length ≤ 9223372036854775807
/-- The numbers of an island are in order. -/
def numsOk (x : Isl) : Prop := 1 ≤ x.ine ∧ x.ine ≤ 1000 ∧ 0 ≤ x.dam ∧ x.dam ≤ x.ine ∧ 0 ≤ x.sup ∧ x.sup ≤ 100000 ∧ 0 ≤ x.dem ∧ x.dem ≤ 100000
instance (x : Isl) : Decidable (numsOk x) := by unfold numsOk; infer_instance
def checkS (x : Isl) : Int := if numsOk x then ratCheck x.freq else 4
theorem checkS_ok {x : Isl} (h : checkS x = 0) : numsOk x ∧ ratCheck x.freq = 0 := by
  unfold checkS at h
  split at h
  · exact ⟨by assumption, h⟩
  · cases h
set_option maxRecDepth 20000 in
theorem s18 (x : Isl) (hx : Sz x) : Aw.Spec Tryd.prog 18 [] [ia x] (Gives (· = I (checkS x))) := by
  refine Spec.shut (Post := fun rg v => v = I (checkS x)) ?_ fun rg v h => by subst h; exact ⟨rfl, rfl, rfl⟩
  refine Aw.Spec.regsW k18 rfl rfl fun E hn hnp hp => ?_
  unfold a18
  refine AWp.ofD [] [] hn mixed rfl ?_
  simp (config := { maxSteps := 2000000 }) only [go_sem, ↓reduceIte, Int.reduceToNat, Nat.reduceMul, Int.reduceBEq, Int.reduceBNe, Nat.reduceBEq, Nat.reduceAdd, Nat.reduceSub, Nat.reduceLeDiff, Nat.reduceEqDiff, Nat.reduceLT, reduceCtorEq]
  unfold checkS
  refine ⟨fun h => ?_, fun h => ⟨fun h2 => ?_, fun h2 => ?_⟩⟩
  · simp only [Bool.or_eq_true, decide_eq_true_eq] at h
    rw [if_neg (by unfold numsOk; omega)]
    refine Retn.ret (π := []) hp hnp ⟨rfl, ?_⟩
    simp (config := { maxSteps := 2000000 }) only [go_sem, ↓reduceIte, Int.reduceToNat, Nat.reduceMul, Int.reduceBEq, Int.reduceBNe, Nat.reduceBEq, Nat.reduceAdd, Nat.reduceSub, Nat.reduceLeDiff, Nat.reduceEqDiff, Nat.reduceLT, reduceCtorEq]
  · simp only [Bool.or_eq_true, decide_eq_true_eq] at h2
    rw [if_neg (by unfold numsOk; omega)]
    refine Retn.ret (π := []) hp hnp ⟨rfl, ?_⟩
    simp (config := { maxSteps := 2000000 }) only [go_sem, ↓reduceIte, Int.reduceToNat, Nat.reduceMul, Int.reduceBEq, Int.reduceBNe, Nat.reduceBEq, Nat.reduceAdd, Nat.reduceSub, Nat.reduceLeDiff, Nat.reduceEqDiff, Nat.reduceLT, reduceCtorEq]
  · simp only [Bool.or_eq_false_iff, decide_eq_false_iff_not] at h h2
    rw [if_pos (by unfold numsOk; omega)]
    (refine AWpL.calle (s47 x.freq hx) rfl (by rw [hn]; rfl) (by simp (config := { maxSteps := 2000000 }) only [go_sem, ↓reduceIte, Int.reduceToNat, Nat.reduceMul, Int.reduceBEq, Int.reduceBNe, Nat.reduceBEq, Nat.reduceAdd, Nat.reduceSub, Nat.reduceLeDiff, Nat.reduceEqDiff, Nat.reduceLT, reduceCtorEq]) (AWpL.ofM hn rfl ?_); simp (config := { maxSteps := 2000000 }) only [go_sem, ↓reduceIte, Int.reduceToNat, Nat.reduceMul, Int.reduceBEq, Int.reduceBNe, Nat.reduceBEq, Nat.reduceAdd, Nat.reduceSub, Nat.reduceLeDiff, Nat.reduceEqDiff, Nat.reduceLT, reduceCtorEq])
    refine Retn.ret (π := []) hp hnp ⟨rfl, ?_⟩
    simp (config := { maxSteps := 2000000 }) only [go_sem, ↓reduceIte, Int.reduceToNat, Nat.reduceMul, Int.reduceBEq, Int.reduceBNe, Nat.reduceBEq, Nat.reduceAdd, Nat.reduceSub, Nat.reduceLeDiff, Nat.reduceEqDiff, Nat.reduceLT, reduceCtorEq]
def excQ (x : Isl) (q : QQ) : QQ := subQ (intQ (x.sup - x.dem)) (mulQ (intQ x.dam) q)
def stepQ (x : Isl) (q : QQ) : QQ := addQ q (quoQ (excQ x q) (intQ x.ine))
def momQ (x : Isl) : QQ := mulQ (intQ x.ine) (ratIn x.freq)
theorem nums_int {x : Isl} (h : numsOk x) : QB 223 (intQ (x.sup - x.dem)) ∧ QB 223 (intQ x.dam) ∧ QB 223 (intQ x.ine) := by
  obtain ⟨h1, h2, h3, h4, h5, h6, h7, h8⟩ := h
  exact ⟨(intQ_QB (by omega) (by omega)).mono (by decide), (intQ_QB (by omega) (by omega)).mono (by decide), (intQ_QB (by omega) (by omega)).mono (by decide)⟩
theorem exc_QB {x : Isl} {q : QQ} (h : numsOk x) (hq : QB 223 q) : QB 893 (excQ x q) := by
  obtain ⟨h1, h2, h3⟩ := nums_int h
  exact subQ_QB (k := 446) (h1.mono (by decide)) (mulQ_QB h2 hq (by decide)) (by decide)
theorem step_QB {x : Isl} {q : QQ} (h : numsOk x) (hq : QB 223 q) : QB 3573 (stepQ x q) := by
  obtain ⟨h1, h2, h3⟩ := nums_int h
  exact addQ_QB (k := 1786) (hq.mono (by decide)) (quoQ_QB (k := 893) (exc_QB h hq) (h3.mono (by decide)) (by decide)) (by decide)
set_option maxRecDepth 20000 in
theorem s44 (x : Isl) (q : QQ) (h : numsOk x) (hq : QB 223 q) : Aw.Spec Tryd.prog 44 [] [ia x, qv q] (fun rg v => rg = [] ∧ v = qv (excQ x q)) := by
  refine Spec.shut (Post := fun rg v => v = qv (excQ x q)) ?_ fun rg v h => by subst h; exact ⟨rfl, rfl, rfl⟩
  refine Aw.Spec.regsW k44 rfl rfl fun E hn hnp hp => ?_
  unfold a44
  have pin : ∀ r, E.pin r = none := fun r => hp.none hnp (Nat.zero_le _)
  obtain ⟨h1, h2, h3⟩ := nums_int h
  obtain ⟨g1, g2, g3, g4, g5, g6, g7, g8⟩ := h
  have e1 : IntKind.i64.wrap (x.sup - x.dem) = x.sup - x.dem := w64 (by omega) (by omega)
  refine AWp.ofD [999] [] hn mixed rfl ?_
  simp (config := { maxSteps := 2000000 }) only [go_sem, ↓reduceIte, Int.reduceToNat, Nat.reduceMul, Int.reduceBEq, Int.reduceBNe, Nat.reduceBEq, Nat.reduceAdd, Nat.reduceSub, Nat.reduceLeDiff, Nat.reduceEqDiff, Nat.reduceLT, reduceCtorEq]
  refine AWp.plan (.take 0 [false, false, true, true, false, false, true, true, false, true, false, false, false] (.take 1 [true, false, true, true, false, false, true, true, false, true, false, false, false] (.take 2 [true, true, false, false, false, false, true, true, false, true, false, false, false] (.take 3 [true, true, true, false, false, false, true, true, false, true, false, false, false] (.take 4 [true, true, true, true, false, false, true, true, false, true, false, false, false] (.take 6 [true, true, true, true, true, true, false, false, false, true, false, false, false] (.take 7 [true, true, true, true, true, true, true, false, false, true, false, false, false] (.take 9 [true, true, true, true, true, true, true, true, true, false, false, false, false] (.one 5 (.one 8 (.one 10 (.one 11 (.one 12 .done))))))))))))) [true, true, true, true, true, true, true, true, true, true, true, true, false] mixed hn rfl rfl ?_
  simp (config := { maxSteps := 2000000 }) only [go_sem, ↓reduceIte, Int.reduceToNat, Nat.reduceMul, Int.reduceBEq, Int.reduceBNe, Nat.reduceBEq, Nat.reduceAdd, Nat.reduceSub, Nat.reduceLeDiff, Nat.reduceEqDiff, Nat.reduceLT, reduceCtorEq, e1]
  repeat' first | (refine And.intro ?_ ?_) | (refine AOne.callA (s42 (x.sup - x.dem) (by omega) (by omega)) rfl (by rw [hn]; rfl) (fun rg v hv => ?_); obtain ⟨rfl, rfl⟩ := hv; rw [retS_nil]; simp (config := { maxSteps := 2000000 }) only [go_sem, ↓reduceIte, Int.reduceToNat, Nat.reduceMul, Int.reduceBEq, Int.reduceBNe, Nat.reduceBEq, Nat.reduceAdd, Nat.reduceSub, Nat.reduceLeDiff, Nat.reduceEqDiff, Nat.reduceLT, reduceCtorEq]) | (refine AOne.callA (s42 x.dam (by omega) (by omega)) rfl (by rw [hn]; rfl) (fun rg v hv => ?_); obtain ⟨rfl, rfl⟩ := hv; rw [retS_nil]; simp (config := { maxSteps := 2000000 }) only [go_sem, ↓reduceIte, Int.reduceToNat, Nat.reduceMul, Int.reduceBEq, Int.reduceBNe, Nat.reduceBEq, Nat.reduceAdd, Nat.reduceSub, Nat.reduceLeDiff, Nat.reduceEqDiff, Nat.reduceLT, reduceCtorEq]) | (refine AOne.callA (s43 (intQ x.dam) q (h2.mono (by decide)) (hq.mono (by decide))) rfl (by rw [hn]; rfl) (fun rg v hv => ?_); obtain ⟨rfl, rfl⟩ := hv; rw [retS_nil]; simp (config := { maxSteps := 2000000 }) only [go_sem, ↓reduceIte, Int.reduceToNat, Nat.reduceMul, Int.reduceBEq, Int.reduceBNe, Nat.reduceBEq, Nat.reduceAdd, Nat.reduceSub, Nat.reduceLeDiff, Nat.reduceEqDiff, Nat.reduceLT, reduceCtorEq]) | (refine AOne.callA (s48 (intQ (x.sup - x.dem)) (mulQ (intQ x.dam) q) (h1.mono (by decide)) ((mulQ_QB h2 hq (by decide)).mono (by decide))) rfl (by rw [hn]; rfl) (fun rg v hv => ?_); obtain ⟨rfl, rfl⟩ := hv; rw [retS_nil]; simp (config := { maxSteps := 2000000 }) only [go_sem, ↓reduceIte, Int.reduceToNat, Nat.reduceMul, Int.reduceBEq, Int.reduceBNe, Nat.reduceBEq, Nat.reduceAdd, Nat.reduceSub, Nat.reduceLeDiff, Nat.reduceEqDiff, Nat.reduceLT, reduceCtorEq])
  all_goals (refine Retn.ret (π := [2]) hp hnp ⟨rfl, ?_⟩; simp (config := { maxSteps := 2000000 }) only [go_sem, ↓reduceIte, Int.reduceToNat, Nat.reduceMul, Int.reduceBEq, Int.reduceBNe, Nat.reduceBEq, Nat.reduceAdd, Nat.reduceSub, Nat.reduceLeDiff, Nat.reduceEqDiff, Nat.reduceLT, reduceCtorEq, Aw.renR, Aw.pos]; rfl)
set_option maxRecDepth 20000 in
theorem s40 (x : Isl) (q : QQ) (h : numsOk x) (hq : QB 223 q) : Aw.Spec Tryd.prog 40 [] [ia x, qv q] (fun rg v => rg = [] ∧ v = qv (stepQ x q)) := by
  refine Spec.shut (Post := fun rg v => v = qv (stepQ x q)) ?_ fun rg v h => by subst h; exact ⟨rfl, rfl, rfl⟩
  refine Aw.Spec.regsW k40 rfl rfl fun E hn hnp hp => ?_
  unfold a40
  have pin : ∀ r, E.pin r = none := fun r => hp.none hnp (Nat.zero_le _)
  obtain ⟨h1, h2, h3⟩ := nums_int h
  have g1 := h.1
  have g2 := h.2.1
  refine AWp.ofD [999] [] hn mixed rfl ?_
  simp (config := { maxSteps := 2000000 }) only [go_sem, ↓reduceIte, Int.reduceToNat, Nat.reduceMul, Int.reduceBEq, Int.reduceBNe, Nat.reduceBEq, Nat.reduceAdd, Nat.reduceSub, Nat.reduceLeDiff, Nat.reduceEqDiff, Nat.reduceLT, reduceCtorEq]
  refine AWp.plan (.take 0 [false, true, true, true, true, true, true, true, false, false] (.take 1 [true, false, true, false, true, true, false, false, false, false] (.take 2 [true, true, false, false, true, true, false, false, false, false] (.take 4 [true, true, true, true, false, false, false, false, false, false] (.take 5 [true, true, true, true, true, false, false, false, false, false] (.one 3 (.one 6 (.one 7 (.one 8 (.one 9 .done)))))))))) [true, true, true, true, true, true, true, true, true, false] mixed hn rfl rfl ?_
  simp (config := { maxSteps := 2000000 }) only [go_sem, ↓reduceIte, Int.reduceToNat, Nat.reduceMul, Int.reduceBEq, Int.reduceBNe, Nat.reduceBEq, Nat.reduceAdd, Nat.reduceSub, Nat.reduceLeDiff, Nat.reduceEqDiff, Nat.reduceLT, reduceCtorEq]
  repeat' first | (refine And.intro ?_ ?_) | (refine AOne.callA (s44 x q h hq) rfl (by rw [hn]; rfl) (fun rg v hv => ?_); obtain ⟨rfl, rfl⟩ := hv; rw [retS_nil]; simp (config := { maxSteps := 2000000 }) only [go_sem, ↓reduceIte, Int.reduceToNat, Nat.reduceMul, Int.reduceBEq, Int.reduceBNe, Nat.reduceBEq, Nat.reduceAdd, Nat.reduceSub, Nat.reduceLeDiff, Nat.reduceEqDiff, Nat.reduceLT, reduceCtorEq]) | (refine AOne.callA (s42 x.ine (by omega) (by omega)) rfl (by rw [hn]; rfl) (fun rg v hv => ?_); obtain ⟨rfl, rfl⟩ := hv; rw [retS_nil]; simp (config := { maxSteps := 2000000 }) only [go_sem, ↓reduceIte, Int.reduceToNat, Nat.reduceMul, Int.reduceBEq, Int.reduceBNe, Nat.reduceBEq, Nat.reduceAdd, Nat.reduceSub, Nat.reduceLeDiff, Nat.reduceEqDiff, Nat.reduceLT, reduceCtorEq]) | (refine AOne.callA (s52 (excQ x q) (intQ x.ine) ((exc_QB h hq).mono (by decide)) (h3.mono (by decide))) rfl (by rw [hn]; rfl) (fun rg v hv => ?_); obtain ⟨rfl, rfl⟩ := hv; rw [retS_nil]; simp (config := { maxSteps := 2000000 }) only [go_sem, ↓reduceIte, Int.reduceToNat, Nat.reduceMul, Int.reduceBEq, Int.reduceBNe, Nat.reduceBEq, Nat.reduceAdd, Nat.reduceSub, Nat.reduceLeDiff, Nat.reduceEqDiff, Nat.reduceLT, reduceCtorEq]) | (refine AOne.callA (s46 q (quoQ (excQ x q) (intQ x.ine)) (hq.mono (by decide)) ((quoQ_QB (k := 893) (exc_QB h hq) (h3.mono (by decide)) (by decide)).mono (by decide))) rfl (by rw [hn]; rfl) (fun rg v hv => ?_); obtain ⟨rfl, rfl⟩ := hv; rw [retS_nil]; simp (config := { maxSteps := 2000000 }) only [go_sem, ↓reduceIte, Int.reduceToNat, Nat.reduceMul, Int.reduceBEq, Int.reduceBNe, Nat.reduceBEq, Nat.reduceAdd, Nat.reduceSub, Nat.reduceLeDiff, Nat.reduceEqDiff, Nat.reduceLT, reduceCtorEq])
  all_goals (refine Retn.ret (π := [2]) hp hnp ⟨rfl, ?_⟩; simp (config := { maxSteps := 2000000 }) only [go_sem, ↓reduceIte, Int.reduceToNat, Nat.reduceMul, Int.reduceBEq, Int.reduceBNe, Nat.reduceBEq, Nat.reduceAdd, Nat.reduceSub, Nat.reduceLeDiff, Nat.reduceEqDiff, Nat.reduceLT, reduceCtorEq, Aw.renR, Aw.pos]; rfl)
theorem s39 (q : QQ) (hq : QB 600001 q) : Aw.Spec Tryd.prog 39 [] [qv q] (Gives (· = .tup [S (bA (toldQ q).1), I (toldQ q).2])) := by
  refine Spec.shut (Post := fun rg v => v = .tup [S (bA (toldQ q).1), I (toldQ q).2]) ?_ fun rg v h => by subst h; exact ⟨rfl, rfl, rfl⟩
  refine Aw.Spec.regsW k39 rfl rfl fun E hn hnp hp => ?_
  unfold a39
  refine AWp.ofD [] [] hn mixed rfl ?_
  simp (config := { maxSteps := 2000000 }) only [go_sem, ↓reduceIte, Int.reduceToNat, Nat.reduceMul, Int.reduceBEq, Int.reduceBNe, Nat.reduceBEq, Nat.reduceAdd, Nat.reduceSub, Nat.reduceLeDiff, Nat.reduceEqDiff, Nat.reduceLT, reduceCtorEq]
  (refine AWpL.calle (s57 q hq) rfl (by rw [hn]; rfl) (by simp (config := { maxSteps := 2000000 }) only [go_sem, ↓reduceIte, Int.reduceToNat, Nat.reduceMul, Int.reduceBEq, Int.reduceBNe, Nat.reduceBEq, Nat.reduceAdd, Nat.reduceSub, Nat.reduceLeDiff, Nat.reduceEqDiff, Nat.reduceLT, reduceCtorEq]) (AWpL.ofM hn rfl ?_); simp (config := { maxSteps := 2000000 }) only [go_sem, ↓reduceIte, Int.reduceToNat, Nat.reduceMul, Int.reduceBEq, Int.reduceBNe, Nat.reduceBEq, Nat.reduceAdd, Nat.reduceSub, Nat.reduceLeDiff, Nat.reduceEqDiff, Nat.reduceLT, reduceCtorEq])
  unfold toldQ
  refine ⟨fun h => ?_, fun h => ?_⟩
  · rw [if_pos (by simpa using h)]
    refine Retn.ret (π := []) hp hnp ⟨rfl, ?_⟩
    simp (config := { maxSteps := 2000000 }) only [go_sem, ↓reduceIte, Int.reduceToNat, Nat.reduceMul, Int.reduceBEq, Int.reduceBNe, Nat.reduceBEq, Nat.reduceAdd, Nat.reduceSub, Nat.reduceLeDiff, Nat.reduceEqDiff, Nat.reduceLT, reduceCtorEq]
    rfl
  · have h0 : fitsQ q = 0 := by simpa using h
    rw [if_neg (by simp [h0])]
    (refine AWpL.calle (s55 q hq) rfl (by rw [hn]; rfl) (by simp (config := { maxSteps := 2000000 }) only [go_sem, ↓reduceIte, Int.reduceToNat, Nat.reduceMul, Int.reduceBEq, Int.reduceBNe, Nat.reduceBEq, Nat.reduceAdd, Nat.reduceSub, Nat.reduceLeDiff, Nat.reduceEqDiff, Nat.reduceLT, reduceCtorEq]) (AWpL.ofM hn rfl ?_); simp (config := { maxSteps := 2000000 }) only [go_sem, ↓reduceIte, Int.reduceToNat, Nat.reduceMul, Int.reduceBEq, Int.reduceBNe, Nat.reduceBEq, Nat.reduceAdd, Nat.reduceSub, Nat.reduceLeDiff, Nat.reduceEqDiff, Nat.reduceLT, reduceCtorEq])
    refine Retn.ret (π := []) hp hnp ⟨rfl, ?_⟩
    simp (config := { maxSteps := 2000000 }) only [go_sem, ↓reduceIte, Int.reduceToNat, Nat.reduceMul, Int.reduceBEq, Int.reduceBNe, Nat.reduceBEq, Nat.reduceAdd, Nat.reduceSub, Nat.reduceLeDiff, Nat.reduceEqDiff, Nat.reduceLT, reduceCtorEq]
    rw [h0]
/-! What they compute, as rationals -/
def excR (x : Isl) (f : Rat) : Rat := ((x.sup - x.dem : Int) : Rat) - (x.dam : Rat) * f
def stepR (x : Isl) (f : Rat) : Rat := f + excR x f / (x.ine : Rat)
theorem exc_r (x : Isl) (q : QQ) : rOf (excQ x q) = excR x (rOf q) := by
  unfold excQ excR
  rw [sub_r, mul_r, int_r, int_r]
theorem step_r (x : Isl) (q : QQ) : rOf (stepQ x q) = stepR x (rOf q) := by
  unfold stepQ stepR
  rw [add_r, quo_r, exc_r, int_r]
theorem exc_can (x : Isl) (q : QQ) : Can (excQ x q) := sub_can (int_can _) (mul_can _ _)
theorem step_can (x : Isl) {q : QQ} (h : Can q) : Can (stepQ x q) := add_can h (quo_can _ _)
def stepS (x : Isl) : Isl × Int := if checkS x ≠ 0 then (Isl.zero, checkS x) else if (toldR (stepR x (inR x.freq))).2 ≠ 0 then (Isl.zero, (toldR (stepR x (inR x.freq))).2) else ({ x with freq := (toldR (stepR x (inR x.freq))).1 }, 0)
set_option maxRecDepth 20000 in
theorem s12 (x : Isl) (hx : Sz x) : Aw.Spec Tryd.prog 12 [] [ia x] (Gives (· = .tup [ia (stepS x).1, I (stepS x).2])) := by
  refine Spec.shut (Post := fun rg v => v = .tup [ia (stepS x).1, I (stepS x).2]) ?_ fun rg v h => by subst h; exact ⟨rfl, rfl, rfl⟩
  refine Aw.Spec.regsW k12 rfl rfl fun E hn hnp hp => ?_
  unfold a12
  have pin : ∀ r, E.pin r = none := fun r => hp.none hnp (Nat.zero_le _)
  refine AWp.ofD [999] [] hn mixed rfl ?_
  simp (config := { maxSteps := 2000000 }) only [go_sem, ↓reduceIte, Int.reduceToNat, Nat.reduceMul, Int.reduceBEq, Int.reduceBNe, Nat.reduceBEq, Nat.reduceAdd, Nat.reduceSub, Nat.reduceLeDiff, Nat.reduceEqDiff, Nat.reduceLT, reduceCtorEq]
  (refine AWpL.calle (s18 x hx) rfl (by rw [hn]; rfl) (by simp (config := { maxSteps := 2000000 }) only [go_sem, ↓reduceIte, Int.reduceToNat, Nat.reduceMul, Int.reduceBEq, Int.reduceBNe, Nat.reduceBEq, Nat.reduceAdd, Nat.reduceSub, Nat.reduceLeDiff, Nat.reduceEqDiff, Nat.reduceLT, reduceCtorEq]) (AWpL.ofM hn rfl ?_); simp (config := { maxSteps := 2000000 }) only [go_sem, ↓reduceIte, Int.reduceToNat, Nat.reduceMul, Int.reduceBEq, Int.reduceBNe, Nat.reduceBEq, Nat.reduceAdd, Nat.reduceSub, Nat.reduceLeDiff, Nat.reduceEqDiff, Nat.reduceLT, reduceCtorEq])
  unfold stepS
  refine ⟨fun h => ?_, fun h => ?_⟩
  · rw [if_pos (by simpa using h)]
    refine Retn.ret (π := [1]) hp hnp ⟨rfl, ?_⟩
    simp (config := { maxSteps := 2000000 }) only [go_sem, ↓reduceIte, Int.reduceToNat, Nat.reduceMul, Int.reduceBEq, Int.reduceBNe, Nat.reduceBEq, Nat.reduceAdd, Nat.reduceSub, Nat.reduceLeDiff, Nat.reduceEqDiff, Nat.reduceLT, reduceCtorEq, Aw.renR, Aw.pos]
    rfl
  have h0 : checkS x = 0 := by simpa using h
  rw [if_neg (by simp [h0])]
  obtain ⟨hk, hv⟩ := checkS_ok h0
  have hQ := ratIn_QB hv
  have ht : toldQ (stepQ x (ratIn x.freq)) = toldR (stepR x (inR x.freq)) := by rw [(step_can x (in_can hv)).told, step_r]; rfl
  refine AWp.plan (.take 0 [false, true, true, true, false, false, false, false, false, false, false] (.take 1 [true, false, false, false, false, false, false, false, false, false, false] (.take 2 [true, true, false, false, false, false, false, false, false, false, false] (.one 3 (.one 4 (.one 5 (.take 6 [true, true, true, true, true, true, false, false, false, false, false] (.take 7 [true, true, true, true, true, true, true, false, true, false, false] (.take 8 [true, true, true, true, true, true, true, true, false, true, false] (.take 9 [true, true, true, true, true, true, true, true, true, false, false] (.take 10 [true, true, true, true, true, true, true, true, true, true, false] .done))))))))))) [true, true, true, true, true, true, true, true, true, true, true] mixed hn rfl rfl ?_
  simp (config := { maxSteps := 2000000 }) only [go_sem, ↓reduceIte, Int.reduceToNat, Nat.reduceMul, Int.reduceBEq, Int.reduceBNe, Nat.reduceBEq, Nat.reduceAdd, Nat.reduceSub, Nat.reduceLeDiff, Nat.reduceEqDiff, Nat.reduceLT, reduceCtorEq]
  repeat' first | (refine And.intro ?_ ?_) | (refine AOne.callA (in_of hv hx) rfl (by rw [hn]; rfl) (fun rg v hv => ?_); obtain ⟨rfl, rfl⟩ := hv; rw [retS_nil]; simp (config := { maxSteps := 2000000 }) only [go_sem, ↓reduceIte, Int.reduceToNat, Nat.reduceMul, Int.reduceBEq, Int.reduceBNe, Nat.reduceBEq, Nat.reduceAdd, Nat.reduceSub, Nat.reduceLeDiff, Nat.reduceEqDiff, Nat.reduceLT, reduceCtorEq]) | (refine AOne.callA (s40 x (ratIn x.freq) hk hQ) rfl (by rw [hn]; rfl) (fun rg v hv => ?_); obtain ⟨rfl, rfl⟩ := hv; rw [retS_nil]; simp (config := { maxSteps := 2000000 }) only [go_sem, ↓reduceIte, Int.reduceToNat, Nat.reduceMul, Int.reduceBEq, Int.reduceBNe, Nat.reduceBEq, Nat.reduceAdd, Nat.reduceSub, Nat.reduceLeDiff, Nat.reduceEqDiff, Nat.reduceLT, reduceCtorEq])
  all_goals (refine AOne.calle (s39 (stepQ x (ratIn x.freq)) ((step_QB hk hQ).mono (by decide))) rfl (by rw [hn]; rfl) (by simp (config := { maxSteps := 2000000 }) only [go_sem, ↓reduceIte, Int.reduceToNat, Nat.reduceMul, Int.reduceBEq, Int.reduceBNe, Nat.reduceBEq, Nat.reduceAdd, Nat.reduceSub, Nat.reduceLeDiff, Nat.reduceEqDiff, Nat.reduceLT, reduceCtorEq]) ?_)
  simp (config := { maxSteps := 2000000 }) only [go_sem, ↓reduceIte, Int.reduceToNat, Nat.reduceMul, Int.reduceBEq, Int.reduceBNe, Nat.reduceBEq, Nat.reduceAdd, Nat.reduceSub, Nat.reduceLeDiff, Nat.reduceEqDiff, Nat.reduceLT, reduceCtorEq]
  rw [ht]
  refine ⟨fun h => ?_, fun h => ?_⟩
  · rw [if_pos (by simpa using h)]
    refine Retn.ret (π := [1]) hp hnp ⟨rfl, ?_⟩
    simp (config := { maxSteps := 2000000 }) only [go_sem, ↓reduceIte, Int.reduceToNat, Nat.reduceMul, Int.reduceBEq, Int.reduceBNe, Nat.reduceBEq, Nat.reduceAdd, Nat.reduceSub, Nat.reduceLeDiff, Nat.reduceEqDiff, Nat.reduceLT, reduceCtorEq, Aw.renR, Aw.pos]
    rfl
  · have h1 : (toldR (stepR x (inR x.freq))).2 = 0 := by simpa using h
    rw [if_neg (by simp [h1])]
    refine Retn.ret (π := [1]) hp hnp ⟨rfl, ?_⟩
    simp (config := { maxSteps := 2000000 }) only [go_sem, ↓reduceIte, Int.reduceToNat, Nat.reduceMul, Int.reduceBEq, Int.reduceBNe, Nat.reduceBEq, Nat.reduceAdd, Nat.reduceSub, Nat.reduceLeDiff, Nat.reduceEqDiff, Nat.reduceLT, reduceCtorEq, Aw.renR, Aw.pos]
/-- The texts of numbers that belong to an island. -/
def onIsl (x : Isl) (r : Rat) : List UInt8 × Int := if checkS x ≠ 0 then ([], checkS x) else toldR r
def momS (x : Isl) : List UInt8 × Int := onIsl x ((x.ine : Rat) * inR x.freq)
def excS (x : Isl) : List UInt8 × Int := onIsl x (excR x (inR x.freq))
set_option maxRecDepth 20000 in
theorem s14 (x : Isl) (hx : Sz x) : Aw.Spec Tryd.prog 14 [] [ia x] (Gives (· = .tup [S (bA (momS x).1), I (momS x).2])) := by
  refine Spec.shut (Post := fun rg v => v = .tup [S (bA (momS x).1), I (momS x).2]) ?_ fun rg v h => by subst h; exact ⟨rfl, rfl, rfl⟩
  refine Aw.Spec.regsW k14 rfl rfl fun E hn hnp hp => ?_
  unfold a14
  have pin : ∀ r, E.pin r = none := fun r => hp.none hnp (Nat.zero_le _)
  refine AWp.ofD [999] [] hn mixed rfl ?_
  simp (config := { maxSteps := 2000000 }) only [go_sem, ↓reduceIte, Int.reduceToNat, Nat.reduceMul, Int.reduceBEq, Int.reduceBNe, Nat.reduceBEq, Nat.reduceAdd, Nat.reduceSub, Nat.reduceLeDiff, Nat.reduceEqDiff, Nat.reduceLT, reduceCtorEq]
  (refine AWpL.calle (s18 x hx) rfl (by rw [hn]; rfl) (by simp (config := { maxSteps := 2000000 }) only [go_sem, ↓reduceIte, Int.reduceToNat, Nat.reduceMul, Int.reduceBEq, Int.reduceBNe, Nat.reduceBEq, Nat.reduceAdd, Nat.reduceSub, Nat.reduceLeDiff, Nat.reduceEqDiff, Nat.reduceLT, reduceCtorEq]) (AWpL.ofM hn rfl ?_); simp (config := { maxSteps := 2000000 }) only [go_sem, ↓reduceIte, Int.reduceToNat, Nat.reduceMul, Int.reduceBEq, Int.reduceBNe, Nat.reduceBEq, Nat.reduceAdd, Nat.reduceSub, Nat.reduceLeDiff, Nat.reduceEqDiff, Nat.reduceLT, reduceCtorEq])
  unfold momS onIsl
  refine ⟨fun h => ?_, fun h => ?_⟩
  · rw [if_pos (by simpa using h)]
    refine Retn.ret (π := []) hp hnp ⟨rfl, ?_⟩
    simp (config := { maxSteps := 2000000 }) only [go_sem, ↓reduceIte, Int.reduceToNat, Nat.reduceMul, Int.reduceBEq, Int.reduceBNe, Nat.reduceBEq, Nat.reduceAdd, Nat.reduceSub, Nat.reduceLeDiff, Nat.reduceEqDiff, Nat.reduceLT, reduceCtorEq, Aw.renR, Aw.pos]
    rfl
  have h0 : checkS x = 0 := by simpa using h
  rw [if_neg (by simp [h0])]
  obtain ⟨hk, hv⟩ := checkS_ok h0
  have hQ := ratIn_QB hv
  obtain ⟨h1, h2, h3⟩ := nums_int hk
  have g1 := hk.1
  have g2 := hk.2.1
  have ht : toldQ (mulQ (intQ x.ine) (ratIn x.freq)) = toldR ((x.ine : Rat) * inR x.freq) := by rw [(mul_can _ _).told, mul_r, int_r]; rfl
  refine AWp.plan (.take 0 [false, false, false, true, true, false, false, false, false, false, false, false] (.take 1 [true, false, false, true, true, false, false, false, false, false, false, false] (.take 3 [true, true, true, false, false, false, false, false, false, false, false, false] (.take 4 [true, true, true, true, false, false, false, false, false, false, false, false] (.one 2 (.one 5 (.one 6 (.one 7 (.take 8 [true, true, true, true, true, true, true, true, false, true, false, false] (.take 9 [true, true, true, true, true, true, true, true, true, false, false, false] (.take 10 [true, true, true, true, true, true, true, true, true, true, false, false] (.take 11 [true, true, true, true, true, true, true, true, true, true, true, false] .done)))))))))))) [true, true, true, true, true, true, true, true, true, true, true, true] mixed hn rfl rfl ?_
  simp (config := { maxSteps := 2000000 }) only [go_sem, ↓reduceIte, Int.reduceToNat, Nat.reduceMul, Int.reduceBEq, Int.reduceBNe, Nat.reduceBEq, Nat.reduceAdd, Nat.reduceSub, Nat.reduceLeDiff, Nat.reduceEqDiff, Nat.reduceLT, reduceCtorEq]
  repeat' first | (refine And.intro ?_ ?_) | (refine AOne.callA (in_of hv hx) rfl (by rw [hn]; rfl) (fun rg v hv => ?_); obtain ⟨rfl, rfl⟩ := hv; rw [retS_nil]; simp (config := { maxSteps := 2000000 }) only [go_sem, ↓reduceIte, Int.reduceToNat, Nat.reduceMul, Int.reduceBEq, Int.reduceBNe, Nat.reduceBEq, Nat.reduceAdd, Nat.reduceSub, Nat.reduceLeDiff, Nat.reduceEqDiff, Nat.reduceLT, reduceCtorEq]) | (refine AOne.callA (s42 x.ine (by omega) (by omega)) rfl (by rw [hn]; rfl) (fun rg v hv => ?_); obtain ⟨rfl, rfl⟩ := hv; rw [retS_nil]; simp (config := { maxSteps := 2000000 }) only [go_sem, ↓reduceIte, Int.reduceToNat, Nat.reduceMul, Int.reduceBEq, Int.reduceBNe, Nat.reduceBEq, Nat.reduceAdd, Nat.reduceSub, Nat.reduceLeDiff, Nat.reduceEqDiff, Nat.reduceLT, reduceCtorEq]) | (refine AOne.callA (s43 (intQ x.ine) (ratIn x.freq) (h3.mono (by decide)) (hQ.mono (by decide))) rfl (by rw [hn]; rfl) (fun rg v hv => ?_); obtain ⟨rfl, rfl⟩ := hv; rw [retS_nil]; simp (config := { maxSteps := 2000000 }) only [go_sem, ↓reduceIte, Int.reduceToNat, Nat.reduceMul, Int.reduceBEq, Int.reduceBNe, Nat.reduceBEq, Nat.reduceAdd, Nat.reduceSub, Nat.reduceLeDiff, Nat.reduceEqDiff, Nat.reduceLT, reduceCtorEq])
  all_goals (refine AOne.calle (s39 (mulQ (intQ x.ine) (ratIn x.freq)) ((mulQ_QB h3 hQ (by decide)).mono (by decide))) rfl (by rw [hn]; rfl) (by simp (config := { maxSteps := 2000000 }) only [go_sem, ↓reduceIte, Int.reduceToNat, Nat.reduceMul, Int.reduceBEq, Int.reduceBNe, Nat.reduceBEq, Nat.reduceAdd, Nat.reduceSub, Nat.reduceLeDiff, Nat.reduceEqDiff, Nat.reduceLT, reduceCtorEq]) ?_; simp (config := { maxSteps := 2000000 }) only [go_sem, ↓reduceIte, Int.reduceToNat, Nat.reduceMul, Int.reduceBEq, Int.reduceBNe, Nat.reduceBEq, Nat.reduceAdd, Nat.reduceSub, Nat.reduceLeDiff, Nat.reduceEqDiff, Nat.reduceLT, reduceCtorEq]; rw [ht]; refine Retn.ret (π := []) hp hnp ⟨rfl, ?_⟩; simp (config := { maxSteps := 2000000 }) only [go_sem, ↓reduceIte, Int.reduceToNat, Nat.reduceMul, Int.reduceBEq, Int.reduceBNe, Nat.reduceBEq, Nat.reduceAdd, Nat.reduceSub, Nat.reduceLeDiff, Nat.reduceEqDiff, Nat.reduceLT, reduceCtorEq, Aw.renR, Aw.pos])
set_option maxRecDepth 20000 in
theorem s15 (x : Isl) (hx : Sz x) : Aw.Spec Tryd.prog 15 [] [ia x] (Gives (· = .tup [S (bA (excS x).1), I (excS x).2])) := by
  refine Spec.shut (Post := fun rg v => v = .tup [S (bA (excS x).1), I (excS x).2]) ?_ fun rg v h => by subst h; exact ⟨rfl, rfl, rfl⟩
  refine Aw.Spec.regsW k15 rfl rfl fun E hn hnp hp => ?_
  unfold a15
  have pin : ∀ r, E.pin r = none := fun r => hp.none hnp (Nat.zero_le _)
  refine AWp.ofD [999] [] hn mixed rfl ?_
  simp (config := { maxSteps := 2000000 }) only [go_sem, ↓reduceIte, Int.reduceToNat, Nat.reduceMul, Int.reduceBEq, Int.reduceBNe, Nat.reduceBEq, Nat.reduceAdd, Nat.reduceSub, Nat.reduceLeDiff, Nat.reduceEqDiff, Nat.reduceLT, reduceCtorEq]
  (refine AWpL.calle (s18 x hx) rfl (by rw [hn]; rfl) (by simp (config := { maxSteps := 2000000 }) only [go_sem, ↓reduceIte, Int.reduceToNat, Nat.reduceMul, Int.reduceBEq, Int.reduceBNe, Nat.reduceBEq, Nat.reduceAdd, Nat.reduceSub, Nat.reduceLeDiff, Nat.reduceEqDiff, Nat.reduceLT, reduceCtorEq]) (AWpL.ofM hn rfl ?_); simp (config := { maxSteps := 2000000 }) only [go_sem, ↓reduceIte, Int.reduceToNat, Nat.reduceMul, Int.reduceBEq, Int.reduceBNe, Nat.reduceBEq, Nat.reduceAdd, Nat.reduceSub, Nat.reduceLeDiff, Nat.reduceEqDiff, Nat.reduceLT, reduceCtorEq])
  unfold excS onIsl
  refine ⟨fun h => ?_, fun h => ?_⟩
  · rw [if_pos (by simpa using h)]
    refine Retn.ret (π := []) hp hnp ⟨rfl, ?_⟩
    simp (config := { maxSteps := 2000000 }) only [go_sem, ↓reduceIte, Int.reduceToNat, Nat.reduceMul, Int.reduceBEq, Int.reduceBNe, Nat.reduceBEq, Nat.reduceAdd, Nat.reduceSub, Nat.reduceLeDiff, Nat.reduceEqDiff, Nat.reduceLT, reduceCtorEq, Aw.renR, Aw.pos]
    rfl
  have h0 : checkS x = 0 := by simpa using h
  rw [if_neg (by simp [h0])]
  obtain ⟨hk, hv⟩ := checkS_ok h0
  have hQ := ratIn_QB hv
  have ht : toldQ (excQ x (ratIn x.freq)) = toldR (excR x (inR x.freq)) := by rw [(exc_can _ _).told, exc_r]; rfl
  refine AWp.plan (.take 0 [false, true, true, true, false, false, false, false, false, false] (.take 1 [true, false, false, false, false, false, false, false, false, false] (.take 2 [true, true, false, false, false, false, false, false, false, false] (.one 3 (.one 4 (.one 5 (.take 6 [true, true, true, true, true, true, false, true, false, false] (.take 7 [true, true, true, true, true, true, true, false, false, false] (.take 8 [true, true, true, true, true, true, true, true, false, false] (.take 9 [true, true, true, true, true, true, true, true, true, false] .done)))))))))) [true, true, true, true, true, true, true, true, true, true] mixed hn rfl rfl ?_
  simp (config := { maxSteps := 2000000 }) only [go_sem, ↓reduceIte, Int.reduceToNat, Nat.reduceMul, Int.reduceBEq, Int.reduceBNe, Nat.reduceBEq, Nat.reduceAdd, Nat.reduceSub, Nat.reduceLeDiff, Nat.reduceEqDiff, Nat.reduceLT, reduceCtorEq]
  repeat' first | (refine And.intro ?_ ?_) | (refine AOne.callA (in_of hv hx) rfl (by rw [hn]; rfl) (fun rg v hv => ?_); obtain ⟨rfl, rfl⟩ := hv; rw [retS_nil]; simp (config := { maxSteps := 2000000 }) only [go_sem, ↓reduceIte, Int.reduceToNat, Nat.reduceMul, Int.reduceBEq, Int.reduceBNe, Nat.reduceBEq, Nat.reduceAdd, Nat.reduceSub, Nat.reduceLeDiff, Nat.reduceEqDiff, Nat.reduceLT, reduceCtorEq]) | (refine AOne.callA (s44 x (ratIn x.freq) hk hQ) rfl (by rw [hn]; rfl) (fun rg v hv => ?_); obtain ⟨rfl, rfl⟩ := hv; rw [retS_nil]; simp (config := { maxSteps := 2000000 }) only [go_sem, ↓reduceIte, Int.reduceToNat, Nat.reduceMul, Int.reduceBEq, Int.reduceBNe, Nat.reduceBEq, Nat.reduceAdd, Nat.reduceSub, Nat.reduceLeDiff, Nat.reduceEqDiff, Nat.reduceLT, reduceCtorEq])
  all_goals (refine AOne.calle (s39 (excQ x (ratIn x.freq)) ((exc_QB hk hQ).mono (by decide))) rfl (by rw [hn]; rfl) (by simp (config := { maxSteps := 2000000 }) only [go_sem, ↓reduceIte, Int.reduceToNat, Nat.reduceMul, Int.reduceBEq, Int.reduceBNe, Nat.reduceBEq, Nat.reduceAdd, Nat.reduceSub, Nat.reduceLeDiff, Nat.reduceEqDiff, Nat.reduceLT, reduceCtorEq]) ?_; simp (config := { maxSteps := 2000000 }) only [go_sem, ↓reduceIte, Int.reduceToNat, Nat.reduceMul, Int.reduceBEq, Int.reduceBNe, Nat.reduceBEq, Nat.reduceAdd, Nat.reduceSub, Nat.reduceLeDiff, Nat.reduceEqDiff, Nat.reduceLT, reduceCtorEq]; rw [ht]; refine Retn.ret (π := []) hp hnp ⟨rfl, ?_⟩; simp (config := { maxSteps := 2000000 }) only [go_sem, ↓reduceIte, Int.reduceToNat, Nat.reduceMul, Int.reduceBEq, Int.reduceBNe, Nat.reduceBEq, Nat.reduceAdd, Nat.reduceSub, Nat.reduceLeDiff, Nat.reduceEqDiff, Nat.reduceLT, reduceCtorEq, Aw.renR, Aw.pos])
def steadyR (x : Isl) : Rat := ((x.sup - x.dem : Int) : Rat) / (x.dam : Rat)
def steadyS (x : Isl) : List UInt8 × Int := if checkS x ≠ 0 then ([], checkS x) else if x.dam = 0 then ([], 10) else toldR (steadyR x)
theorem s17 (x : Isl) (hx : Sz x) : Aw.Spec Tryd.prog 17 [] [ia x] (Gives (· = .tup [S (bA (steadyS x).1), I (steadyS x).2])) := by
  refine Spec.shut (Post := fun rg v => v = .tup [S (bA (steadyS x).1), I (steadyS x).2]) ?_ fun rg v h => by subst h; exact ⟨rfl, rfl, rfl⟩
  refine Aw.Spec.regsW k17 rfl rfl fun E hn hnp hp => ?_
  unfold a17
  have pin : ∀ r, E.pin r = none := fun r => hp.none hnp (Nat.zero_le _)
  refine AWp.ofD [] [] hn mixed rfl ?_
  simp (config := { maxSteps := 2000000 }) only [go_sem, ↓reduceIte, Int.reduceToNat, Nat.reduceMul, Int.reduceBEq, Int.reduceBNe, Nat.reduceBEq, Nat.reduceAdd, Nat.reduceSub, Nat.reduceLeDiff, Nat.reduceEqDiff, Nat.reduceLT, reduceCtorEq]
  (refine AWpL.calle (s18 x hx) rfl (by rw [hn]; rfl) (by simp (config := { maxSteps := 2000000 }) only [go_sem, ↓reduceIte, Int.reduceToNat, Nat.reduceMul, Int.reduceBEq, Int.reduceBNe, Nat.reduceBEq, Nat.reduceAdd, Nat.reduceSub, Nat.reduceLeDiff, Nat.reduceEqDiff, Nat.reduceLT, reduceCtorEq]) (AWpL.ofM hn rfl ?_); simp (config := { maxSteps := 2000000 }) only [go_sem, ↓reduceIte, Int.reduceToNat, Nat.reduceMul, Int.reduceBEq, Int.reduceBNe, Nat.reduceBEq, Nat.reduceAdd, Nat.reduceSub, Nat.reduceLeDiff, Nat.reduceEqDiff, Nat.reduceLT, reduceCtorEq])
  unfold steadyS
  refine ⟨fun h => ?_, fun h => ⟨fun h2 => ?_, fun h2 => ?_⟩⟩
  · rw [if_pos (by simpa using h)]
    refine Retn.ret (π := []) hp hnp ⟨rfl, ?_⟩
    simp (config := { maxSteps := 2000000 }) only [go_sem, ↓reduceIte, Int.reduceToNat, Nat.reduceMul, Int.reduceBEq, Int.reduceBNe, Nat.reduceBEq, Nat.reduceAdd, Nat.reduceSub, Nat.reduceLeDiff, Nat.reduceEqDiff, Nat.reduceLT, reduceCtorEq, Aw.renR, Aw.pos]
    rfl
  · have h0 : checkS x = 0 := by simpa using h
    rw [if_neg (by simp [h0]), if_pos (by simpa using h2)]
    refine Retn.ret (π := []) hp hnp ⟨rfl, ?_⟩
    simp (config := { maxSteps := 2000000 }) only [go_sem, ↓reduceIte, Int.reduceToNat, Nat.reduceMul, Int.reduceBEq, Int.reduceBNe, Nat.reduceBEq, Nat.reduceAdd, Nat.reduceSub, Nat.reduceLeDiff, Nat.reduceEqDiff, Nat.reduceLT, reduceCtorEq, Aw.renR, Aw.pos]
    rfl
  · have h0 : checkS x = 0 := by simpa using h
    have h3 : x.dam ≠ 0 := by simpa using h2
    rw [if_neg (by simp [h0]), if_neg h3]
    obtain ⟨⟨g1, g2, g3, g4, g5, g6, g7, g8⟩, hv⟩ := checkS_ok h0
    have e1 : IntKind.i64.wrap (x.sup - x.dem) = x.sup - x.dem := w64 (by omega) (by omega)
    rw [e1]
    have ht : ofQ (x.sup - x.dem) x.dam = toldR (steadyR x) := by rw [ofQ_r, if_neg h3]; rfl
    (refine AWpL.calle (s20 (x.sup - x.dem) x.dam (by omega) (by omega) (by omega) (by omega)) rfl (by rw [hn]; rfl) (by simp (config := { maxSteps := 2000000 }) only [go_sem, ↓reduceIte, Int.reduceToNat, Nat.reduceMul, Int.reduceBEq, Int.reduceBNe, Nat.reduceBEq, Nat.reduceAdd, Nat.reduceSub, Nat.reduceLeDiff, Nat.reduceEqDiff, Nat.reduceLT, reduceCtorEq]) (AWpL.ofM hn rfl ?_); simp (config := { maxSteps := 2000000 }) only [go_sem, ↓reduceIte, Int.reduceToNat, Nat.reduceMul, Int.reduceBEq, Int.reduceBNe, Nat.reduceBEq, Nat.reduceAdd, Nat.reduceSub, Nat.reduceLeDiff, Nat.reduceEqDiff, Nat.reduceLT, reduceCtorEq])
    rw [ht]
    refine Retn.ret (π := []) hp hnp ⟨rfl, ?_⟩
    simp (config := { maxSteps := 2000000 }) only [go_sem, ↓reduceIte, Int.reduceToNat, Nat.reduceMul, Int.reduceBEq, Int.reduceBNe, Nat.reduceBEq, Nat.reduceAdd, Nat.reduceSub, Nat.reduceLeDiff, Nat.reduceEqDiff, Nat.reduceLT, reduceCtorEq, Aw.renR, Aw.pos]
end Go.Proofs.YtjaakbkneeojnaaDoor
