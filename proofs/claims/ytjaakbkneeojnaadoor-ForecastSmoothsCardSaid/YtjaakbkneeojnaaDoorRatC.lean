/- Rationals and texts: In, Check, Fits, Out, told, Of. -/
import Derived.Test.YtjaakbkneeojnaaDoorAwZl
import Derived.Test.YtjaakbkneeojnaaDoorRatB
import Derived.Test.YtjaakbkneeojnaaDoorTrlB
set_option linter.unusedVariables false
set_option linter.unusedSimpArgs false
namespace Go.Proofs.YtjaakbkneeojnaaDoor
open Go.Proofs.YtjaakbkneeojnaaDoor.Aw
attribute [local go_sem] Int.natCast_zero Int.natCast_one bne_self_eq_false beq_self_eq_true Bool.not_true Bool.not_false Option.isSome_none Option.isSome_some Aw.bkM_nil Option.getD_some Option.getD_none Nat.sub_zero Int.toNat_zero Aw.frzS Aw.frzT Aw.frzA Aw.frzL Aw.frzR Aw.frzO Aw.frzOL Aw.frzOT Aw.frzOR Aw.killS Aw.mapT Aw.mapR Aw.killM Aw.resAVs Aw.resAV Aw.quietOps Aw.wpP Aw.wpT Aw.wpS Aw.AOp.mild List.getElem?_cons_zero List.getElem?_cons_succ Bool.and_false Bool.and_self Bool.false_and Aw.opOb Aw.gdB Aw.Rnd Aw.subTm List.length_map Int.toNat_natCast and_self Aw.SeqC Aw.stops Aw.Ends Aw.looks Aw.renA Aw.renL Aw.renT Aw.renS Aw.wpO Aw.aop Aw.putTm Aw.St.ev Aw.St.put Aw.St.putO Aw.binAV Aw.intBin Aw.strBin Aw.pickAV Aw.optInt Aw.AV.strip Aw.AV.guard Aw.AV.cells Aw.gdOb Aw.AOp.opds Aw.AOp.still Aw.ptrCells Aw.St.reg Aw.fillAV Aw.fillOb Aw.elsOb Aw.splice Aw.firm Aw.cellish Aw.AV.shut Aw.shutAll Aw.Seq Aw.Blk Aw.retS_nil Aw.mapA Aw.mapL Aw.borA Aw.borOb Aw.allOb Aw.tupOf Aw.params Aw.Opd.of Array.toList Value.cells List.map_cons List.map_nil List.getD_cons_zero List.getD_cons_succ List.getD_nil List.length_cons List.length_nil List.take_succ_cons List.take_zero List.take_nil List.drop_zero List.drop_succ_cons List.drop_nil List.set_cons_zero List.set_cons_succ List.append_nil List.nil_append List.cons_append List.all_cons List.all_nil cond_false cond_true if_true if_false true_and and_true Bool.and_true Bool.true_and Option.map_some Option.map_none false_implies forall_const implies_true forall_eq imp_self Bool.cond_false_right Bool.cond_true_left beq_true beq_false Bool.not_eq_true' Bool.false_eq_true Nat.zero_add Nat.add_zero Aw.eqCells Aw.stopDraw Aw.skipS Aw.exactCap Aw.revealS Aw.srcEls Aw.srcSz
attribute [local go_sem ↓] Aw.look_nil Aw.look_ite Aw.wpL_nil Aw.wpL_op Aw.wpL_gd Aw.wpQ_nil Aw.wpQ_op Aw.wpQ_gd Aw.wpC_draw Aw.wpC_reg Aw.wpC_skip Aw.wpC_ret Aw.wpC_exit Aw.wpC_seq Aw.wpC_block Aw.wpC_loop Aw.wpC_cond Aw.stopAt_nil Aw.stopAt_cons Aw.wpD_skip Aw.wpD_ret Aw.wpD_exit Aw.wpD_region Aw.wpD_draw Aw.wpM_nil Aw.wpM_op Aw.wpM_gd Aw.wpD_seq Aw.wpD_block Aw.wpD_loop Aw.wpD_cond
/- gridhall/rat.In -/
def a41 : ACode :=
  (.seq (.region false [] [
     ⟨(some 2), none, (.alloc 62 (.agg #[(.bool false), (.slice none 0 0), (.slice none 0 0)]))⟩])
  (.seq (.region false [] [
     ⟨(some 10), none, (.mov (.t 0))⟩,
     ⟨(some 11), none, (.call 63 [(.t 10), (.v (.string ⟨#[45]⟩))])⟩,
     ⟨(some 9), none, (.mov (.t 11))⟩,
     ⟨(some 12), none, (.ext 0 (.t 9))⟩,
     ⟨(some 13), none, (.ext 1 (.t 9))⟩,
     ⟨(some 3), none, (.mov (.t 12))⟩,
     ⟨(some 4), none, (.mov (.t 13))⟩])
  (.seq (.region false [] [
     ⟨(some 15), none, (.mov (.t 3))⟩,
     ⟨(some 16), none, (.call 64 [(.t 15), (.v (.string ⟨#[47]⟩))])⟩,
     ⟨(some 14), none, (.mov (.t 16))⟩,
     ⟨(some 17), none, (.ext 0 (.t 14))⟩,
     ⟨(some 18), none, (.ext 1 (.t 14))⟩,
     ⟨(some 19), none, (.ext 2 (.t 14))⟩,
     ⟨(some 5), none, (.mov (.t 17))⟩,
     ⟨(some 6), none, (.mov (.t 18))⟩,
     ⟨(some 7), none, (.mov (.t 19))⟩])
  (.seq (.region false [] [
     ⟨(some 20), none, (.mov (.t 4))⟩,
     ⟨(some 21), none, (.mov (.t 5))⟩,
     ⟨(some 22), none, (.call 65 [(.t 21)])⟩,
     ⟨(some 23), none, (.call 66 [(.v (.int .i64 1))])⟩,
     ⟨(some 24), none, (.build (.agg #[(.bool false), (.slice none 0 0), (.slice none 0 0)]) [(0, (1, (.t 20))), (1, (1, (.t 22))), (2, (1, (.t 23)))])⟩,
     ⟨(some 8), none, (.alloc 62 (.agg #[(.bool false), (.slice none 0 0), (.slice none 0 0)]))⟩,
     ⟨none, none, (.store 3 (.t 8) (.t 24))⟩])
  (.seq (.seq (.region false [] [
     ⟨(some 25), none, (.mov (.t 7))⟩])
  (.cond (.t 25)
    (.region false [] [
       ⟨(some 26), none, (.mov (.t 6))⟩,
       ⟨(some 27), none, (.call 65 [(.t 26)])⟩,
       ⟨(some 28), none, (.fld 2 (.t 8))⟩,
       ⟨none, none, (.store 1 (.t 28) (.t 27))⟩])
    .skip))
  (.seq (.region false [] [
     ⟨(some 29), none, (.load 3 true (.t 8))⟩,
     ⟨none, none, (.store 3 (.t 2) (.t 29))⟩])
  .ret))))))
theorem k41 : FnIs Tryd.prog 41 30 [.c 2 3 true] a41 := ⟨_, _, Tryd.func41, rfl, by kernel_rfl, by kernel_rfl, rfl⟩
/- gridhall/rat.Check -/
def a47 : ACode :=
  (.seq (.region false [] [
     ⟨(some 2), none, (.mov (.v (.int .i64 0)))⟩])
  (.seq (.region false [] [
     ⟨(some 11), none, (.mov (.t 0))⟩,
     ⟨(some 12), none, (.call 63 [(.t 11), (.v (.string ⟨#[45]⟩))])⟩,
     ⟨(some 10), none, (.mov (.t 12))⟩,
     ⟨(some 13), none, (.ext 0 (.t 10))⟩,
     ⟨(some 14), none, (.ext 1 (.t 10))⟩,
     ⟨(some 3), none, (.mov (.t 13))⟩,
     ⟨(some 4), none, (.mov (.t 14))⟩])
  (.seq (.region false [] [
     ⟨(some 16), none, (.mov (.t 3))⟩,
     ⟨(some 17), none, (.call 64 [(.t 16), (.v (.string ⟨#[47]⟩))])⟩,
     ⟨(some 15), none, (.mov (.t 17))⟩,
     ⟨(some 18), none, (.ext 0 (.t 15))⟩,
     ⟨(some 19), none, (.ext 1 (.t 15))⟩,
     ⟨(some 20), none, (.ext 2 (.t 15))⟩,
     ⟨(some 5), none, (.mov (.t 18))⟩,
     ⟨(some 6), none, (.mov (.t 19))⟩,
     ⟨(some 7), none, (.mov (.t 20))⟩])
  (.seq (.region false [] [
     ⟨(some 21), none, (.mov (.t 5))⟩,
     ⟨(some 22), none, (.call 72 [(.t 21)])⟩,
     ⟨(some 8), none, (.mov (.t 22))⟩,
     ⟨(some 9), none, (.mov (.v (.int .i64 0)))⟩])
  (.seq (.seq (.region false [] [
     ⟨(some 23), none, (.mov (.t 7))⟩])
  (.cond (.t 23)
    (.region false [] [
       ⟨(some 24), none, (.mov (.t 6))⟩,
       ⟨(some 25), none, (.call 72 [(.t 24)])⟩,
       ⟨(some 9), none, (.mov (.t 25))⟩])
    .skip))
  (.seq (.seq (.region false [] [
     ⟨(some 26), none, (.mov (.t 8))⟩,
     ⟨(some 27), none, (.bin .eql 25 (.t 26) (.v (.int .i64 5)))⟩,
     ⟨(some 28), none, (.mov (.t 27))⟩,
     ⟨(some 29), (some (28, false)), (.mov (.t 9))⟩,
     ⟨(some 30), (some (28, false)), (.bin .eql 25 (.t 29) (.v (.int .i64 5)))⟩,
     ⟨(some 31), none, (.pick (.t 28) (.v (.bool true)) (.t 30))⟩,
     ⟨(some 32), none, (.mov (.t 31))⟩,
     ⟨(some 33), (some (32, false)), (.mov (.t 4))⟩,
     ⟨(some 34), (some (32, false)), (.mov (.t 33))⟩,
     ⟨(some 35), (some (34, true)), (.mov (.t 5))⟩,
     ⟨(some 36), (some (34, true)), (.bin .eql 9 (.t 35) (.v (.string ⟨#[48]⟩)))⟩,
     ⟨(some 37), (some (32, false)), (.pick (.t 34) (.t 36) (.v (.bool false)))⟩,
     ⟨(some 38), none, (.pick (.t 32) (.v (.bool true)) (.t 37))⟩])
  (.cond (.t 38)
    (.seq (.region false [] [
       ⟨(some 2), none, (.mov (.v (.int .i64 5)))⟩])
    .ret)
    .skip))
  (.seq (.seq (.region false [] [
     ⟨(some 39), none, (.mov (.t 8))⟩,
     ⟨(some 40), none, (.bin .neq 25 (.t 39) (.v (.int .i64 0)))⟩,
     ⟨(some 41), none, (.mov (.t 40))⟩,
     ⟨(some 42), (some (41, false)), (.mov (.t 9))⟩,
     ⟨(some 43), (some (41, false)), (.bin .neq 25 (.t 42) (.v (.int .i64 0)))⟩,
     ⟨(some 44), none, (.pick (.t 41) (.v (.bool true)) (.t 43))⟩])
  (.cond (.t 44)
    (.seq (.region false [] [
       ⟨(some 2), none, (.mov (.v (.int .i64 2)))⟩])
    .ret)
    .skip))
  (.seq (.seq (.region false [] [
     ⟨(some 45), none, (.mov (.t 7))⟩,
     ⟨(some 46), none, (.mov (.t 45))⟩,
     ⟨(some 47), (some (46, true)), (.mov (.t 6))⟩,
     ⟨(some 48), (some (46, true)), (.bin .eql 9 (.t 47) (.v (.string ⟨#[48]⟩)))⟩,
     ⟨(some 49), (some (46, true)), (.mov (.t 48))⟩,
     ⟨(some 50), (some (49, false)), (.mov (.t 6))⟩,
     ⟨(some 51), (some (49, false)), (.bin .eql 9 (.t 50) (.v (.string ⟨#[49]⟩)))⟩,
     ⟨(some 52), (some (46, true)), (.pick (.t 49) (.v (.bool true)) (.t 51))⟩,
     ⟨(some 53), (some (46, true)), (.mov (.t 52))⟩,
     ⟨(some 54), (some (53, false)), (.mov (.t 5))⟩,
     ⟨(some 55), (some (53, false)), (.call 65 [(.t 54)])⟩,
     ⟨(some 56), (some (53, false)), (.mov (.t 6))⟩,
     ⟨(some 57), (some (53, false)), (.call 65 [(.t 56)])⟩,
     ⟨(some 58), (some (53, false)), (.call 73 [(.t 55), (.t 57)])⟩,
     ⟨(some 59), (some (53, false)), (.call 66 [(.v (.int .i64 1))])⟩,
     ⟨(some 60), (some (53, false)), (.call 70 [(.t 58), (.t 59)])⟩,
     ⟨(some 61), (some (53, false)), (.bin .neq 3 (.t 60) (.v (.int .i64 0)))⟩,
     ⟨(some 62), (some (46, true)), (.pick (.t 53) (.v (.bool true)) (.t 61))⟩,
     ⟨(some 63), none, (.pick (.t 46) (.t 62) (.v (.bool false)))⟩])
  (.cond (.t 63)
    (.seq (.region false [] [
       ⟨(some 2), none, (.mov (.v (.int .i64 3)))⟩])
    .ret)
    .skip))
  (.seq (.region false [] [
     ⟨(some 2), none, (.mov (.v (.int .i64 0)))⟩])
  .ret)))))))))
theorem k47 : FnIs Tryd.prog 47 64 [.t 2] a47 := ⟨_, _, Tryd.func47, rfl, by kernel_rfl, by kernel_rfl, rfl⟩
/- gridhall/rat.CheckAll -/
def a56 : ACode :=
  (.seq (.region false [] [
     ⟨(some 2), none, (.mov (.v (.int .i64 0)))⟩])
  (.seq (.seq (.region false [] [
     ⟨(some 6), none, (.mov (.t 0))⟩,
     ⟨(some 7), none, (.len (.t 6))⟩,
     ⟨(some 8), none, (.mov (.v (.int .i64 0)))⟩])
  (.block 0 (.loop (.seq (.region false [] [
       ⟨(some 9), none, (.bin .lss 3 (.t 8) (.t 7))⟩])
    (.seq (.cond (.t 9)
      .skip
      (.exit 0))
    (.seq (.block 1 (.seq (.region false [] [
        ⟨(some 10), none, (.idx 1 (.t 6) (.t 8))⟩,
        ⟨(some 11), none, (.load 1 false (.t 10))⟩,
        ⟨(some 4), none, (.mov (.t 11))⟩])
     (.seq (.region false [] [
        ⟨(some 12), none, (.mov (.t 4))⟩,
        ⟨(some 13), none, (.call 47 [(.t 12)])⟩,
        ⟨(some 5), none, (.mov (.t 13))⟩])
     (.seq (.region false [] [
        ⟨(some 14), none, (.mov (.t 5))⟩,
        ⟨(some 15), none, (.bin .neq 25 (.t 14) (.v (.int .i64 0)))⟩])
     (.cond (.t 15)
       (.seq (.region false [] [
          ⟨(some 16), none, (.mov (.t 5))⟩,
          ⟨(some 2), none, (.mov (.t 16))⟩])
       .ret)
       .skip)))))
    (.region false [] [
       ⟨(some 17), none, (.bin .add 3 (.t 8) (.v (.int .i64 1)))⟩,
       ⟨(some 8), none, (.mov (.t 17))⟩])))))))
  (.seq (.region false [] [
     ⟨(some 2), none, (.mov (.v (.int .i64 0)))⟩])
  .ret)))
theorem k56 : FnIs Tryd.prog 56 18 [.t 2] a56 := ⟨_, _, Tryd.func56, rfl, by kernel_rfl, by kernel_rfl, rfl⟩
/- gridhall/rat.Fits -/
def a57 : ACode :=
  (.seq (.region false [] [
     ⟨(some 1), none, (.box 62 (.t 0))⟩,
     ⟨(some 2), none, (.mov (.v (.int .i64 0)))⟩])
  (.seq (.seq (.region false [] [
     ⟨(some 3), none, (.fld 1 (.t 1))⟩,
     ⟨(some 4), none, (.load 1 false (.t 3))⟩,
     ⟨(some 5), none, (.call 77 [(.t 4)])⟩,
     ⟨(some 6), none, (.bin .gtr 3 (.t 5) (.v (.int .i64 2000)))⟩,
     ⟨(some 7), none, (.mov (.t 6))⟩,
     ⟨(some 8), (some (7, false)), (.fld 2 (.t 1))⟩,
     ⟨(some 9), (some (7, false)), (.load 1 false (.t 8))⟩,
     ⟨(some 10), (some (7, false)), (.call 77 [(.t 9)])⟩,
     ⟨(some 11), (some (7, false)), (.bin .gtr 3 (.t 10) (.v (.int .i64 2000)))⟩,
     ⟨(some 12), none, (.pick (.t 7) (.v (.bool true)) (.t 11))⟩])
  (.cond (.t 12)
    (.seq (.region false [] [
       ⟨(some 2), none, (.mov (.v (.int .i64 2)))⟩])
    .ret)
    .skip))
  (.seq (.region false [] [
     ⟨(some 2), none, (.mov (.v (.int .i64 0)))⟩])
  .ret)))
theorem k57 : FnIs Tryd.prog 57 13 [.t 2] a57 := ⟨_, _, Tryd.func57, rfl, by kernel_rfl, by kernel_rfl, rfl⟩
/- (gridhall/rat.Q).Out -/
def a55 : ACode :=
  (.seq (.region false [] [
     ⟨(some 1), none, (.box 62 (.t 0))⟩,
     ⟨(some 2), none, (.mov (.v (.string ⟨#[]⟩)))⟩])
  (.seq (.seq (.region false [] [
     ⟨(some 5), none, (.fld 1 (.t 1))⟩,
     ⟨(some 6), none, (.load 1 false (.t 5))⟩,
     ⟨(some 7), none, (.len (.t 6))⟩,
     ⟨(some 8), none, (.bin .eql 3 (.t 7) (.v (.int .i64 0)))⟩])
  (.cond (.t 8)
    (.seq (.region false [] [
       ⟨(some 2), none, (.mov (.v (.string ⟨#[48]⟩)))⟩])
    .ret)
    .skip))
  (.seq (.region false [] [
     ⟨(some 9), none, (.fld 1 (.t 1))⟩,
     ⟨(some 10), none, (.load 1 false (.t 9))⟩,
     ⟨(some 11), none, (.call 76 [(.t 10)])⟩,
     ⟨(some 3), none, (.mov (.t 11))⟩])
  (.seq (.seq (.region false [] [
     ⟨(some 12), none, (.fld 0 (.t 1))⟩,
     ⟨(some 13), none, (.load 1 false (.t 12))⟩])
  (.cond (.t 13)
    (.region false [] [
       ⟨(some 14), none, (.mov (.t 3))⟩,
       ⟨(some 15), none, (.bin .add 9 (.v (.string ⟨#[45]⟩)) (.t 14))⟩,
       ⟨(some 3), none, (.mov (.t 15))⟩])
    .skip))
  (.seq (.seq (.region false [] [
     ⟨(some 16), none, (.load 3 true (.t 1))⟩,
     ⟨(some 17), none, (.call 68 [(.t 16)])⟩,
     ⟨(some 18), none, (.call 76 [(.t 17)])⟩,
     ⟨(some 4), none, (.mov (.t 18))⟩])
  (.seq (.region false [] [
     ⟨(some 19), none, (.mov (.t 4))⟩,
     ⟨(some 20), none, (.bin .neq 9 (.t 19) (.v (.string ⟨#[49]⟩)))⟩])
  (.cond (.t 20)
    (.region false [] [
       ⟨(some 21), none, (.mov (.t 3))⟩,
       ⟨(some 22), none, (.mov (.t 4))⟩,
       ⟨(some 23), none, (.bin .add 9 (.v (.string ⟨#[47]⟩)) (.t 22))⟩,
       ⟨(some 24), none, (.bin .add 9 (.t 21) (.t 23))⟩,
       ⟨(some 3), none, (.mov (.t 24))⟩])
    .skip)))
  (.seq (.region false [] [
     ⟨(some 25), none, (.mov (.t 3))⟩,
     ⟨(some 2), none, (.mov (.t 25))⟩])
  .ret))))))
theorem k55 : FnIs Tryd.prog 55 26 [.t 2] a55 := ⟨_, _, Tryd.func55, rfl, by kernel_rfl, by kernel_rfl, rfl⟩
/- gridhall/rat.told -/
def a49 : ACode :=
  (.seq (.region false [] [
     ⟨(some 1), none, (.box 62 (.t 0))⟩,
     ⟨(some 2), none, (.mov (.v (.string ⟨#[]⟩)))⟩,
     ⟨(some 3), none, (.mov (.v (.int .i64 0)))⟩])
  (.seq (.seq (.region false [] [
     ⟨(some 5), none, (.load 3 true (.t 1))⟩,
     ⟨(some 6), none, (.call 57 [(.t 5)])⟩,
     ⟨(some 4), none, (.mov (.t 6))⟩])
  (.seq (.region false [] [
     ⟨(some 7), none, (.mov (.t 4))⟩,
     ⟨(some 8), none, (.bin .neq 25 (.t 7) (.v (.int .i64 0)))⟩])
  (.cond (.t 8)
    (.seq (.region false [] [
       ⟨(some 9), none, (.mov (.t 4))⟩,
       ⟨(some 2), none, (.mov (.v (.string ⟨#[]⟩)))⟩,
       ⟨(some 3), none, (.mov (.t 9))⟩])
    .ret)
    .skip)))
  (.seq (.region false [] [
     ⟨(some 10), none, (.load 3 true (.t 1))⟩,
     ⟨(some 11), none, (.call 55 [(.t 10)])⟩,
     ⟨(some 2), none, (.mov (.t 11))⟩,
     ⟨(some 3), none, (.mov (.v (.int .i64 0)))⟩])
  .ret)))
theorem k49 : FnIs Tryd.prog 49 12 [.t 2, .t 3] a49 := ⟨_, _, Tryd.func49, rfl, by kernel_rfl, by kernel_rfl, rfl⟩
/- gridhall/rat.Of -/
def a20 : ACode :=
  (.seq (.region false [] [
     ⟨(some 4), none, (.mov (.v (.string ⟨#[]⟩)))⟩,
     ⟨(some 5), none, (.mov (.v (.int .i64 0)))⟩])
  (.seq (.seq (.region false [] [
     ⟨(some 6), none, (.mov (.t 1))⟩,
     ⟨(some 7), none, (.bin .eql 3 (.t 6) (.v (.int .i64 0)))⟩])
  (.cond (.t 7)
    (.seq (.region false [] [
       ⟨(some 4), none, (.mov (.v (.string ⟨#[]⟩)))⟩,
       ⟨(some 5), none, (.mov (.v (.int .i64 10)))⟩])
    .ret)
    .skip))
  (.seq (.region false [] [
     ⟨(some 8), none, (.mov (.t 0))⟩,
     ⟨(some 9), none, (.bin .lss 3 (.t 8) (.v (.int .i64 0)))⟩,
     ⟨(some 10), none, (.mov (.t 1))⟩,
     ⟨(some 11), none, (.bin .lss 3 (.t 10) (.v (.int .i64 0)))⟩,
     ⟨(some 12), none, (.beq true (.t 9) (.t 11))⟩,
     ⟨(some 13), none, (.mov (.t 0))⟩,
     ⟨(some 14), none, (.call 51 [(.t 13)])⟩,
     ⟨(some 15), none, (.mov (.t 1))⟩,
     ⟨(some 16), none, (.call 51 [(.t 15)])⟩,
     ⟨(some 17), none, (.call 50 [(.t 12), (.t 14), (.t 16)])⟩,
     ⟨(some 18), none, (.call 49 [(.t 17)])⟩,
     ⟨(some 19), none, (.ext 0 (.t 18))⟩,
     ⟨(some 20), none, (.ext 1 (.t 18))⟩,
     ⟨(some 4), none, (.mov (.t 19))⟩,
     ⟨(some 5), none, (.mov (.t 20))⟩])
  .ret)))
theorem k20 : FnIs Tryd.prog 20 21 [.t 4, .t 5] a20 := ⟨_, _, Tryd.func20, rfl, by kernel_rfl, by kernel_rfl, rfl⟩

/-- The text without its sign. -/
def body (l : List UInt8) : List UInt8 := if begins 45 l = true then l.tail else l
/-- Numerator's text, denominator's text, whether there is one. -/
def parts (l : List UInt8) : List UInt8 × List UInt8 × Bool := cutL 47 (body l)
def ratIn (l : List UInt8) : QQ := ⟨begins 45 l, num (dgs (parts l).1), if (parts l).2.2 = true then num (dgs (parts l).2.1) else 1⟩
def AllDig (l : List UInt8) : Prop := ∀ c ∈ l, 48 ≤ c.toNat ∧ c.toNat ≤ 57
theorem body_len (l : List UInt8) : (body l).length ≤ l.length := by
  unfold body
  split
  · rw [List.length_tail]; omega
  · exact Nat.le_refl _
theorem cutL_len (c : UInt8) (l : List UInt8) : (cutL c l).1.length ≤ l.length ∧ (cutL c l).2.1.length ≤ l.length := by
  unfold cutL
  split
  · refine ⟨(List.takeWhile_sublist _).length_le, ?_⟩
    rw [List.length_tail]
    have := (List.dropWhile_sublist (l := l) (· != c)).length_le
    omega
  · exact ⟨Nat.le_refl _, Nat.zero_le _⟩
theorem parts_len (l : List UInt8) : (parts l).1.length ≤ l.length ∧ (parts l).2.1.length ≤ l.length := by
  have h1 := cutL_len 47 (body l)
  have h2 := body_len l
  unfold parts
  omega
theorem s41 (l : List UInt8) (hl : l.length ≤ 9223372036854775807) (h1 : AllDig (parts l).1 ∧ (parts l).1.length ≤ 1000000) (h2 : (parts l).2.2 = true → AllDig (parts l).2.1 ∧ (parts l).2.1.length ≤ 1000000) : Aw.Spec Tryd.prog 41 [] [S (bA l)] (fun rg v => rg = [] ∧ v = qv (ratIn l)) := by
  refine Spec.shut (Post := fun rg v => v = qv (ratIn l)) ?_ fun rg v h => by subst h; exact ⟨rfl, rfl, rfl⟩
  refine Aw.Spec.regsW k41 rfl rfl fun E hn hnp hp => ?_
  unfold a41
  have pin : ∀ r, E.pin r = none := fun r => hp.none hnp (Nat.zero_le _)
  have hb := body_len l
  have hpl := parts_len l
  refine AWp.ofD [] [25] hn mixed rfl ?_
  simp (config := { maxSteps := 2000000 }) only [go_sem, ↓reduceIte, Int.reduceToNat, Nat.reduceMul, Int.reduceBEq, Int.reduceBNe, Nat.reduceBEq, Nat.reduceAdd, Nat.reduceSub, Nat.reduceLeDiff, Nat.reduceEqDiff, Nat.reduceLT, reduceCtorEq]
  (refine AWpL.calle (s63 l 45 (by omega)) rfl (by rw [hn]; rfl) (by simp (config := { maxSteps := 2000000 }) only [go_sem, ↓reduceIte, Int.reduceToNat, Nat.reduceMul, Int.reduceBEq, Int.reduceBNe, Nat.reduceBEq, Nat.reduceAdd, Nat.reduceSub, Nat.reduceLeDiff, Nat.reduceEqDiff, Nat.reduceLT, reduceCtorEq]) (AWpL.ofM hn rfl ?_); simp (config := { maxSteps := 2000000 }) only [go_sem, ↓reduceIte, Int.reduceToNat, Nat.reduceMul, Int.reduceBEq, Int.reduceBNe, Nat.reduceBEq, Nat.reduceAdd, Nat.reduceSub, Nat.reduceLeDiff, Nat.reduceEqDiff, Nat.reduceLT, reduceCtorEq])
  refine AWpL.calle (s64 (body l) 47 (by omega)) rfl (by rw [hn]; rfl) (by simp (config := { maxSteps := 2000000 }) only [go_sem, ↓reduceIte, Int.reduceToNat, Nat.reduceMul, Int.reduceBEq, Int.reduceBNe, Nat.reduceBEq, Nat.reduceAdd, Nat.reduceSub, Nat.reduceLeDiff, Nat.reduceEqDiff, Nat.reduceLT, reduceCtorEq]) (AWpL.ofM hn rfl ?_)
  simp (config := { maxSteps := 2000000 }) only [go_sem, ↓reduceIte, Int.reduceToNat, Nat.reduceMul, Int.reduceBEq, Int.reduceBNe, Nat.reduceBEq, Nat.reduceAdd, Nat.reduceSub, Nat.reduceLeDiff, Nat.reduceEqDiff, Nat.reduceLT, reduceCtorEq]
  refine AWpL.callA [] (s65 (bA (parts l).1) h1.2 (by rw [bA_list]; exact h1.1)) rfl rfl (by rw [hn]; rfl) rfl (fun r hr => by cases hr) fun rg v hv => ?_
  obtain ⟨rfl, rfl⟩ := hv
  refine ⟨Nat.le_refl _, AWpL.ofM hn rfl ?_⟩
  simp (config := { maxSteps := 2000000 }) only [go_sem, ↓reduceIte, Int.reduceToNat, Nat.reduceMul, Int.reduceBEq, Int.reduceBNe, Nat.reduceBEq, Nat.reduceAdd, Nat.reduceSub, Nat.reduceLeDiff, Nat.reduceEqDiff, Nat.reduceLT, reduceCtorEq, Aw.retS, Aw.retRg, Aw.kpM, Aw.bkM, Aw.pos, Aw.isBox, bA_list]
  (refine AWpL.callA [] (s66 1 (by decide)) rfl rfl (by rw [hn]; rfl) rfl (fun r hr => .inr (pin r)) fun rg v hv => ?_; obtain ⟨rfl, rfl⟩ := hv; refine ⟨Nat.le_refl _, AWpL.ofM hn rfl ?_⟩)
  simp (config := { maxSteps := 2000000 }) only [go_sem, ↓reduceIte, Int.reduceToNat, Nat.reduceMul, Int.reduceBEq, Int.reduceBNe, Nat.reduceBEq, Nat.reduceAdd, Nat.reduceSub, Nat.reduceLeDiff, Nat.reduceEqDiff, Nat.reduceLT, reduceCtorEq, Aw.retS, Aw.retRg, Aw.kpM, Aw.bkM, Aw.pos, Aw.isBox]
  refine AWp.cut ⟨[(2, .ptr 0 0 0), (8, .ptr 1 0 0)], [.box 62 [B false, .val (.slice none 0 0), .val (.slice none 0 0)], .box 62 (qv (ratIn l)).cells]⟩ ?_ ?_
  · refine AWp.cond (by rfl) (fun h => ?_) (fun h => ?_)
    · have h' : (parts l).2.2 = true := h
      refine AWp.ofD [] [] hn mixed rfl ?_
      simp (config := { maxSteps := 2000000 }) only [go_sem, ↓reduceIte, Int.reduceToNat, Nat.reduceMul, Int.reduceBEq, Int.reduceBNe, Nat.reduceBEq, Nat.reduceAdd, Nat.reduceSub, Nat.reduceLeDiff, Nat.reduceEqDiff, Nat.reduceLT, reduceCtorEq]
      refine AWpL.callA [] (s65 (bA (parts l).2.1) (h2 h').2 (by rw [bA_list]; exact (h2 h').1)) rfl rfl (by rw [hn]; rfl) rfl (fun r hr => by cases hr) fun rg v hv => ?_
      obtain ⟨rfl, rfl⟩ := hv
      refine ⟨Nat.le_refl _, AWpL.ofM hn rfl ?_⟩
      simp (config := { maxSteps := 2000000 }) only [go_sem, ↓reduceIte, Int.reduceToNat, Nat.reduceMul, Int.reduceBEq, Int.reduceBNe, Nat.reduceBEq, Nat.reduceAdd, Nat.reduceSub, Nat.reduceLeDiff, Nat.reduceEqDiff, Nat.reduceLT, reduceCtorEq, Aw.retS, Aw.retRg, Aw.kpM, Aw.bkM, Aw.pos, Aw.isBox, bA_list]
      unfold ratIn
      rw [h', if_pos rfl]
      exact weak_tm (by simp (config := { maxSteps := 2000000 }) only [go_sem, ↓reduceIte, Int.reduceToNat, Nat.reduceMul, Int.reduceBEq, Int.reduceBNe, Nat.reduceBEq, Nat.reduceAdd, Nat.reduceSub, Nat.reduceLeDiff, Nat.reduceEqDiff, Nat.reduceLT, reduceCtorEq])
    · have h' : (parts l).2.2 = false := h
      refine AWp.ofD [] [] hn mixed rfl ?_
      simp (config := { maxSteps := 2000000 }) only [go_sem, ↓reduceIte, Int.reduceToNat, Nat.reduceMul, Int.reduceBEq, Int.reduceBNe, Nat.reduceBEq, Nat.reduceAdd, Nat.reduceSub, Nat.reduceLeDiff, Nat.reduceEqDiff, Nat.reduceLT, reduceCtorEq]
      unfold ratIn
      rw [h', if_neg Bool.false_ne_true]
      exact weak_tm (by simp (config := { maxSteps := 2000000 }) only [go_sem, ↓reduceIte, Int.reduceToNat, Nat.reduceMul, Int.reduceBEq, Int.reduceBNe, Nat.reduceBEq, Nat.reduceAdd, Nat.reduceSub, Nat.reduceLeDiff, Nat.reduceEqDiff, Nat.reduceLT, reduceCtorEq])
  simp (config := { maxSteps := 2000000 }) only [go_sem, ↓reduceIte, Int.reduceToNat, Nat.reduceMul, Int.reduceBEq, Int.reduceBNe, Nat.reduceBEq, Nat.reduceAdd, Nat.reduceSub, Nat.reduceLeDiff, Nat.reduceEqDiff, Nat.reduceLT, reduceCtorEq]
  refine Retn.ret (π := [0]) hp hnp ⟨rfl, ?_⟩
  simp (config := { maxSteps := 2000000 }) only [go_sem, ↓reduceIte, Int.reduceToNat, Nat.reduceMul, Int.reduceBEq, Int.reduceBNe, Nat.reduceBEq, Nat.reduceAdd, Nat.reduceSub, Nat.reduceLeDiff, Nat.reduceEqDiff, Nat.reduceLT, reduceCtorEq, Aw.renR, Aw.pos]
/-- What the check of a rational says. -/
def ratCheck (l : List UInt8) : Int :=
  let x := checkN (parts l).1
  let y := if (parts l).2.2 = true then checkN (parts l).2.1 else 0
  if x = 5 ∨ y = 5 ∨ begins 45 l = true ∧ (parts l).1 = [48] then 5
  else if x ≠ 0 ∨ y ≠ 0 then 2
  else if (parts l).2.2 = true ∧ ((parts l).2.1 = [48] ∨ (parts l).2.1 = [49] ∨ Nat.gcd (num (dgs (parts l).1)) (num (dgs (parts l).2.1)) ≠ 1) then 3 else 0
theorem checkN_dig {l : List UInt8} (h : checkN l = 0) : IsNum l ∧ l.length ≤ 2000 := by
  unfold checkN at h
  split at h
  · rename_i h1
    split at h
    · cases h
    · rename_i h2
      exact ⟨(isNumB_iff l).1 h1, by omega⟩
  · cases h
theorem nl_le10 {v k n : Nat} (h : v < 10 ^ k) (hk : k ≤ 9 * n) : nl v ≤ n :=
  nl_le (by rw [← pow9]; exact Nat.lt_of_lt_of_le h (Nat.pow_le_pow_right (by decide) hk))
theorem num_nl {l : List UInt8} (h : AllDig l) (hl : l.length ≤ 2000) : nl (num (dgs l)) ≤ 223 :=
  nl_le10 (num_lt (dgs_lt h)) (by rw [dgs_len]; omega)
theorem cmpN_ne {g : Nat} : (cmpN g 1 != 0) = decide (g ≠ 1) := by
  unfold cmpN
  by_cases h : g < 1
  · rw [if_pos h, decide_eq_true (show g ≠ 1 by omega)]; rfl
  · rw [if_neg h]
    by_cases h2 : g = 1
    · rw [if_pos h2, decide_eq_false (show ¬ g ≠ 1 by omega)]; rfl
    · rw [if_neg h2, decide_eq_true h2]; rfl
theorem toList_one (c : UInt8) : (⟨#[c]⟩ : ByteArray).toList = [c] := by rw [Lib.toList_data]
set_option maxRecDepth 20000 in
set_option maxHeartbeats 1000000 in
theorem s47 (l : List UInt8) (hl : l.length ≤ 9223372036854775807) : Aw.Spec Tryd.prog 47 [] [S (bA l)] (Gives (· = I (ratCheck l))) := by
  refine Spec.shut (Post := fun rg v => v = I (ratCheck l)) ?_ fun rg v h => by subst h; exact ⟨rfl, rfl, rfl⟩
  refine Aw.Spec.regsW k47 rfl rfl fun E hn hnp hp => ?_
  unfold a47
  have pin : ∀ r, E.pin r = none := fun r => hp.none hnp (Nat.zero_le _)
  have hb := body_len l
  have hpl := parts_len l
  refine AWp.ofD [] [23, 38, 44] hn mixed rfl ?_
  simp (config := { maxSteps := 2000000 }) only [go_sem, ↓reduceIte, Int.reduceToNat, Nat.reduceMul, Int.reduceBEq, Int.reduceBNe, Nat.reduceBEq, Nat.reduceAdd, Nat.reduceSub, Nat.reduceLeDiff, Nat.reduceEqDiff, Nat.reduceLT, reduceCtorEq]
  (refine AWpL.calle (s63 l 45 (by omega)) rfl (by rw [hn]; rfl) (by simp (config := { maxSteps := 2000000 }) only [go_sem, ↓reduceIte, Int.reduceToNat, Nat.reduceMul, Int.reduceBEq, Int.reduceBNe, Nat.reduceBEq, Nat.reduceAdd, Nat.reduceSub, Nat.reduceLeDiff, Nat.reduceEqDiff, Nat.reduceLT, reduceCtorEq]) (AWpL.ofM hn rfl ?_); simp (config := { maxSteps := 2000000 }) only [go_sem, ↓reduceIte, Int.reduceToNat, Nat.reduceMul, Int.reduceBEq, Int.reduceBNe, Nat.reduceBEq, Nat.reduceAdd, Nat.reduceSub, Nat.reduceLeDiff, Nat.reduceEqDiff, Nat.reduceLT, reduceCtorEq])
  refine AWpL.calle (s64 (body l) 47 (by omega)) rfl (by rw [hn]; rfl) (by simp (config := { maxSteps := 2000000 }) only [go_sem, ↓reduceIte, Int.reduceToNat, Nat.reduceMul, Int.reduceBEq, Int.reduceBNe, Nat.reduceBEq, Nat.reduceAdd, Nat.reduceSub, Nat.reduceLeDiff, Nat.reduceEqDiff, Nat.reduceLT, reduceCtorEq]) (AWpL.ofM hn rfl ?_)
  simp (config := { maxSteps := 2000000 }) only [go_sem, ↓reduceIte, Int.reduceToNat, Nat.reduceMul, Int.reduceBEq, Int.reduceBNe, Nat.reduceBEq, Nat.reduceAdd, Nat.reduceSub, Nat.reduceLeDiff, Nat.reduceEqDiff, Nat.reduceLT, reduceCtorEq]
  refine AWpL.calle (s72 (bA (parts l).1) (by rw [bA_size]; omega)) rfl (by rw [hn]; rfl) (by simp (config := { maxSteps := 2000000 }) only [go_sem, ↓reduceIte, Int.reduceToNat, Nat.reduceMul, Int.reduceBEq, Int.reduceBNe, Nat.reduceBEq, Nat.reduceAdd, Nat.reduceSub, Nat.reduceLeDiff, Nat.reduceEqDiff, Nat.reduceLT, reduceCtorEq]) (AWpL.ofM hn rfl ?_)
  simp (config := { maxSteps := 2000000 }) only [go_sem, ↓reduceIte, Int.reduceToNat, Nat.reduceMul, Int.reduceBEq, Int.reduceBNe, Nat.reduceBEq, Nat.reduceAdd, Nat.reduceSub, Nat.reduceLeDiff, Nat.reduceEqDiff, Nat.reduceLT, reduceCtorEq, bA_list]
  have hrc : ratCheck l = (if checkN (parts l).1 = 5 ∨ (if (parts l).2.2 = true then checkN (parts l).2.1 else 0) = 5 ∨ begins 45 l = true ∧ (parts l).1 = [48] then 5
    else if checkN (parts l).1 ≠ 0 ∨ (if (parts l).2.2 = true then checkN (parts l).2.1 else 0) ≠ 0 then 2
    else if (parts l).2.2 = true ∧ ((parts l).2.1 = [48] ∨ (parts l).2.1 = [49] ∨ Nat.gcd (num (dgs (parts l).1)) (num (dgs (parts l).2.1)) ≠ 1) then 3 else 0) := rfl
  obtain ⟨Y, hY⟩ : ∃ Y, (if (parts l).2.2 = true then checkN (parts l).2.1 else 0) = Y := ⟨_, rfl⟩
  rw [hY] at hrc
  have hch0 := checkN_dig (l := (parts l).1)
  obtain ⟨X, hX⟩ : ∃ X, checkN (parts l).1 = X := ⟨_, rfl⟩
  rw [hX] at hrc hch0
  refine AWp.cut ⟨[(4, B (begins 45 l)), (5, S (bA (parts l).1)), (6, S (bA (parts l).2.1)), (7, B (parts l).2.2), (8, I X), (9, I Y)], []⟩ ?_ ?_
  · refine AWp.cond (by rfl) (fun h => ?_) (fun h => ?_)
    · have h' : (parts l).2.2 = true := h
      refine AWp.ofD [] [] hn mixed rfl ?_
      simp (config := { maxSteps := 2000000 }) only [go_sem, ↓reduceIte, Int.reduceToNat, Nat.reduceMul, Int.reduceBEq, Int.reduceBNe, Nat.reduceBEq, Nat.reduceAdd, Nat.reduceSub, Nat.reduceLeDiff, Nat.reduceEqDiff, Nat.reduceLT, reduceCtorEq]
      refine AWpL.calle (s72 (bA (parts l).2.1) (by rw [bA_size]; omega)) rfl (by rw [hn]; rfl) (by simp (config := { maxSteps := 2000000 }) only [go_sem, ↓reduceIte, Int.reduceToNat, Nat.reduceMul, Int.reduceBEq, Int.reduceBNe, Nat.reduceBEq, Nat.reduceAdd, Nat.reduceSub, Nat.reduceLeDiff, Nat.reduceEqDiff, Nat.reduceLT, reduceCtorEq]) (AWpL.ofM hn rfl ?_)
      simp (config := { maxSteps := 2000000 }) only [go_sem, ↓reduceIte, Int.reduceToNat, Nat.reduceMul, Int.reduceBEq, Int.reduceBNe, Nat.reduceBEq, Nat.reduceAdd, Nat.reduceSub, Nat.reduceLeDiff, Nat.reduceEqDiff, Nat.reduceLT, reduceCtorEq, bA_list]
      rw [h', if_pos rfl] at hY
      rw [hY]
      exact weak_tm (by simp (config := { maxSteps := 2000000 }) only [go_sem, ↓reduceIte, Int.reduceToNat, Nat.reduceMul, Int.reduceBEq, Int.reduceBNe, Nat.reduceBEq, Nat.reduceAdd, Nat.reduceSub, Nat.reduceLeDiff, Nat.reduceEqDiff, Nat.reduceLT, reduceCtorEq, ← hX] <;> exact ⟨rfl, rfl, rfl⟩)
    · have h' : (parts l).2.2 = false := h
      refine AWp.ofD [] [] hn mixed rfl ?_
      simp (config := { maxSteps := 2000000 }) only [go_sem, ↓reduceIte, Int.reduceToNat, Nat.reduceMul, Int.reduceBEq, Int.reduceBNe, Nat.reduceBEq, Nat.reduceAdd, Nat.reduceSub, Nat.reduceLeDiff, Nat.reduceEqDiff, Nat.reduceLT, reduceCtorEq]
      rw [h', if_neg Bool.false_ne_true] at hY
      rw [← hY]
      exact weak_tm (by simp (config := { maxSteps := 2000000 }) only [go_sem, ↓reduceIte, Int.reduceToNat, Nat.reduceMul, Int.reduceBEq, Int.reduceBNe, Nat.reduceBEq, Nat.reduceAdd, Nat.reduceSub, Nat.reduceLeDiff, Nat.reduceEqDiff, Nat.reduceLT, reduceCtorEq, ← hX] <;> exact ⟨rfl, rfl, rfl⟩)
  have hch1 : (parts l).2.2 = true → Y = 0 → IsNum (parts l).2.1 ∧ (parts l).2.1.length ≤ 2000 := fun h h0 => by
    rw [h, if_pos rfl, h0] at hY
    exact checkN_dig hY
  clear hX hY
  generalize parts l = p at *
  obtain ⟨a, b, is⟩ := p
  dsimp only at hrc hch0 hch1 hpl ⊢
  simp (config := { maxSteps := 2000000 }) only [go_sem, ↓reduceIte, Int.reduceToNat, Nat.reduceMul, Int.reduceBEq, Int.reduceBNe, Nat.reduceBEq, Nat.reduceAdd, Nat.reduceSub, Nat.reduceLeDiff, Nat.reduceEqDiff, Nat.reduceLT, reduceCtorEq, bA_toList, toList_one]
  refine ⟨fun h => ⟨h, fun h2 => by rw [h, h2]; rfl⟩, ?_⟩
  have hb1 : ((X == 5 || Y == 5) || begins 45 l && a == [48]) = decide (X = 5 ∨ Y = 5 ∨ begins 45 l = true ∧ a = [48]) := by
    rw [Bool.eq_iff_iff]
    simp only [Bool.or_eq_true, Bool.and_eq_true, beq_iff_eq, decide_eq_true_eq, or_assoc]
  rw [hb1]
  refine AWp.cond (by rfl) (fun h => ?_) (fun h => ?_)
  · rw [if_pos (of_decide_eq_true h)] at hrc
    refine AWp.ofD [] [] hn mixed rfl ?_
    simp (config := { maxSteps := 2000000 }) only [go_sem, ↓reduceIte, Int.reduceToNat, Nat.reduceMul, Int.reduceBEq, Int.reduceBNe, Nat.reduceBEq, Nat.reduceAdd, Nat.reduceSub, Nat.reduceLeDiff, Nat.reduceEqDiff, Nat.reduceLT, reduceCtorEq]
    refine Retn.ret (π := []) hp hnp ⟨rfl, ?_⟩
    simp (config := { maxSteps := 2000000 }) only [go_sem, ↓reduceIte, Int.reduceToNat, Nat.reduceMul, Int.reduceBEq, Int.reduceBNe, Nat.reduceBEq, Nat.reduceAdd, Nat.reduceSub, Nat.reduceLeDiff, Nat.reduceEqDiff, Nat.reduceLT, reduceCtorEq]
    rw [hrc]
  rw [if_neg (of_decide_eq_false h)] at hrc
  refine AWp.ofD [] [] hn mixed rfl ?_
  simp (config := { maxSteps := 2000000 }) only [go_sem, ↓reduceIte, Int.reduceToNat, Nat.reduceMul, Int.reduceBEq, Int.reduceBNe, Nat.reduceBEq, Nat.reduceAdd, Nat.reduceSub, Nat.reduceLeDiff, Nat.reduceEqDiff, Nat.reduceLT, reduceCtorEq]
  have hb2 : ((X != 0) || (Y != 0)) = decide (X ≠ 0 ∨ Y ≠ 0) := by
    rw [Bool.eq_iff_iff]
    simp only [Bool.or_eq_true, bne_iff_ne, decide_eq_true_eq]
  rw [hb2]
  refine AWp.cond (by rfl) (fun h => ?_) (fun h => ?_)
  · rw [if_pos (of_decide_eq_true h)] at hrc
    refine AWp.ofD [] [] hn mixed rfl ?_
    simp (config := { maxSteps := 2000000 }) only [go_sem, ↓reduceIte, Int.reduceToNat, Nat.reduceMul, Int.reduceBEq, Int.reduceBNe, Nat.reduceBEq, Nat.reduceAdd, Nat.reduceSub, Nat.reduceLeDiff, Nat.reduceEqDiff, Nat.reduceLT, reduceCtorEq]
    refine Retn.ret (π := []) hp hnp ⟨rfl, ?_⟩
    simp (config := { maxSteps := 2000000 }) only [go_sem, ↓reduceIte, Int.reduceToNat, Nat.reduceMul, Int.reduceBEq, Int.reduceBNe, Nat.reduceBEq, Nat.reduceAdd, Nat.reduceSub, Nat.reduceLeDiff, Nat.reduceEqDiff, Nat.reduceLT, reduceCtorEq]
    rw [hrc]
  have hxy := of_decide_eq_false h
  rw [if_neg hxy] at hrc
  obtain ⟨hIa, hla⟩ := hch0 (by omega)
  cases is with
  | false =>
    rw [if_neg (by simp)] at hrc
    refine AWp.ofD [] [] hn mixed rfl ?_
    simp (config := { maxSteps := 2000000 }) only [go_sem, ↓reduceIte, Int.reduceToNat, Nat.reduceMul, Int.reduceBEq, Int.reduceBNe, Nat.reduceBEq, Nat.reduceAdd, Nat.reduceSub, Nat.reduceLeDiff, Nat.reduceEqDiff, Nat.reduceLT, reduceCtorEq, bA_toList, toList_one]
    refine AWpL.skips hn 53 false 7 (by rfl) rfl (AWpL.weak (weak_ent 61 (y := .opt false (B false)) (by rfl) Ent.off) (AWpL.ofM hn rfl ?_))
    simp (config := { maxSteps := 2000000 }) only [go_sem, ↓reduceIte, Int.reduceToNat, Nat.reduceMul, Int.reduceBEq, Int.reduceBNe, Nat.reduceBEq, Nat.reduceAdd, Nat.reduceSub, Nat.reduceLeDiff, Nat.reduceEqDiff, Nat.reduceLT, reduceCtorEq]
    refine Retn.ret (π := []) hp hnp ⟨rfl, ?_⟩
    simp (config := { maxSteps := 2000000 }) only [go_sem, ↓reduceIte, Int.reduceToNat, Nat.reduceMul, Int.reduceBEq, Int.reduceBNe, Nat.reduceBEq, Nat.reduceAdd, Nat.reduceSub, Nat.reduceLeDiff, Nat.reduceEqDiff, Nat.reduceLT, reduceCtorEq]
    rw [hrc]
  | true =>
    obtain ⟨hIb, hlb⟩ := hch1 rfl (by omega)
    refine AWp.ofD [] [] hn mixed rfl ?_
    simp (config := { maxSteps := 2000000 }) only [go_sem, ↓reduceIte, Int.reduceToNat, Nat.reduceMul, Int.reduceBEq, Int.reduceBNe, Nat.reduceBEq, Nat.reduceAdd, Nat.reduceSub, Nat.reduceLeDiff, Nat.reduceEqDiff, Nat.reduceLT, reduceCtorEq, bA_toList, toList_one]
    by_cases hbb : b = [48] ∨ b = [49]
    · rw [if_pos ⟨rfl, hbb.elim (fun h => .inl h) fun h => .inr (.inl h)⟩] at hrc
      have e1 : (b == [48] || b == [49]) = true := by
        rcases hbb with h | h <;> (rw [h]; rfl)
      rw [e1]
      refine AWpL.skips hn 53 false 7 (by rfl) rfl (AWpL.weak (weak_ent 61 (y := .opt false (B false)) (by rfl) Ent.off) (AWpL.ofM hn rfl ?_))
      simp (config := { maxSteps := 2000000 }) only [go_sem, ↓reduceIte, Int.reduceToNat, Nat.reduceMul, Int.reduceBEq, Int.reduceBNe, Nat.reduceBEq, Nat.reduceAdd, Nat.reduceSub, Nat.reduceLeDiff, Nat.reduceEqDiff, Nat.reduceLT, reduceCtorEq]
      refine Retn.ret (π := []) hp hnp ⟨rfl, ?_⟩
      simp (config := { maxSteps := 2000000 }) only [go_sem, ↓reduceIte, Int.reduceToNat, Nat.reduceMul, Int.reduceBEq, Int.reduceBNe, Nat.reduceBEq, Nat.reduceAdd, Nat.reduceSub, Nat.reduceLeDiff, Nat.reduceEqDiff, Nat.reduceLT, reduceCtorEq]
      rw [hrc]
    · have e1 : (b == [48] || b == [49]) = false := by
        rw [Bool.or_eq_false_iff]
        exact ⟨beq_eq_false_iff_ne.2 fun h => hbb (.inl h), beq_eq_false_iff_ne.2 fun h => hbb (.inr h)⟩
      rw [e1]
      have hza : nl (num (dgs a)) ≤ 900000 := Nat.le_trans (num_nl hIa.2.1 hla) (by decide)
      have hzb : nl (num (dgs b)) ≤ 900000 := Nat.le_trans (num_nl hIb.2.1 hlb) (by decide)
      refine AWpL.guardT (by rfl) (AWpL.weak (weak_opt 54 (by rfl)) ?_)
      refine AWpL.callA [] (s65 (bA a) (by rw [bA_size]; omega) (by rw [bA_list]; exact hIa.2.1)) rfl rfl (by rw [hn]; rfl) rfl (fun r hr => by cases hr) fun rg v hv => ?_
      obtain ⟨rfl, rfl⟩ := hv
      refine ⟨Nat.le_refl _, AWpL.ofM hn rfl ?_⟩
      simp (config := { maxSteps := 2000000 }) only [go_sem, ↓reduceIte, Int.reduceToNat, Nat.reduceMul, Int.reduceBEq, Int.reduceBNe, Nat.reduceBEq, Nat.reduceAdd, Nat.reduceSub, Nat.reduceLeDiff, Nat.reduceEqDiff, Nat.reduceLT, reduceCtorEq, Aw.retS, Aw.retRg, Aw.kpM, Aw.bkM, Aw.pos, Aw.isBox, bA_list]
      refine AWpL.guardT (by rfl) (AWpL.weak (weak_opt 56 (by rfl)) ?_)
      refine AWpL.callA [] (s65 (bA b) (by rw [bA_size]; omega) (by rw [bA_list]; exact hIb.2.1)) rfl rfl (by rw [hn]; rfl) rfl (fun r hr => by cases hr) fun rg v hv => ?_
      obtain ⟨rfl, rfl⟩ := hv
      refine ⟨Nat.le_refl _, AWpL.ofM hn rfl ?_⟩
      simp (config := { maxSteps := 2000000 }) only [go_sem, ↓reduceIte, Int.reduceToNat, Nat.reduceMul, Int.reduceBEq, Int.reduceBNe, Nat.reduceBEq, Nat.reduceAdd, Nat.reduceSub, Nat.reduceLeDiff, Nat.reduceEqDiff, Nat.reduceLT, reduceCtorEq, Aw.retS, Aw.retRg, Aw.kpM, Aw.bkM, Aw.pos, Aw.isBox, bA_list]
      refine AWpL.guardT (by rfl) ?_
      refine AWpL.callA [] (s73 (num (dgs a)) (num (dgs b)) hza hzb) rfl rfl (by rw [hn]; rfl) rfl (fun r hr => by cases hr) fun rg v hv => ?_
      obtain ⟨rfl, rfl⟩ := hv
      refine ⟨Nat.le_refl _, AWpL.ofM hn rfl ?_⟩
      simp (config := { maxSteps := 2000000 }) only [go_sem, ↓reduceIte, Int.reduceToNat, Nat.reduceMul, Int.reduceBEq, Int.reduceBNe, Nat.reduceBEq, Nat.reduceAdd, Nat.reduceSub, Nat.reduceLeDiff, Nat.reduceEqDiff, Nat.reduceLT, reduceCtorEq, Aw.retS, Aw.retRg, Aw.kpM, Aw.bkM, Aw.pos, Aw.isBox]
      refine AWpL.guardT (by rfl) ?_
      (refine AWpL.callA [] (s66 1 (by decide)) rfl rfl (by rw [hn]; rfl) rfl (fun r hr => .inr (pin r)) fun rg v hv => ?_; obtain ⟨rfl, rfl⟩ := hv; refine ⟨Nat.le_refl _, AWpL.ofM hn rfl ?_⟩)
      simp (config := { maxSteps := 2000000 }) only [go_sem, ↓reduceIte, Int.reduceToNat, Nat.reduceMul, Int.reduceBEq, Int.reduceBNe, Nat.reduceBEq, Nat.reduceAdd, Nat.reduceSub, Nat.reduceLeDiff, Nat.reduceEqDiff, Nat.reduceLT, reduceCtorEq, Aw.retS, Aw.retRg, Aw.kpM, Aw.bkM, Aw.pos, Aw.isBox]
      have hzg : nl (Nat.gcd (num (dgs a)) (num (dgs b))) ≤ 1000000 := by
        rcases Nat.eq_zero_or_pos (num (dgs b)) with h0 | h0
        · rw [h0, Nat.gcd_zero_right]; omega
        · exact Nat.le_trans (nl_mono (Nat.gcd_le_right _ h0)) (by omega)
      refine AWpL.guardT (by rfl) ?_
      refine AWpL.calle (s70 (Nat.gcd (num (dgs a)) (num (dgs b))) 1 hzg (by show nl 1 ≤ 1000000; rw [nl_one]; decide)) rfl (by rw [hn]; rfl) (by simp (config := { maxSteps := 2000000 }) only [go_sem, ↓reduceIte, Int.reduceToNat, Nat.reduceMul, Int.reduceBEq, Int.reduceBNe, Nat.reduceBEq, Nat.reduceAdd, Nat.reduceSub, Nat.reduceLeDiff, Nat.reduceEqDiff, Nat.reduceLT, reduceCtorEq]) (AWpL.ofM hn rfl ?_)
      simp (config := { maxSteps := 2000000 }) only [go_sem, ↓reduceIte, Int.reduceToNat, Nat.reduceMul, Int.reduceBEq, Int.reduceBNe, Nat.reduceBEq, Nat.reduceAdd, Nat.reduceSub, Nat.reduceLeDiff, Nat.reduceEqDiff, Nat.reduceLT, reduceCtorEq]
      rw [cmpN_ne]
      refine ⟨fun h => ?_, fun h => ?_⟩
      · rw [if_pos ⟨rfl, .inr (.inr (of_decide_eq_true h))⟩] at hrc
        refine Retn.ret (π := []) hp hnp ⟨rfl, ?_⟩
        simp (config := { maxSteps := 2000000 }) only [go_sem, ↓reduceIte, Int.reduceToNat, Nat.reduceMul, Int.reduceBEq, Int.reduceBNe, Nat.reduceBEq, Nat.reduceAdd, Nat.reduceSub, Nat.reduceLeDiff, Nat.reduceEqDiff, Nat.reduceLT, reduceCtorEq]
        rw [hrc]
      · rw [if_neg (fun h2 => by rcases h2.2 with h3 | h3 | h3; exact hbb (.inl h3); exact hbb (.inr h3); exact of_decide_eq_false h h3)] at hrc
        refine Retn.ret (π := []) hp hnp ⟨rfl, ?_⟩
        simp (config := { maxSteps := 2000000 }) only [go_sem, ↓reduceIte, Int.reduceToNat, Nat.reduceMul, Int.reduceBEq, Int.reduceBNe, Nat.reduceBEq, Nat.reduceAdd, Nat.reduceSub, Nat.reduceLeDiff, Nat.reduceEqDiff, Nat.reduceLT, reduceCtorEq]
        rw [hrc]
def checkAll : List (List UInt8) → Int
  | [] => 0
  | l :: ls => if ratCheck l ≠ 0 then ratCheck l else checkAll ls
theorem checkAll_drop {ls : List (List UInt8)} {i : Nat} (h : i < ls.length) : checkAll (ls.drop i) = if ratCheck ls[i] ≠ 0 then ratCheck ls[i] else checkAll (ls.drop (i + 1)) := by
  rw [List.drop_eq_getElem_cons h, checkAll]
abbrev bl (l : List UInt8) : List AV := [S (bA l)]
theorem s56 (nl' fl) (ls : List (List UInt8)) (hn0 : ls.length ≤ 1000000) (hl : ∀ l ∈ ls, l.length ≤ 9223372036854775807) : Aw.Spec Tryd.prog 56 [] [.imm nl' fl 1 (ls.map bl)] (Gives (· = I (checkAll ls))) := by
  refine Aw.Spec.givesD k56 mixed rfl rfl rfl fun E hn hnp hp => ?_
  unfold a56
  simp (config := { maxSteps := 2000000 }) only [go_sem, ↓reduceIte, Int.reduceToNat, Nat.reduceMul, Int.reduceBEq, Int.reduceBNe, Nat.reduceBEq, Nat.reduceAdd, Nat.reduceSub, Nat.reduceLeDiff, Nat.reduceEqDiff, Nat.reduceLT, reduceCtorEq]
  refine AWp.loop (fun k s => ∃ i : Nat, i + k = ls.length ∧ checkAll ls = checkAll (ls.drop i) ∧ Weak E s ⟨[(6, .imm nl' fl 1 (ls.map bl)), (7, I ls.length), (8, I i)], []⟩) (n := ls.length)
    ⟨0, by omega, rfl, weak_to [] hp hnp rfl (by simp (config := { maxSteps := 2000000 }) only [go_sem, ↓reduceIte, Int.reduceToNat, Nat.reduceMul, Int.reduceBEq, Int.reduceBNe, Nat.reduceBEq, Nat.reduceAdd, Nat.reduceSub, Nat.reduceLeDiff, Nat.reduceEqDiff, Nat.reduceLT, reduceCtorEq] <;> exact ⟨rfl, rfl⟩) rfl⟩ ?_
  rintro k s ⟨i, hi, hc, hw⟩
  refine AWp.weak hw (AWp.ofD [] [] hn mixed rfl ?_)
  rcases Nat.lt_or_ge i ls.length with hlt | hge
  · have e0 : decide ((i : Int) < (ls.length : Int)) = true := decide_eq_true (by omega)
    have e1 := getD_map bl hlt
    have e2 : IntKind.i64.wrap ((i : Int) + 1) = ((i + 1 : Nat) : Int) := by rw [w64 (by omega) (by omega)]; rfl
    simp (config := { maxSteps := 2000000 }) only [go_sem, ↓reduceIte, Int.reduceToNat, Nat.reduceMul, Int.reduceBEq, Int.reduceBNe, Nat.reduceBEq, Nat.reduceAdd, Nat.reduceSub, Nat.reduceLeDiff, Nat.reduceEqDiff, Nat.reduceLT, reduceCtorEq, e0, e1, e2]
    (repeat (refine And.intro (by first | omega | (refine ⟨by omega, by omega⟩) | (refine ⟨by omega, by omega, by omega⟩) | (simp only [List.length_map, List.length_range, List.length_append, List.length_cons, List.length_nil, List.length_replicate, List.length_set]; omega) | (simp; omega) | (intro hgd; cases hgd) | (intro hgd; refine ⟨hgd, ?_⟩; first | omega | (refine ⟨by omega, by omega⟩) | (simp; omega))) ?_))
    rw [checkAll_drop hlt] at hc
    (refine AWpL.calle (s47 ls[i] (hl _ (List.getElem_mem hlt))) rfl (by rw [hn]; rfl) (by simp (config := { maxSteps := 2000000 }) only [go_sem, ↓reduceIte, Int.reduceToNat, Nat.reduceMul, Int.reduceBEq, Int.reduceBNe, Nat.reduceBEq, Nat.reduceAdd, Nat.reduceSub, Nat.reduceLeDiff, Nat.reduceEqDiff, Nat.reduceLT, reduceCtorEq]) (AWpL.ofM hn rfl ?_); simp (config := { maxSteps := 2000000 }) only [go_sem, ↓reduceIte, Int.reduceToNat, Nat.reduceMul, Int.reduceBEq, Int.reduceBNe, Nat.reduceBEq, Nat.reduceAdd, Nat.reduceSub, Nat.reduceLeDiff, Nat.reduceEqDiff, Nat.reduceLT, reduceCtorEq])
    refine ⟨fun h => ?_, fun h => ?_⟩
    · rw [hc, if_pos (by simpa using h)]
    · rw [if_neg (by simpa using h)] at hc
      exact ⟨k - 1, by omega, i + 1, by omega, hc, weak_to [] hp hnp rfl (by simp (config := { maxSteps := 2000000 }) only [go_sem, ↓reduceIte, Int.reduceToNat, Nat.reduceMul, Int.reduceBEq, Int.reduceBNe, Nat.reduceBEq, Nat.reduceAdd, Nat.reduceSub, Nat.reduceLeDiff, Nat.reduceEqDiff, Nat.reduceLT, reduceCtorEq, e2]) rfl⟩
  · have e0 : decide ((i : Int) < (ls.length : Int)) = false := decide_eq_false (by omega)
    simp (config := { maxSteps := 2000000 }) only [go_sem, ↓reduceIte, Int.reduceToNat, Nat.reduceMul, Int.reduceBEq, Int.reduceBNe, Nat.reduceBEq, Nat.reduceAdd, Nat.reduceSub, Nat.reduceLeDiff, Nat.reduceEqDiff, Nat.reduceLT, reduceCtorEq, e0]
    rw [hc, List.drop_of_length_le hge]
    rfl
/-- What the check of a size says. -/
def fitsQ (q : QQ) : Int := if (txtL q.num).length > 2000 ∨ (txtL q.den).length > 2000 then 2 else 0
theorem s57 (q : QQ) (hq : QB 600001 q) : Aw.Spec Tryd.prog 57 [] [qv q] (Gives (· = I (fitsQ q))) := by
  refine Spec.shut (Post := fun rg v => v = I (fitsQ q)) ?_ fun rg v h => by subst h; exact ⟨rfl, rfl, rfl⟩
  refine Aw.Spec.regsW k57 rfl rfl fun E hn hnp hp => ?_
  unfold a57
  obtain ⟨hq1, hq2⟩ := hq
  refine AWp.ofD [] [] hn mixed rfl ?_
  simp (config := { maxSteps := 2000000 }) only [go_sem, ↓reduceIte, Int.reduceToNat, Nat.reduceMul, Int.reduceBEq, Int.reduceBNe, Nat.reduceBEq, Nat.reduceAdd, Nat.reduceSub, Nat.reduceLeDiff, Nat.reduceEqDiff, Nat.reduceLT, reduceCtorEq]
  (refine AWpL.calle (s77 q.num (by omega)) rfl (by rw [hn]; rfl) (by simp (config := { maxSteps := 2000000 }) only [go_sem, ↓reduceIte, Int.reduceToNat, Nat.reduceMul, Int.reduceBEq, Int.reduceBNe, Nat.reduceBEq, Nat.reduceAdd, Nat.reduceSub, Nat.reduceLeDiff, Nat.reduceEqDiff, Nat.reduceLT, reduceCtorEq]) (AWpL.ofM hn rfl ?_); simp (config := { maxSteps := 2000000 }) only [go_sem, ↓reduceIte, Int.reduceToNat, Nat.reduceMul, Int.reduceBEq, Int.reduceBNe, Nat.reduceBEq, Nat.reduceAdd, Nat.reduceSub, Nat.reduceLeDiff, Nat.reduceEqDiff, Nat.reduceLT, reduceCtorEq])
  have e2 : ∀ n : Nat, decide ((n : Int) > 2000) = decide (n > 2000) := fun n => decide_eq_decide.2 (by omega)
  rw [e2]
  by_cases h : (txtL q.num).length > 2000
  · rw [decide_eq_true h]
    refine AWpL.skips hn 7 false 2 (by rfl) rfl (AWpL.weak (weak_ent 11 (y := .opt false (B false)) (by rfl) Ent.off) (AWpL.ofM hn rfl ?_))
    simp (config := { maxSteps := 2000000 }) only [go_sem, ↓reduceIte, Int.reduceToNat, Nat.reduceMul, Int.reduceBEq, Int.reduceBNe, Nat.reduceBEq, Nat.reduceAdd, Nat.reduceSub, Nat.reduceLeDiff, Nat.reduceEqDiff, Nat.reduceLT, reduceCtorEq]
    refine Retn.ret (π := []) hp hnp ⟨rfl, ?_⟩
    simp (config := { maxSteps := 2000000 }) only [go_sem, ↓reduceIte, Int.reduceToNat, Nat.reduceMul, Int.reduceBEq, Int.reduceBNe, Nat.reduceBEq, Nat.reduceAdd, Nat.reduceSub, Nat.reduceLeDiff, Nat.reduceEqDiff, Nat.reduceLT, reduceCtorEq]
    unfold fitsQ
    rw [if_pos (.inl h)]
  · rw [decide_eq_false h]
    refine AWpL.guardT (by rfl) (AWpL.weak (weak_opt 9 (by rfl)) ?_)
    refine AWpL.calle (s77 q.den (by omega)) rfl (by rw [hn]; rfl) (by simp (config := { maxSteps := 2000000 }) only [go_sem, ↓reduceIte, Int.reduceToNat, Nat.reduceMul, Int.reduceBEq, Int.reduceBNe, Nat.reduceBEq, Nat.reduceAdd, Nat.reduceSub, Nat.reduceLeDiff, Nat.reduceEqDiff, Nat.reduceLT, reduceCtorEq]) (AWpL.ofM hn rfl ?_)
    simp (config := { maxSteps := 2000000 }) only [go_sem, ↓reduceIte, Int.reduceToNat, Nat.reduceMul, Int.reduceBEq, Int.reduceBNe, Nat.reduceBEq, Nat.reduceAdd, Nat.reduceSub, Nat.reduceLeDiff, Nat.reduceEqDiff, Nat.reduceLT, reduceCtorEq, e2]
    unfold fitsQ
    refine ⟨fun h2 => ?_, fun h2 => ?_⟩
    · refine Retn.ret (π := []) hp hnp ⟨rfl, ?_⟩
      simp (config := { maxSteps := 2000000 }) only [go_sem, ↓reduceIte, Int.reduceToNat, Nat.reduceMul, Int.reduceBEq, Int.reduceBNe, Nat.reduceBEq, Nat.reduceAdd, Nat.reduceSub, Nat.reduceLeDiff, Nat.reduceEqDiff, Nat.reduceLT, reduceCtorEq]
      rw [if_pos (.inr (of_decide_eq_true h2))]
    · refine Retn.ret (π := []) hp hnp ⟨rfl, ?_⟩
      simp (config := { maxSteps := 2000000 }) only [go_sem, ↓reduceIte, Int.reduceToNat, Nat.reduceMul, Int.reduceBEq, Int.reduceBNe, Nat.reduceBEq, Nat.reduceAdd, Nat.reduceSub, Nat.reduceLeDiff, Nat.reduceEqDiff, Nat.reduceLT, reduceCtorEq]
      rw [if_neg (fun h3 => h3.elim h (of_decide_eq_false h2))]
theorem bA_app (l m : List UInt8) : bA l ++ bA m = bA (l ++ m) := by
  rw [← bA_data (bA l ++ bA m)]
  congr 1
/-- The text of a rational. -/
def outL (q : QQ) : List UInt8 := if q.num = 0 then [48] else (if q.neg = true then 45 :: txtL q.num else txtL q.num) ++ if q.whole = 1 then [] else 47 :: txtL q.whole
theorem txt_bA (n : Nat) : txt n = bA (txtL n) := rfl
theorem txt_one (n : Nat) : (txtL n == [49]) = decide (n = 1) := by
  by_cases h : n = 1
  · subst h
    have : txtL 1 = [49] := by rw [show (1 : Nat) = num (dgs [49]) from rfl]; exact txt_num ⟨by simp, by simp, by simp⟩
    rw [this]; rfl
  · rw [decide_eq_false h, beq_eq_false_iff_ne.2 ?_]
    intro h2
    apply h
    rw [← num_txt n, h2]; rfl
set_option maxRecDepth 20000 in
theorem s55 (q : QQ) (hq : QB 600001 q) : Aw.Spec Tryd.prog 55 [] [qv q] (Gives (· = S (bA (outL q)))) := by
  refine Spec.shut (Post := fun rg v => v = S (bA (outL q))) ?_ fun rg v h => by subst h; exact ⟨rfl, rfl, rfl⟩
  refine Aw.Spec.regsW k55 rfl rfl fun E hn hnp hp => ?_
  unfold a55
  have pin : ∀ r, E.pin r = none := fun r => hp.none hnp (Nat.zero_le _)
  have hw := whole_nl hq (by decide)
  obtain ⟨hq1, hq2⟩ := hq
  have hl1 := txt_len q.num
  have hl2 := txt_len q.whole
  refine AWp.ofD [] [13] hn mixed rfl ?_
  simp (config := { maxSteps := 2000000 }) only [go_sem, ↓reduceIte, Int.reduceToNat, Nat.reduceMul, Int.reduceBEq, Int.reduceBNe, Nat.reduceBEq, Nat.reduceAdd, Nat.reduceSub, Nat.reduceLeDiff, Nat.reduceEqDiff, Nat.reduceLT, reduceCtorEq, len_beq]
  unfold outL
  refine ⟨fun h => ?_, fun h => ?_⟩
  · rw [if_pos (of_decide_eq_true h)]
    refine Retn.ret (π := []) hp hnp ⟨rfl, ?_⟩
    simp (config := { maxSteps := 2000000 }) only [go_sem, ↓reduceIte, Int.reduceToNat, Nat.reduceMul, Int.reduceBEq, Int.reduceBNe, Nat.reduceBEq, Nat.reduceAdd, Nat.reduceSub, Nat.reduceLeDiff, Nat.reduceEqDiff, Nat.reduceLT, reduceCtorEq]
    rfl
  rw [if_neg (of_decide_eq_false h)]
  (refine AWpL.calle (s76 q.num (by omega)) rfl (by rw [hn]; rfl) (by simp (config := { maxSteps := 2000000 }) only [go_sem, ↓reduceIte, Int.reduceToNat, Nat.reduceMul, Int.reduceBEq, Int.reduceBNe, Nat.reduceBEq, Nat.reduceAdd, Nat.reduceSub, Nat.reduceLeDiff, Nat.reduceEqDiff, Nat.reduceLT, reduceCtorEq]) (AWpL.ofM hn rfl ?_); simp (config := { maxSteps := 2000000 }) only [go_sem, ↓reduceIte, Int.reduceToNat, Nat.reduceMul, Int.reduceBEq, Int.reduceBNe, Nat.reduceBEq, Nat.reduceAdd, Nat.reduceSub, Nat.reduceLeDiff, Nat.reduceEqDiff, Nat.reduceLT, reduceCtorEq])
  refine AWp.cut ⟨[(1, .ptr 0 0 0), (3, S (bA (if q.neg = true then 45 :: txtL q.num else txtL q.num)))], [.box 62 [B q.neg, nv q.num, nv q.den]]⟩ ?_ ?_
  · refine AWp.cond (by rfl) (fun h => ?_) (fun h => ?_)
    · rw [if_pos h]
      refine AWp.ofD [] [] hn mixed rfl ?_
      simp (config := { maxSteps := 2000000 }) only [go_sem, ↓reduceIte, Int.reduceToNat, Nat.reduceMul, Int.reduceBEq, Int.reduceBNe, Nat.reduceBEq, Nat.reduceAdd, Nat.reduceSub, Nat.reduceLeDiff, Nat.reduceEqDiff, Nat.reduceLT, reduceCtorEq]
      refine ⟨by show 1 + (txtL q.num).length ≤ _; omega, ?_⟩
      have : (⟨#[45]⟩ : ByteArray) ++ txt q.num = bA (45 :: txtL q.num) := bA_app [45] _
      rw [this]
      exact weak_tm (by simp (config := { maxSteps := 2000000 }) only [go_sem, ↓reduceIte, Int.reduceToNat, Nat.reduceMul, Int.reduceBEq, Int.reduceBNe, Nat.reduceBEq, Nat.reduceAdd, Nat.reduceSub, Nat.reduceLeDiff, Nat.reduceEqDiff, Nat.reduceLT, reduceCtorEq])
    · rw [if_neg (by rw [h]; decide)]
      refine AWp.ofD [] [] hn mixed rfl ?_
      simp (config := { maxSteps := 2000000 }) only [go_sem, ↓reduceIte, Int.reduceToNat, Nat.reduceMul, Int.reduceBEq, Int.reduceBNe, Nat.reduceBEq, Nat.reduceAdd, Nat.reduceSub, Nat.reduceLeDiff, Nat.reduceEqDiff, Nat.reduceLT, reduceCtorEq]
      exact weak_tm (by simp (config := { maxSteps := 2000000 }) only [go_sem, ↓reduceIte, Int.reduceToNat, Nat.reduceMul, Int.reduceBEq, Int.reduceBNe, Nat.reduceBEq, Nat.reduceAdd, Nat.reduceSub, Nat.reduceLeDiff, Nat.reduceEqDiff, Nat.reduceLT, reduceCtorEq, txt_bA])
  have hl3 : (if q.neg = true then 45 :: txtL q.num else txtL q.num).length ≤ (txtL q.num).length + 1 := by
    split
    · rw [List.length_cons]; omega
    · omega
  generalize (if q.neg = true then 45 :: txtL q.num else txtL q.num) = A at *
  simp (config := { maxSteps := 2000000 }) only [go_sem, ↓reduceIte, Int.reduceToNat, Nat.reduceMul, Int.reduceBEq, Int.reduceBNe, Nat.reduceBEq, Nat.reduceAdd, Nat.reduceSub, Nat.reduceLeDiff, Nat.reduceEqDiff, Nat.reduceLT, reduceCtorEq]
  (refine AWpL.callA [] (s68 q) rfl rfl (by rw [hn]; rfl) rfl (fun r hr => .inr (pin r)) fun rg v hv => ?_; obtain ⟨rfl, rfl⟩ := hv; refine ⟨Nat.le_refl _, AWpL.ofM hn rfl ?_⟩)
  simp (config := { maxSteps := 2000000 }) only [go_sem, ↓reduceIte, Int.reduceToNat, Nat.reduceMul, Int.reduceBEq, Int.reduceBNe, Nat.reduceBEq, Nat.reduceAdd, Nat.reduceSub, Nat.reduceLeDiff, Nat.reduceEqDiff, Nat.reduceLT, reduceCtorEq, Aw.retS, Aw.retRg, Aw.kpM, Aw.bkM, Aw.pos, Aw.isBox]
  (refine AWpL.calle (s76 q.whole (by omega)) rfl (by rw [hn]; rfl) (by simp (config := { maxSteps := 2000000 }) only [go_sem, ↓reduceIte, Int.reduceToNat, Nat.reduceMul, Int.reduceBEq, Int.reduceBNe, Nat.reduceBEq, Nat.reduceAdd, Nat.reduceSub, Nat.reduceLeDiff, Nat.reduceEqDiff, Nat.reduceLT, reduceCtorEq]) (AWpL.ofM hn rfl ?_); simp (config := { maxSteps := 2000000 }) only [go_sem, ↓reduceIte, Int.reduceToNat, Nat.reduceMul, Int.reduceBEq, Int.reduceBNe, Nat.reduceBEq, Nat.reduceAdd, Nat.reduceSub, Nat.reduceLeDiff, Nat.reduceEqDiff, Nat.reduceLT, reduceCtorEq])
  simp (config := { maxSteps := 2000000 }) only [go_sem, ↓reduceIte, Int.reduceToNat, Nat.reduceMul, Int.reduceBEq, Int.reduceBNe, Nat.reduceBEq, Nat.reduceAdd, Nat.reduceSub, Nat.reduceLeDiff, Nat.reduceEqDiff, Nat.reduceLT, reduceCtorEq, txt_bA, bA_toList, toList_one, txt_one]
  refine ⟨fun h => ?_, fun h => ?_⟩
  · rw [if_neg (of_decide_eq_false h)]
    have e1 : (⟨#[47]⟩ : ByteArray) ++ bA (txtL q.whole) = bA (47 :: txtL q.whole) := bA_app [47] _
    rw [e1, bA_app]
    refine ⟨by show 1 + (txtL q.whole).length ≤ _; omega, by show A.length + (1 + (txtL q.whole).length) ≤ _; omega, ?_⟩
    refine Retn.ret (π := []) hp hnp ⟨rfl, ?_⟩
    simp (config := { maxSteps := 2000000 }) only [go_sem, ↓reduceIte, Int.reduceToNat, Nat.reduceMul, Int.reduceBEq, Int.reduceBNe, Nat.reduceBEq, Nat.reduceAdd, Nat.reduceSub, Nat.reduceLeDiff, Nat.reduceEqDiff, Nat.reduceLT, reduceCtorEq]
  · rw [if_pos (by simpa using h), List.append_nil]
    refine Retn.ret (π := []) hp hnp ⟨rfl, ?_⟩
    simp (config := { maxSteps := 2000000 }) only [go_sem, ↓reduceIte, Int.reduceToNat, Nat.reduceMul, Int.reduceBEq, Int.reduceBNe, Nat.reduceBEq, Nat.reduceAdd, Nat.reduceSub, Nat.reduceLeDiff, Nat.reduceEqDiff, Nat.reduceLT, reduceCtorEq]
theorem s49 (q : QQ) (hq : QB 600001 q) : Aw.Spec Tryd.prog 49 [] [qv q] (Gives (· = .tup [S (bA (if fitsQ q ≠ 0 then [] else outL q)), I (fitsQ q)])) := by
  refine Spec.shut (Post := fun rg v => v = .tup [S (bA (if fitsQ q ≠ 0 then [] else outL q)), I (fitsQ q)]) ?_ fun rg v h => by subst h; exact ⟨rfl, rfl, rfl⟩
  refine Aw.Spec.regsW k49 rfl rfl fun E hn hnp hp => ?_
  unfold a49
  refine AWp.ofD [] [] hn mixed rfl ?_
  simp (config := { maxSteps := 2000000 }) only [go_sem, ↓reduceIte, Int.reduceToNat, Nat.reduceMul, Int.reduceBEq, Int.reduceBNe, Nat.reduceBEq, Nat.reduceAdd, Nat.reduceSub, Nat.reduceLeDiff, Nat.reduceEqDiff, Nat.reduceLT, reduceCtorEq]
  (refine AWpL.calle (s57 q hq) rfl (by rw [hn]; rfl) (by simp (config := { maxSteps := 2000000 }) only [go_sem, ↓reduceIte, Int.reduceToNat, Nat.reduceMul, Int.reduceBEq, Int.reduceBNe, Nat.reduceBEq, Nat.reduceAdd, Nat.reduceSub, Nat.reduceLeDiff, Nat.reduceEqDiff, Nat.reduceLT, reduceCtorEq]) (AWpL.ofM hn rfl ?_); simp (config := { maxSteps := 2000000 }) only [go_sem, ↓reduceIte, Int.reduceToNat, Nat.reduceMul, Int.reduceBEq, Int.reduceBNe, Nat.reduceBEq, Nat.reduceAdd, Nat.reduceSub, Nat.reduceLeDiff, Nat.reduceEqDiff, Nat.reduceLT, reduceCtorEq])
  refine ⟨fun h => ?_, fun h => ?_⟩
  · rw [if_pos (by simpa using h)]
    refine Retn.ret (π := []) hp hnp ⟨rfl, ?_⟩
    simp (config := { maxSteps := 2000000 }) only [go_sem, ↓reduceIte, Int.reduceToNat, Nat.reduceMul, Int.reduceBEq, Int.reduceBNe, Nat.reduceBEq, Nat.reduceAdd, Nat.reduceSub, Nat.reduceLeDiff, Nat.reduceEqDiff, Nat.reduceLT, reduceCtorEq]
    rfl
  · have h0 : fitsQ q = 0 := by simpa using h
    rw [if_neg (by simp [h0])]
    (refine AWpL.calle (s55 q hq) rfl (by rw [hn]; rfl) (by simp (config := { maxSteps := 2000000 }) only [go_sem, ↓reduceIte, Int.reduceToNat, Nat.reduceMul, Int.reduceBEq, Int.reduceBNe, Nat.reduceBEq, Nat.reduceAdd, Nat.reduceSub, Nat.reduceLeDiff, Nat.reduceEqDiff, Nat.reduceLT, reduceCtorEq]) (AWpL.ofM hn rfl ?_); simp (config := { maxSteps := 2000000 }) only [go_sem, ↓reduceIte, Int.reduceToNat, Nat.reduceMul, Int.reduceBEq, Int.reduceBNe, Nat.reduceBEq, Nat.reduceAdd, Nat.reduceSub, Nat.reduceLeDiff, Nat.reduceEqDiff, Nat.reduceLT, reduceCtorEq])
    refine Retn.ret (π := []) hp hnp ⟨rfl, ?_⟩
    simp (config := { maxSteps := 2000000 }) only [go_sem, ↓reduceIte, Int.reduceToNat, Nat.reduceMul, Int.reduceBEq, Int.reduceBNe, Nat.reduceBEq, Nat.reduceAdd, Nat.reduceSub, Nat.reduceLeDiff, Nat.reduceEqDiff, Nat.reduceLT, reduceCtorEq]
    rw [h0]
/-- What the quotient of two integers is. -/
def toldQ (q : QQ) : List UInt8 × Int := (if fitsQ q ≠ 0 then [] else outL q, fitsQ q)
def ofQ (n d : Int) : List UInt8 × Int := if d = 0 then ([], 10) else toldQ (lowQ (decide (n < 0) != decide (d < 0)) n.natAbs d.natAbs)
theorem low_QB {k : Nat} {neg : Bool} {num den : Nat} (h1 : nl num ≤ k) (h2 : nl den ≤ k) : QB k (lowQ neg num den) := by
  unfold lowQ
  split
  · exact ⟨by show nl 0 ≤ k; rw [nl_zero]; omega, by show nl 0 ≤ k; rw [nl_zero]; omega⟩
  · exact ⟨Nat.le_trans (nl_mono (Nat.div_le_self _ _)) h1, Nat.le_trans (nl_mono (Nat.div_le_self _ _)) h2⟩
theorem nl64 {n : Nat} (h : n ≤ 9223372036854775808) : nl n ≤ 3 := nl_le (Nat.lt_of_le_of_lt h (by decide))
theorem s20 (n d : Int) (hn0 : -9223372036854775808 ≤ n) (hn1 : n ≤ 9223372036854775807) (hd0 : -9223372036854775808 ≤ d) (hd1 : d ≤ 9223372036854775807) : Aw.Spec Tryd.prog 20 [] [I n, I d] (Gives (· = .tup [S (bA (ofQ n d).1), I (ofQ n d).2])) := by
  refine Spec.shut (Post := fun rg v => v = .tup [S (bA (ofQ n d).1), I (ofQ n d).2]) ?_ fun rg v h => by subst h; exact ⟨rfl, rfl, rfl⟩
  refine Aw.Spec.regsW k20 rfl rfl fun E hn hnp hp => ?_
  unfold a20
  have pin : ∀ r, E.pin r = none := fun r => hp.none hnp (Nat.zero_le _)
  have e3 := nl64 (n := n.natAbs) (by omega)
  have e4 := nl64 (n := d.natAbs) (by omega)
  refine AWp.ofD [] [] hn mixed rfl ?_
  simp (config := { maxSteps := 2000000 }) only [go_sem, ↓reduceIte, Int.reduceToNat, Nat.reduceMul, Int.reduceBEq, Int.reduceBNe, Nat.reduceBEq, Nat.reduceAdd, Nat.reduceSub, Nat.reduceLeDiff, Nat.reduceEqDiff, Nat.reduceLT, reduceCtorEq]
  unfold ofQ
  refine ⟨fun h => ?_, fun h => ?_⟩
  · rw [if_pos (by simpa using h)]
    refine Retn.ret (π := []) hp hnp ⟨rfl, ?_⟩
    simp (config := { maxSteps := 2000000 }) only [go_sem, ↓reduceIte, Int.reduceToNat, Nat.reduceMul, Int.reduceBEq, Int.reduceBNe, Nat.reduceBEq, Nat.reduceAdd, Nat.reduceSub, Nat.reduceLeDiff, Nat.reduceEqDiff, Nat.reduceLT, reduceCtorEq]
    rfl
  · have h0 : d ≠ 0 := by simpa using h
    rw [if_neg h0]
    (refine AWpL.callA [] (s51 n hn0 hn1) rfl rfl (by rw [hn]; rfl) rfl (fun r hr => .inr (pin r)) fun rg v hv => ?_; obtain ⟨rfl, rfl⟩ := hv; refine ⟨Nat.le_refl _, AWpL.ofM hn rfl ?_⟩)
    simp (config := { maxSteps := 2000000 }) only [go_sem, ↓reduceIte, Int.reduceToNat, Nat.reduceMul, Int.reduceBEq, Int.reduceBNe, Nat.reduceBEq, Nat.reduceAdd, Nat.reduceSub, Nat.reduceLeDiff, Nat.reduceEqDiff, Nat.reduceLT, reduceCtorEq, Aw.retS, Aw.retRg, Aw.kpM, Aw.bkM, Aw.pos, Aw.isBox]
    (refine AWpL.callA [] (s51 d hd0 hd1) rfl rfl (by rw [hn]; rfl) rfl (fun r hr => .inr (pin r)) fun rg v hv => ?_; obtain ⟨rfl, rfl⟩ := hv; refine ⟨Nat.le_refl _, AWpL.ofM hn rfl ?_⟩)
    simp (config := { maxSteps := 2000000 }) only [go_sem, ↓reduceIte, Int.reduceToNat, Nat.reduceMul, Int.reduceBEq, Int.reduceBNe, Nat.reduceBEq, Nat.reduceAdd, Nat.reduceSub, Nat.reduceLeDiff, Nat.reduceEqDiff, Nat.reduceLT, reduceCtorEq, Aw.retS, Aw.retRg, Aw.kpM, Aw.bkM, Aw.pos, Aw.isBox]
    (refine AWpL.callA [] (s50 (decide (n < 0) != decide (d < 0)) n.natAbs d.natAbs (by omega) (by omega) (by omega)) rfl rfl (by rw [hn]; rfl) rfl (fun r hr => .inr (pin r)) fun rg v hv => ?_; obtain ⟨rfl, rfl⟩ := hv; refine ⟨Nat.le_refl _, AWpL.ofM hn rfl ?_⟩)
    simp (config := { maxSteps := 2000000 }) only [go_sem, ↓reduceIte, Int.reduceToNat, Nat.reduceMul, Int.reduceBEq, Int.reduceBNe, Nat.reduceBEq, Nat.reduceAdd, Nat.reduceSub, Nat.reduceLeDiff, Nat.reduceEqDiff, Nat.reduceLT, reduceCtorEq, Aw.retS, Aw.retRg, Aw.kpM, Aw.bkM, Aw.pos, Aw.isBox]
    (refine AWpL.calle (s49 (lowQ (decide (n < 0) != decide (d < 0)) n.natAbs d.natAbs) (low_QB (by omega) (by omega))) rfl (by rw [hn]; rfl) (by simp (config := { maxSteps := 2000000 }) only [go_sem, ↓reduceIte, Int.reduceToNat, Nat.reduceMul, Int.reduceBEq, Int.reduceBNe, Nat.reduceBEq, Nat.reduceAdd, Nat.reduceSub, Nat.reduceLeDiff, Nat.reduceEqDiff, Nat.reduceLT, reduceCtorEq]) (AWpL.ofM hn rfl ?_); simp (config := { maxSteps := 2000000 }) only [go_sem, ↓reduceIte, Int.reduceToNat, Nat.reduceMul, Int.reduceBEq, Int.reduceBNe, Nat.reduceBEq, Nat.reduceAdd, Nat.reduceSub, Nat.reduceLeDiff, Nat.reduceEqDiff, Nat.reduceLT, reduceCtorEq])
    refine Retn.ret (π := []) hp hnp ⟨rfl, ?_⟩
    simp (config := { maxSteps := 2000000 }) only [go_sem, ↓reduceIte, Int.reduceToNat, Nat.reduceMul, Int.reduceBEq, Int.reduceBNe, Nat.reduceBEq, Nat.reduceAdd, Nat.reduceSub, Nat.reduceLeDiff, Nat.reduceEqDiff, Nat.reduceLT, reduceCtorEq]
    rfl
end Go.Proofs.YtjaakbkneeojnaaDoor
