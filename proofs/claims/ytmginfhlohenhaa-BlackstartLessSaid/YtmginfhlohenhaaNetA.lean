/- Networks: their values, and what netmodel's small checks compute. -/
import Derived.Test.YtmginfhlohenhaaAwZk
import Derived.Test.YtmginfhlohenhaaLibA
set_option linter.unusedVariables false
set_option linter.unusedSimpArgs false
namespace Go.Proofs.Ytmginfhlohenhaa
open Go.Proofs.Ytmginfhlohenhaa.Aw
attribute [local go_sem] Int.natCast_zero Int.natCast_one bne_self_eq_false beq_self_eq_true Bool.not_true Bool.not_false Option.isSome_none Option.isSome_some Aw.bkM_nil Option.getD_some Option.getD_none Nat.sub_zero Int.toNat_zero Aw.frzS Aw.frzT Aw.frzA Aw.frzL Aw.frzR Aw.frzO Aw.frzOL Aw.frzOT Aw.frzOR Aw.killS Aw.mapT Aw.mapR Aw.killM Aw.resAVs Aw.resAV Aw.quietOps Aw.wpP Aw.wpT Aw.wpS Aw.AOp.mild List.getElem?_cons_zero List.getElem?_cons_succ Bool.and_false Bool.and_self Bool.false_and Aw.opOb Aw.gdB Aw.Rnd Aw.subTm List.length_map Int.toNat_natCast and_self Aw.SeqC Aw.stops Aw.Ends Aw.looks Aw.renA Aw.renL Aw.renT Aw.renS Aw.wpO Aw.aop Aw.putTm Aw.St.ev Aw.St.put Aw.St.putO Aw.binAV Aw.intBin Aw.strBin Aw.pickAV Aw.optInt Aw.AV.strip Aw.AV.guard Aw.AV.cells Aw.gdOb Aw.AOp.opds Aw.AOp.still Aw.ptrCells Aw.St.reg Aw.fillAV Aw.fillOb Aw.elsOb Aw.splice Aw.firm Aw.cellish Aw.AV.shut Aw.shutAll Aw.Seq Aw.Blk Aw.retS_nil Aw.mapA Aw.mapL Aw.borA Aw.borOb Aw.allOb Aw.tupOf Aw.params Aw.Opd.of Array.toList Value.cells List.map_cons List.map_nil List.getD_cons_zero List.getD_cons_succ List.getD_nil List.length_cons List.length_nil List.take_succ_cons List.take_zero List.take_nil List.drop_zero List.drop_succ_cons List.drop_nil List.set_cons_zero List.set_cons_succ List.append_nil List.nil_append List.cons_append List.all_cons List.all_nil cond_false cond_true if_true if_false true_and and_true Bool.and_true Bool.true_and Option.map_some Option.map_none false_implies forall_const implies_true forall_eq imp_self Bool.cond_false_right Bool.cond_true_left beq_true beq_false Bool.not_eq_true' Bool.false_eq_true Nat.zero_add Nat.add_zero Aw.eqCells Aw.stopDraw Aw.skipS Aw.exactCap Aw.revealS Aw.srcEls Aw.srcSz
attribute [local go_sem ↓] Aw.look_nil Aw.look_ite Aw.wpL_nil Aw.wpL_op Aw.wpL_gd Aw.wpQ_nil Aw.wpQ_op Aw.wpQ_gd Aw.wpC_draw Aw.wpC_reg Aw.wpC_skip Aw.wpC_ret Aw.wpC_exit Aw.wpC_seq Aw.wpC_block Aw.wpC_loop Aw.wpC_cond Aw.stopAt_nil Aw.stopAt_cons Aw.wpD_skip Aw.wpD_ret Aw.wpD_exit Aw.wpD_region Aw.wpD_draw Aw.wpM_nil Aw.wpM_op Aw.wpM_gd Aw.wpD_seq Aw.wpD_block Aw.wpD_loop Aw.wpD_cond
/- gridhall/netmodel.Name -/
def a38 : ACode :=
  (.seq (.region false [] [
     ⟨(some 2), none, (.mov (.v (.bool false)))⟩])
  (.seq (.seq (.region false [] [
     ⟨(some 6), none, (.mov (.t 0))⟩,
     ⟨(some 7), none, (.stb 5 (.t 6))⟩,
     ⟨(some 8), none, (.len (.t 7))⟩,
     ⟨(some 9), none, (.mov (.v (.int .i64 0)))⟩])
  (.block 0 (.loop (.seq (.region false [] [
       ⟨(some 10), none, (.bin .lss 3 (.t 9) (.t 8))⟩])
    (.seq (.cond (.t 10)
      .skip
      (.exit 0))
    (.seq (.block 1 (.seq (.region false [] [
        ⟨(some 11), none, (.mov (.t 9))⟩,
        ⟨(some 12), none, (.idx 1 (.t 7) (.t 9))⟩,
        ⟨(some 13), none, (.load 1 false (.t 12))⟩,
        ⟨(some 3), none, (.mov (.t 11))⟩,
        ⟨(some 4), none, (.mov (.t 13))⟩])
     (.seq (.region false [] [
        ⟨(some 14), none, (.mov (.t 4))⟩,
        ⟨(some 15), none, (.bin .geq 5 (.t 14) (.v (.int .u8 65)))⟩,
        ⟨(some 16), none, (.mov (.t 15))⟩,
        ⟨(some 17), (some (16, true)), (.mov (.t 4))⟩,
        ⟨(some 18), (some (16, true)), (.bin .leq 5 (.t 17) (.v (.int .u8 90)))⟩,
        ⟨(some 19), none, (.pick (.t 16) (.t 18) (.v (.bool false)))⟩,
        ⟨(some 5), none, (.mov (.t 19))⟩])
     (.seq (.region false [] [
        ⟨(some 20), none, (.mov (.t 5))⟩,
        ⟨(some 21), none, (.un .not (.t 20))⟩,
        ⟨(some 22), none, (.mov (.t 21))⟩,
        ⟨(some 23), (some (22, true)), (.mov (.t 3))⟩,
        ⟨(some 24), (some (22, true)), (.bin .eql 3 (.t 23) (.v (.int .i64 0)))⟩,
        ⟨(some 25), (some (22, true)), (.mov (.t 24))⟩,
        ⟨(some 26), (some (25, false)), (.mov (.t 4))⟩,
        ⟨(some 27), (some (25, false)), (.bin .lss 5 (.t 26) (.v (.int .u8 48)))⟩,
        ⟨(some 28), (some (22, true)), (.pick (.t 25) (.v (.bool true)) (.t 27))⟩,
        ⟨(some 29), (some (22, true)), (.mov (.t 28))⟩,
        ⟨(some 30), (some (29, false)), (.mov (.t 4))⟩,
        ⟨(some 31), (some (29, false)), (.bin .gtr 5 (.t 30) (.v (.int .u8 57)))⟩,
        ⟨(some 32), (some (22, true)), (.pick (.t 29) (.v (.bool true)) (.t 31))⟩,
        ⟨(some 33), none, (.pick (.t 22) (.t 32) (.v (.bool false)))⟩])
     (.cond (.t 33)
       (.seq (.region false [] [
          ⟨(some 2), none, (.mov (.v (.bool false)))⟩])
       .ret)
       .skip)))))
    (.region false [] [
       ⟨(some 34), none, (.bin .add 3 (.t 9) (.v (.int .i64 1)))⟩,
       ⟨(some 9), none, (.mov (.t 34))⟩])))))))
  (.seq (.region false [] [
     ⟨(some 35), none, (.mov (.t 0))⟩,
     ⟨(some 36), none, (.bin .neq 9 (.t 35) (.v (.string ⟨#[]⟩)))⟩,
     ⟨(some 37), none, (.mov (.t 36))⟩,
     ⟨(some 38), (some (37, true)), (.mov (.t 0))⟩,
     ⟨(some 39), (some (37, true)), (.lens (.t 38))⟩,
     ⟨(some 40), (some (37, true)), (.bin .leq 3 (.t 39) (.v (.int .i64 8)))⟩,
     ⟨(some 41), none, (.pick (.t 37) (.t 40) (.v (.bool false)))⟩,
     ⟨(some 2), none, (.mov (.t 41))⟩])
  .ret)))
theorem k38 : FnIs Try.prog 38 42 [.t 2] a38 := ⟨_, _, Try.func38, rfl, by kernel_rfl, by kernel_rfl, rfl⟩
/- gridhall/netmodel.within -/
def a41 : ACode :=
  (.seq (.region false [] [
     ⟨(some 6), none, (.mov (.v (.bool false)))⟩])
  (.seq (.region false [] [
     ⟨(some 7), none, (.mov (.t 0))⟩,
     ⟨(some 8), none, (.mov (.t 1))⟩,
     ⟨(some 9), none, (.bin .geq 3 (.t 7) (.t 8))⟩,
     ⟨(some 10), none, (.mov (.t 9))⟩,
     ⟨(some 11), (some (10, true)), (.mov (.t 0))⟩,
     ⟨(some 12), (some (10, true)), (.mov (.t 2))⟩,
     ⟨(some 13), (some (10, true)), (.bin .leq 3 (.t 11) (.t 12))⟩,
     ⟨(some 14), none, (.pick (.t 10) (.t 13) (.v (.bool false)))⟩,
     ⟨(some 6), none, (.mov (.t 14))⟩])
  .ret))
theorem k41 : FnIs Try.prog 41 15 [.t 6] a41 := ⟨_, _, Try.func41, rfl, by kernel_rfl, by kernel_rfl, rfl⟩
/- gridhall/netmodel.sizes -/
def a22 : ACode :=
  (.seq (.region false [] [
     ⟨(some 1), none, (.box 29 (.t 0))⟩,
     ⟨(some 2), none, (.mov (.v (.int .i64 0)))⟩])
  (.seq (.seq (.region false [] [
     ⟨(some 3), none, (.fld 0 (.t 1))⟩,
     ⟨(some 4), none, (.load 1 false (.t 3))⟩,
     ⟨(some 5), none, (.len (.t 4))⟩,
     ⟨(some 6), none, (.bin .gtr 3 (.t 5) (.v (.int .i64 24)))⟩,
     ⟨(some 7), none, (.mov (.t 6))⟩,
     ⟨(some 8), (some (7, false)), (.fld 1 (.t 1))⟩,
     ⟨(some 9), (some (7, false)), (.load 1 false (.t 8))⟩,
     ⟨(some 10), (some (7, false)), (.len (.t 9))⟩,
     ⟨(some 11), (some (7, false)), (.bin .gtr 3 (.t 10) (.v (.int .i64 32)))⟩,
     ⟨(some 12), none, (.pick (.t 7) (.v (.bool true)) (.t 11))⟩,
     ⟨(some 13), none, (.mov (.t 12))⟩,
     ⟨(some 14), (some (13, false)), (.fld 2 (.t 1))⟩,
     ⟨(some 15), (some (13, false)), (.load 1 false (.t 14))⟩,
     ⟨(some 16), (some (13, false)), (.len (.t 15))⟩,
     ⟨(some 17), (some (13, false)), (.bin .gtr 3 (.t 16) (.v (.int .i64 24)))⟩,
     ⟨(some 18), none, (.pick (.t 13) (.v (.bool true)) (.t 17))⟩])
  (.cond (.t 18)
    (.seq (.region false [] [
       ⟨(some 2), none, (.mov (.v (.int .i64 2)))⟩])
    .ret)
    .skip))
  (.seq (.seq (.region false [] [
     ⟨(some 19), none, (.fld 3 (.t 1))⟩,
     ⟨(some 20), none, (.load 1 false (.t 19))⟩,
     ⟨(some 21), none, (.len (.t 20))⟩,
     ⟨(some 22), none, (.bin .gtr 3 (.t 21) (.v (.int .i64 10)))⟩,
     ⟨(some 23), none, (.mov (.t 22))⟩,
     ⟨(some 24), (some (23, false)), (.fld 4 (.t 1))⟩,
     ⟨(some 25), (some (23, false)), (.load 1 false (.t 24))⟩,
     ⟨(some 26), (some (23, false)), (.len (.t 25))⟩,
     ⟨(some 27), (some (23, false)), (.bin .gtr 3 (.t 26) (.v (.int .i64 12)))⟩,
     ⟨(some 28), none, (.pick (.t 23) (.v (.bool true)) (.t 27))⟩,
     ⟨(some 29), none, (.mov (.t 28))⟩,
     ⟨(some 30), (some (29, false)), (.fld 5 (.t 1))⟩,
     ⟨(some 31), (some (29, false)), (.load 1 false (.t 30))⟩,
     ⟨(some 32), (some (29, false)), (.len (.t 31))⟩,
     ⟨(some 33), (some (29, false)), (.bin .gtr 3 (.t 32) (.v (.int .i64 4)))⟩,
     ⟨(some 34), none, (.pick (.t 29) (.v (.bool true)) (.t 33))⟩])
  (.cond (.t 34)
    (.seq (.region false [] [
       ⟨(some 2), none, (.mov (.v (.int .i64 2)))⟩])
    .ret)
    .skip))
  (.seq (.region false [] [
     ⟨(some 2), none, (.mov (.v (.int .i64 0)))⟩])
  .ret))))
theorem k22 : FnIs Try.prog 22 35 [.t 2] a22 := ⟨_, _, Try.func22, rfl, by kernel_rfl, by kernel_rfl, rfl⟩
/- gridhall/netmodel.Branch -/
def a25 : ACode :=
  (.seq (.region false [] [
     ⟨(some 1), none, (.box 70 (.t 0))⟩,
     ⟨(some 2), none, (.mov (.v (.int .i64 0)))⟩])
  (.seq (.seq (.region false [] [
     ⟨(some 3), none, (.fld 3 (.t 1))⟩,
     ⟨(some 4), none, (.load 1 false (.t 3))⟩,
     ⟨(some 5), none, (.call 41 [(.t 4), (.v (.int .i64 1)), (.v (.int .i64 10000))])⟩,
     ⟨(some 6), none, (.un .not (.t 5))⟩,
     ⟨(some 7), none, (.mov (.t 6))⟩,
     ⟨(some 8), (some (7, false)), (.fld 4 (.t 1))⟩,
     ⟨(some 9), (some (7, false)), (.load 1 false (.t 8))⟩,
     ⟨(some 10), (some (7, false)), (.call 41 [(.t 9), (.v (.int .i64 500)), (.v (.int .i64 1500))])⟩,
     ⟨(some 11), (some (7, false)), (.un .not (.t 10))⟩,
     ⟨(some 12), none, (.pick (.t 7) (.v (.bool true)) (.t 11))⟩,
     ⟨(some 13), none, (.mov (.t 12))⟩,
     ⟨(some 14), (some (13, false)), (.fld 5 (.t 1))⟩,
     ⟨(some 15), (some (13, false)), (.load 1 false (.t 14))⟩,
     ⟨(some 16), (some (13, false)), (.call 41 [(.t 15), (.v (.int .i64 (-1000))), (.v (.int .i64 1000))])⟩,
     ⟨(some 17), (some (13, false)), (.un .not (.t 16))⟩,
     ⟨(some 18), none, (.pick (.t 13) (.v (.bool true)) (.t 17))⟩])
  (.cond (.t 18)
    (.seq (.region false [] [
       ⟨(some 2), none, (.mov (.v (.int .i64 4)))⟩])
    .ret)
    .skip))
  (.seq (.seq (.region false [] [
     ⟨(some 19), none, (.fld 6 (.t 1))⟩,
     ⟨(some 20), none, (.load 1 false (.t 19))⟩,
     ⟨(some 21), none, (.call 41 [(.t 20), (.v (.int .i64 0)), (.v (.int .i64 100000))])⟩,
     ⟨(some 22), none, (.un .not (.t 21))⟩,
     ⟨(some 23), none, (.mov (.t 22))⟩,
     ⟨(some 24), (some (23, false)), (.fld 7 (.t 1))⟩,
     ⟨(some 25), (some (23, false)), (.load 1 false (.t 24))⟩,
     ⟨(some 26), (some (23, false)), (.fld 6 (.t 1))⟩,
     ⟨(some 27), (some (23, false)), (.load 1 false (.t 26))⟩,
     ⟨(some 28), (some (23, false)), (.call 41 [(.t 25), (.t 27), (.v (.int .i64 100000))])⟩,
     ⟨(some 29), (some (23, false)), (.un .not (.t 28))⟩,
     ⟨(some 30), none, (.pick (.t 23) (.v (.bool true)) (.t 29))⟩,
     ⟨(some 31), none, (.mov (.t 30))⟩,
     ⟨(some 32), (some (31, false)), (.fld 8 (.t 1))⟩,
     ⟨(some 33), (some (31, false)), (.load 1 false (.t 32))⟩,
     ⟨(some 34), (some (31, false)), (.call 41 [(.t 33), (.v (.int .i64 0)), (.v (.int .i64 200000))])⟩,
     ⟨(some 35), (some (31, false)), (.un .not (.t 34))⟩,
     ⟨(some 36), none, (.pick (.t 31) (.v (.bool true)) (.t 35))⟩])
  (.cond (.t 36)
    (.seq (.region false [] [
       ⟨(some 2), none, (.mov (.v (.int .i64 4)))⟩])
    .ret)
    .skip))
  (.seq (.region false [] [
     ⟨(some 2), none, (.mov (.v (.int .i64 0)))⟩])
  .ret))))
theorem k25 : FnIs Try.prog 25 37 [.t 2] a25 := ⟨_, _, Try.func25, rfl, by kernel_rfl, by kernel_rfl, rfl⟩
/- gridhall/netmodel.ends -/
def a40 : ACode :=
  (.seq (.region false [] [
     ⟨(some 2), none, (.box 29 (.t 0))⟩,
     ⟨(some 4), none, (.mov (.v (.int .i64 0)))⟩])
  (.seq (.seq (.region false [] [
     ⟨(some 7), none, (.mov (.t 1))⟩,
     ⟨(some 8), none, (.len (.t 7))⟩,
     ⟨(some 9), none, (.mov (.v (.int .i64 0)))⟩])
  (.block 0 (.loop (.seq (.region false [] [
       ⟨(some 10), none, (.bin .lss 3 (.t 9) (.t 8))⟩])
    (.seq (.cond (.t 10)
      .skip
      (.exit 0))
    (.seq (.block 1 (.seq (.region false [] [
        ⟨(some 11), none, (.idx 1 (.t 7) (.t 9))⟩,
        ⟨(some 12), none, (.load 1 false (.t 11))⟩,
        ⟨(some 6), none, (.mov (.t 12))⟩])
     (.seq (.region false [] [
        ⟨(some 13), none, (.fld 0 (.t 2))⟩,
        ⟨(some 14), none, (.load 1 false (.t 13))⟩,
        ⟨(some 15), none, (.mov (.t 6))⟩,
        ⟨(some 16), none, (.call 39 [(.t 14), (.t 15)])⟩,
        ⟨(some 17), none, (.un .not (.t 16))⟩])
     (.cond (.t 17)
       (.seq (.region false [] [
          ⟨(some 4), none, (.mov (.v (.int .i64 6)))⟩])
       .ret)
       .skip))))
    (.region false [] [
       ⟨(some 18), none, (.bin .add 3 (.t 9) (.v (.int .i64 1)))⟩,
       ⟨(some 9), none, (.mov (.t 18))⟩])))))))
  (.seq (.region false [] [
     ⟨(some 4), none, (.mov (.v (.int .i64 0)))⟩])
  .ret)))
theorem k40 : FnIs Try.prog 40 19 [.t 4] a40 := ⟨_, _, Try.func40, rfl, by kernel_rfl, by kernel_rfl, rfl⟩
/- (*gridhall/netmodel.names).add -/
def a23 : ACode :=
  (.seq (.region false [] [
     ⟨(some 4), none, (.mov (.v (.int .i64 0)))⟩])
  (.seq (.seq (.region false [] [
     ⟨(some 5), none, (.mov (.t 1))⟩,
     ⟨(some 6), none, (.call 38 [(.t 5)])⟩,
     ⟨(some 7), none, (.un .not (.t 6))⟩])
  (.cond (.t 7)
    (.seq (.region false [] [
       ⟨(some 4), none, (.mov (.v (.int .i64 5)))⟩])
    .ret)
    .skip))
  (.seq (.seq (.region false [] [
     ⟨(some 8), none, (.mov (.t 0))⟩,
     ⟨(some 9), none, (.nilc (.t 8))⟩,
     ⟨(some 10), none, (.fld 0 (.t 9))⟩,
     ⟨(some 11), none, (.load 1 false (.t 10))⟩,
     ⟨(some 12), none, (.mov (.t 1))⟩,
     ⟨(some 13), none, (.call 39 [(.t 11), (.t 12)])⟩])
  (.cond (.t 13)
    (.seq (.region false [] [
       ⟨(some 4), none, (.mov (.v (.int .i64 7)))⟩])
    .ret)
    .skip))
  (.seq (.region false [] [
     ⟨(some 14), none, (.mov (.t 0))⟩,
     ⟨(some 15), none, (.mov (.t 0))⟩,
     ⟨(some 16), none, (.nilc (.t 15))⟩,
     ⟨(some 17), none, (.fld 0 (.t 16))⟩,
     ⟨(some 18), none, (.load 1 false (.t 17))⟩,
     ⟨(some 19), none, (.mov (.t 1))⟩,
     ⟨(some 20), none, (.bsl 9 1 1 [(0, (.t 19))])⟩,
     ⟨(some 21), none, (.app 9 1 16 (.string ⟨#[]⟩) (.t 18) (.t 20))⟩,
     ⟨(some 22), none, (.nilc (.t 14))⟩,
     ⟨(some 23), none, (.fld 0 (.t 22))⟩,
     ⟨none, none, (.store 1 (.t 23) (.t 21))⟩])
  (.seq (.region false [] [
     ⟨(some 4), none, (.mov (.v (.int .i64 0)))⟩])
  .ret)))))
theorem k23 : FnIs Try.prog 23 24 [.t 4] a23 := ⟨_, _, Try.func23, rfl, by kernel_rfl, by kernel_rfl, rfl⟩

structure Swi where
  name : ByteArray
  a : ByteArray
  b : ByteArray
  brk : Bool
  opn : Bool
structure Bra where
  name : ByteArray
  a : ByteArray
  b : ByteArray
  x : Int
  tap : Int
  shift : Int
  limit : Int
  short : Int
  hold : Int
structure Gen where
  name : ByteArray
  node : ByteArray
  least : Int
  most : Int
  ramp : Int
structure Loa where
  name : ByteArray
  node : ByteArray
  demand : Int
structure Sto where
  name : ByteArray
  node : ByteArray
  charge : Int
  dis : Int
  cap : Int
instance : Inhabited Swi := ⟨⟨⟨#[]⟩, ⟨#[]⟩, ⟨#[]⟩, false, false⟩⟩
instance : Inhabited Bra := ⟨⟨⟨#[]⟩, ⟨#[]⟩, ⟨#[]⟩, 0, 0, 0, 0, 0, 0⟩⟩
instance : Inhabited Gen := ⟨⟨⟨#[]⟩, ⟨#[]⟩, 0, 0, 0⟩⟩
instance : Inhabited Loa := ⟨⟨⟨#[]⟩, ⟨#[]⟩, 0⟩⟩
instance : Inhabited Sto := ⟨⟨⟨#[]⟩, ⟨#[]⟩, 0, 0, 0⟩⟩
abbrev swc (x : Swi) : List AV := [S x.name, S x.a, S x.b, B x.brk, B x.opn]
abbrev brc (x : Bra) : List AV := [S x.name, S x.a, S x.b, I x.x, I x.tap, I x.shift, I x.limit, I x.short, I x.hold]
abbrev gec (x : Gen) : List AV := [S x.name, S x.node, I x.least, I x.most, I x.ramp]
abbrev loc (x : Loa) : List AV := [S x.name, S x.node, I x.demand]
abbrev stoc (x : Sto) : List AV := [S x.name, S x.node, I x.charge, I x.dis, I x.cap]
/-- A slice: is it nil, is it full, what it holds. -/
structure Sl (α : Type) where
  nl : Option Bool
  fl : Bool
  l : List α
structure Net where
  nodes : Sl ByteArray
  sws : Sl Swi
  brs : Sl Bra
  gens : Sl Gen
  loads : Sl Loa
  stores : Sl Sto
abbrev Sl.av {α : Type} (s : Sl α) (sz : Nat) (c : α → List AV) : AV := .imm s.nl s.fl sz (s.l.map c)
abbrev netc (n : Net) : List AV := [n.nodes.av 1 sc, n.sws.av 5 swc, n.brs.av 9 brc, n.gens.av 5 gec, n.loads.av 3 loc, n.stores.av 5 stoc]
abbrev neta (n : Net) : AV := .agg (netc n)
/-- What a machine can hold. -/
structure NetOk (n : Net) : Prop where
  nodes : ∀ x ∈ n.nodes.l, x.size ≤ 9223372036854775807
  nlen : n.nodes.l.length ≤ 9223372036854775807
  sws : ∀ x ∈ n.sws.l, x.name.size ≤ 9223372036854775807
  brs : ∀ x ∈ n.brs.l, x.name.size ≤ 9223372036854775807
  gens : ∀ x ∈ n.gens.l, x.name.size ≤ 9223372036854775807
  loads : ∀ x ∈ n.loads.l, x.name.size ≤ 9223372036854775807
  stores : ∀ x ∈ n.stores.l, x.name.size ≤ 9223372036854775807
set_option maxRecDepth 20000 in
theorem s38 (x : ByteArray) (hx : x.size ≤ 9223372036854775807) : Aw.Spec Try.prog 38 [] [S x] (Gives (· = B (nm 8 x))) := by
  refine Aw.Spec.givesD k38 mixed rfl rfl rfl fun E hn hnp hp => ?_
  unfold a38
  simp (config := { maxSteps := 2000000 }) only [go_sem, ↓reduceIte, Int.reduceToNat, Nat.reduceMul, Int.reduceBEq, Int.reduceBNe, Nat.reduceBEq, Nat.reduceAdd, Nat.reduceSub, Nat.reduceLeDiff, Nat.reduceEqDiff, Nat.reduceLT, reduceCtorEq]
  have hsz : x.data.toList.length = x.size := by rw [Array.length_toList]; rfl
  refine AWp.loop (fun k s => ∃ i : Nat, i + k = x.data.toList.length ∧ nmOk 0 x.data.toList = nmOk i (x.data.toList.drop i) ∧ Weak E s ⟨[(0, S x), (7, .imm (some false) false 1 (x.data.toList.map fun c => [.val (.int .u8 c.toNat)])), (8, I x.data.toList.length), (9, I i)], []⟩) (n := x.data.toList.length)
    ⟨0, by omega, rfl, weak_to [] hp hnp rfl ⟨rfl, rfl, rfl, rfl, trivial⟩ rfl⟩ ?_
  rintro k s ⟨i, hi, hs, hw⟩
  refine AWp.weak hw (AWp.ofD [] [] hn mixed rfl ?_)
  rcases Nat.lt_or_ge i x.data.toList.length with hlt | hge
  · have e0 : decide ((i : Int) < (x.data.toList.length : Int)) = true := by simp; omega
    have e1 := getD_map (fun c : UInt8 => [.val (.int .u8 c.toNat)]) hlt
    have e2 : IntKind.i64.wrap ((i : Int) + 1) = ((i + 1 : Nat) : Int) := by rw [w64 (by omega) (by omega)]; omega
    simp (config := { maxSteps := 2000000 }) only [go_sem, ↓reduceIte, Int.reduceToNat, Nat.reduceMul, Int.reduceBEq, Int.reduceBNe, Nat.reduceBEq, Nat.reduceAdd, Nat.reduceSub, Nat.reduceLeDiff, Nat.reduceEqDiff, Nat.reduceLT, reduceCtorEq, e0, e1, e2, ge_iff_le, gt_iff_lt]
    rw [nmOk_drop hlt] at hs
    have f1 : ((i : Int) == 0) = !decide (0 < i) := by
      rcases Nat.eq_zero_or_pos i with h | h
      · subst h; rfl
      · rw [decide_eq_true h, Bool.not_true, beq_eq_false_iff_ne]; omega
    have f2 : decide ((x.data.toList[i].toNat : Int) < 48) = !decide ((48 : Int) ≤ x.data.toList[i].toNat) := by
      rw [← decide_not]; congr 1; simp only [Int.not_le]
    have f3 : decide ((57 : Int) < x.data.toList[i].toNat) = !decide ((x.data.toList[i].toNat : Int) ≤ 57) := by
      rw [← decide_not]; congr 1; simp only [Int.not_le]
    rw [f1, f2, f3]
    generalize (decide ((65 : Int) ≤ x.data.toList[i].toNat) && decide ((x.data.toList[i].toNat : Int) ≤ 90)) = A at *
    generalize decide ((48 : Int) ≤ x.data.toList[i].toNat) = C at *
    generalize decide ((x.data.toList[i].toNat : Int) ≤ 57) = D at *
    generalize decide (0 < i) = F at *
    refine ⟨⟨by omega, by omega⟩, ?_, ?_, fun h => ?_, fun h => ?_⟩
    · exact (by decide : ∀ A F : Bool, A = false → A = false ∧ ((!F) = false → (!A && !!F) = true)) A F
    · exact (by decide : ∀ A F C : Bool, A = false → A = false ∧ ((!F || !C) = false → (!A && !(!F || !C)) = true)) A F C
    · have h' : (A || F && C && D) = false := (by decide : ∀ A F C D : Bool, (!A && (!F || !C || !D)) = true → (A || F && C && D) = false) A F C D h
      unfold nm
      rw [hs, h']; rfl
    · have h' : (A || F && C && D) = true := (by decide : ∀ A F C D : Bool, (!A && (!F || !C || !D)) = false → (A || F && C && D) = true) A F C D h
      rw [h', Bool.true_and] at hs
      exact ⟨k - 1, by omega, i + 1, by omega, hs, weak_to [] hp hnp rfl (by simp (config := { maxSteps := 2000000 }) only [go_sem, ↓reduceIte, Int.reduceToNat, Nat.reduceMul, Int.reduceBEq, Int.reduceBNe, Nat.reduceBEq, Nat.reduceAdd, Nat.reduceSub, Nat.reduceLeDiff, Nat.reduceEqDiff, Nat.reduceLT, reduceCtorEq]) rfl⟩
  · have e0 : decide ((i : Int) < (x.data.toList.length : Int)) = false := by simp; omega
    simp (config := { maxSteps := 2000000 }) only [go_sem, ↓reduceIte, Int.reduceToNat, Nat.reduceMul, Int.reduceBEq, Int.reduceBNe, Nat.reduceBEq, Nat.reduceAdd, Nat.reduceSub, Nat.reduceLeDiff, Nat.reduceEqDiff, Nat.reduceLT, reduceCtorEq, e0]
    unfold nm
    rw [hs, List.drop_of_length_le hge]
    simp only [nmOk, Bool.true_and]
def inR (n a b : Int) : Bool := decide (a ≤ n) && decide (n ≤ b)
theorem s41 (n a b : Int) : Aw.Spec Try.prog 41 [] [I n, I a, I b] (Gives (· = B (inR n a b))) := by
  refine Aw.Spec.givesD k41 mixed rfl rfl rfl fun E hn hnp hp => ?_
  unfold a41
  simp (config := { maxSteps := 2000000 }) only [go_sem, ↓reduceIte, Int.reduceToNat, Nat.reduceMul, Int.reduceBEq, Int.reduceBNe, Nat.reduceBEq, Nat.reduceAdd, Nat.reduceSub, Nat.reduceLeDiff, Nat.reduceEqDiff, Nat.reduceLT, reduceCtorEq]
  rfl
def sizesF (n : Net) : Int :=
  if 24 < n.nodes.l.length ∨ 32 < n.sws.l.length ∨ 24 < n.brs.l.length then 2 else if 10 < n.gens.l.length ∨ 12 < n.loads.l.length ∨ 4 < n.stores.l.length then 2 else 0
theorem s22 (n : Net) : Aw.Spec Try.prog 22 [] [neta n] (Gives (· = I (sizesF n))) := by
  refine Aw.Spec.givesD k22 mixed rfl rfl rfl fun E hn hnp hp => ?_
  unfold a22
  simp (config := { maxSteps := 2000000 }) only [go_sem, ↓reduceIte, Int.reduceToNat, Nat.reduceMul, Int.reduceBEq, Int.reduceBNe, Nat.reduceBEq, Nat.reduceAdd, Nat.reduceSub, Nat.reduceLeDiff, Nat.reduceEqDiff, Nat.reduceLT, reduceCtorEq]
  simp only [Bool.or_eq_true, Bool.or_eq_false_iff, decide_eq_true_eq, decide_eq_false_iff_not]
  unfold sizesF
  refine ⟨fun h => ?_, fun h => ⟨fun h2 => ?_, fun h2 => ?_⟩⟩
  · rw [if_pos (by omega)]
  · rw [if_neg (by omega), if_pos (by omega)]
  · rw [if_neg (by omega), if_neg (by omega)]
def braE (b : Bra) : Int :=
  if (!inR b.x 1 10000 || !inR b.tap 500 1500 || !inR b.shift (-1000) 1000) = true then 4 else if (!inR b.limit 0 100000 || !inR b.short b.limit 100000 || !inR b.hold 0 200000) = true then 4 else 0
theorem s25 (b : Bra) : Aw.Spec Try.prog 25 [] [.agg (brc b)] (Gives (· = I (braE b))) := by
  refine Aw.Spec.givesD k25 mixed rfl rfl rfl fun E hn hnp hp => ?_
  unfold a25
  simp (config := { maxSteps := 2000000 }) only [go_sem, ↓reduceIte, Int.reduceToNat, Nat.reduceMul, Int.reduceBEq, Int.reduceBNe, Nat.reduceBEq, Nat.reduceAdd, Nat.reduceSub, Nat.reduceLeDiff, Nat.reduceEqDiff, Nat.reduceLT, reduceCtorEq]
  (refine AWpL.calle (s41 b.x 1 10000) rfl (by rw [hn]; rfl) (by simp (config := { maxSteps := 2000000 }) only [go_sem, ↓reduceIte, Int.reduceToNat, Nat.reduceMul, Int.reduceBEq, Int.reduceBNe, Nat.reduceBEq, Nat.reduceAdd, Nat.reduceSub, Nat.reduceLeDiff, Nat.reduceEqDiff, Nat.reduceLT, reduceCtorEq]) (AWpL.ofM hn rfl ?_); simp (config := { maxSteps := 2000000 }) only [go_sem, ↓reduceIte, Int.reduceToNat, Nat.reduceMul, Int.reduceBEq, Int.reduceBNe, Nat.reduceBEq, Nat.reduceAdd, Nat.reduceSub, Nat.reduceLeDiff, Nat.reduceEqDiff, Nat.reduceLT, reduceCtorEq])
  (refine AWpL.gcalle rfl (fun _ => (s41 b.tap 500 1500)) rfl (by rw [hn]; rfl) (fun hb => by simp (config := { maxSteps := 2000000 }) only [go_sem, ↓reduceIte, Int.reduceToNat, Nat.reduceMul, Int.reduceBEq, Int.reduceBNe, Nat.reduceBEq, Nat.reduceAdd, Nat.reduceSub, Nat.reduceLeDiff, Nat.reduceEqDiff, Nat.reduceLT, reduceCtorEq, hb] <;> simpa using hb) (AWpL.ofM hn rfl ?_); simp (config := { maxSteps := 2000000 }) only [go_sem, ↓reduceIte, Int.reduceToNat, Nat.reduceMul, Int.reduceBEq, Int.reduceBNe, Nat.reduceBEq, Nat.reduceAdd, Nat.reduceSub, Nat.reduceLeDiff, Nat.reduceEqDiff, Nat.reduceLT, reduceCtorEq])
  (refine AWpL.gcalle rfl (fun _ => (s41 b.shift (-1000) 1000)) rfl (by rw [hn]; rfl) (fun hb => by simp (config := { maxSteps := 2000000 }) only [go_sem, ↓reduceIte, Int.reduceToNat, Nat.reduceMul, Int.reduceBEq, Int.reduceBNe, Nat.reduceBEq, Nat.reduceAdd, Nat.reduceSub, Nat.reduceLeDiff, Nat.reduceEqDiff, Nat.reduceLT, reduceCtorEq, hb] <;> simpa using hb) (AWpL.ofM hn rfl ?_); simp (config := { maxSteps := 2000000 }) only [go_sem, ↓reduceIte, Int.reduceToNat, Nat.reduceMul, Int.reduceBEq, Int.reduceBNe, Nat.reduceBEq, Nat.reduceAdd, Nat.reduceSub, Nat.reduceLeDiff, Nat.reduceEqDiff, Nat.reduceLT, reduceCtorEq])
  unfold braE
  refine ⟨fun h => by rw [if_pos h], fun h => ?_⟩
  rw [if_neg (by rw [h]; decide)]
  (refine AWpL.calle (s41 b.limit 0 100000) rfl (by rw [hn]; rfl) (by simp (config := { maxSteps := 2000000 }) only [go_sem, ↓reduceIte, Int.reduceToNat, Nat.reduceMul, Int.reduceBEq, Int.reduceBNe, Nat.reduceBEq, Nat.reduceAdd, Nat.reduceSub, Nat.reduceLeDiff, Nat.reduceEqDiff, Nat.reduceLT, reduceCtorEq]) (AWpL.ofM hn rfl ?_); simp (config := { maxSteps := 2000000 }) only [go_sem, ↓reduceIte, Int.reduceToNat, Nat.reduceMul, Int.reduceBEq, Int.reduceBNe, Nat.reduceBEq, Nat.reduceAdd, Nat.reduceSub, Nat.reduceLeDiff, Nat.reduceEqDiff, Nat.reduceLT, reduceCtorEq])
  (refine AWpL.gcalle rfl (fun _ => (s41 b.short b.limit 100000)) rfl (by rw [hn]; rfl) (fun hb => by simp (config := { maxSteps := 2000000 }) only [go_sem, ↓reduceIte, Int.reduceToNat, Nat.reduceMul, Int.reduceBEq, Int.reduceBNe, Nat.reduceBEq, Nat.reduceAdd, Nat.reduceSub, Nat.reduceLeDiff, Nat.reduceEqDiff, Nat.reduceLT, reduceCtorEq, hb] <;> simpa using hb) (AWpL.ofM hn rfl ?_); simp (config := { maxSteps := 2000000 }) only [go_sem, ↓reduceIte, Int.reduceToNat, Nat.reduceMul, Int.reduceBEq, Int.reduceBNe, Nat.reduceBEq, Nat.reduceAdd, Nat.reduceSub, Nat.reduceLeDiff, Nat.reduceEqDiff, Nat.reduceLT, reduceCtorEq])
  (refine AWpL.gcalle rfl (fun _ => (s41 b.hold 0 200000)) rfl (by rw [hn]; rfl) (fun hb => by simp (config := { maxSteps := 2000000 }) only [go_sem, ↓reduceIte, Int.reduceToNat, Nat.reduceMul, Int.reduceBEq, Int.reduceBNe, Nat.reduceBEq, Nat.reduceAdd, Nat.reduceSub, Nat.reduceLeDiff, Nat.reduceEqDiff, Nat.reduceLT, reduceCtorEq, hb] <;> simpa using hb) (AWpL.ofM hn rfl ?_); simp (config := { maxSteps := 2000000 }) only [go_sem, ↓reduceIte, Int.reduceToNat, Nat.reduceMul, Int.reduceBEq, Int.reduceBNe, Nat.reduceBEq, Nat.reduceAdd, Nat.reduceSub, Nat.reduceLeDiff, Nat.reduceEqDiff, Nat.reduceLT, reduceCtorEq])
  exact ⟨fun h => by rw [if_pos h], fun h => by rw [if_neg (by rw [h]; decide)]⟩
def endsF (n : Net) : List ByteArray → Int
  | [] => 0
  | s :: l => if n.nodes.l.any (seq s) = true then endsF n l else 6
theorem endsF_drop {n : Net} {l : List ByteArray} {j : Nat} (h : j < l.length) : endsF n (l.drop j) = if n.nodes.l.any (seq l[j]) = true then endsF n (l.drop (j + 1)) else 6 := by
  rw [List.drop_eq_getElem_cons h]; rfl
theorem s40 (n : Net) (nl fl) (l : List ByteArray) (hn' : n.nodes.l.length ≤ 9223372036854775807) (hl : l.length ≤ 9223372036854775807) : Aw.Spec Try.prog 40 [] [neta n, ss nl fl l] (Gives (· = I (endsF n l))) := by
  refine Aw.Spec.givesD k40 mixed rfl rfl rfl fun E hn hnp hp => ?_
  unfold a40
  simp (config := { maxSteps := 2000000 }) only [go_sem, ↓reduceIte, Int.reduceToNat, Nat.reduceMul, Int.reduceBEq, Int.reduceBNe, Nat.reduceBEq, Nat.reduceAdd, Nat.reduceSub, Nat.reduceLeDiff, Nat.reduceEqDiff, Nat.reduceLT, reduceCtorEq]
  refine AWp.loop (fun k s => ∃ i : Nat, i + k = l.length ∧ endsF n l = endsF n (l.drop i) ∧ Weak E s ⟨[(2, .ptr 0 0 0), (7, ss nl fl l), (8, I l.length), (9, I i)], [.box 29 (netc n)]⟩) (n := l.length)
    ⟨0, by omega, rfl, weak_to [0] hp hnp rfl (by simp (config := { maxSteps := 2000000 }) only [go_sem, ↓reduceIte, Int.reduceToNat, Nat.reduceMul, Int.reduceBEq, Int.reduceBNe, Nat.reduceBEq, Nat.reduceAdd, Nat.reduceSub, Nat.reduceLeDiff, Nat.reduceEqDiff, Nat.reduceLT, reduceCtorEq, Int.natCast_zero, Aw.pos]) (by simp (config := { maxSteps := 2000000 }) only [go_sem, ↓reduceIte, Int.reduceToNat, Nat.reduceMul, Int.reduceBEq, Int.reduceBNe, Nat.reduceBEq, Nat.reduceAdd, Nat.reduceSub, Nat.reduceLeDiff, Nat.reduceEqDiff, Nat.reduceLT, reduceCtorEq, Aw.renR, Aw.pos])⟩ ?_
  rintro k s ⟨i, hik, hc, hw⟩
  refine AWp.weak hw (AWp.ofD [] [] hn mixed rfl ?_)
  rcases Nat.lt_or_ge i l.length with hlt | hge
  · have e0 : decide ((i : Int) < (l.length : Int)) = true := decide_eq_true (by omega)
    have e1 := getD_map sc hlt
    have e2 : IntKind.i64.wrap ((i : Int) + 1) = ((i + 1 : Nat) : Int) := by rw [w64 (by omega) (by omega)]; omega
    rw [endsF_drop hlt] at hc
    generalize l[i] = x at e1 hc
    simp (config := { maxSteps := 2000000 }) only [go_sem, ↓reduceIte, Int.reduceToNat, Nat.reduceMul, Int.reduceBEq, Int.reduceBNe, Nat.reduceBEq, Nat.reduceAdd, Nat.reduceSub, Nat.reduceLeDiff, Nat.reduceEqDiff, Nat.reduceLT, reduceCtorEq, e0, e1]
    (repeat (refine And.intro (by first | omega | (refine ⟨by omega, by omega⟩) | (refine ⟨by omega, by omega, by omega⟩) | (simp only [List.length_map, List.length_range, List.length_append, List.length_cons, List.length_nil, List.length_replicate, List.length_set]; omega) | (simp; omega) | (intro hgd; cases hgd) | (intro hgd; refine ⟨hgd, ?_⟩; first | omega | (refine ⟨by omega, by omega⟩) | (simp; omega))) ?_))
    (refine AWpL.calle (s39 n.nodes.nl n.nodes.fl n.nodes.l x hn') rfl (by rw [hn]; rfl) (by simp (config := { maxSteps := 2000000 }) only [go_sem, ↓reduceIte, Int.reduceToNat, Nat.reduceMul, Int.reduceBEq, Int.reduceBNe, Nat.reduceBEq, Nat.reduceAdd, Nat.reduceSub, Nat.reduceLeDiff, Nat.reduceEqDiff, Nat.reduceLT, reduceCtorEq]) (AWpL.ofM hn rfl ?_); simp (config := { maxSteps := 2000000 }) only [go_sem, ↓reduceIte, Int.reduceToNat, Nat.reduceMul, Int.reduceBEq, Int.reduceBNe, Nat.reduceBEq, Nat.reduceAdd, Nat.reduceSub, Nat.reduceLeDiff, Nat.reduceEqDiff, Nat.reduceLT, reduceCtorEq])
    refine ⟨fun h => ?_, fun h => ?_⟩
    · rw [hc, if_neg (by simpa using h)]
    rw [if_pos (by simpa using h)] at hc
    rw [e2]
    exact ⟨k - 1, by omega, i + 1, by omega, hc, weak_to [0] hp hnp rfl (by simp (config := { maxSteps := 2000000 }) only [go_sem, ↓reduceIte, Int.reduceToNat, Nat.reduceMul, Int.reduceBEq, Int.reduceBNe, Nat.reduceBEq, Nat.reduceAdd, Nat.reduceSub, Nat.reduceLeDiff, Nat.reduceEqDiff, Nat.reduceLT, reduceCtorEq, Aw.pos]) (by simp (config := { maxSteps := 2000000 }) only [go_sem, ↓reduceIte, Int.reduceToNat, Nat.reduceMul, Int.reduceBEq, Int.reduceBNe, Nat.reduceBEq, Nat.reduceAdd, Nat.reduceSub, Nat.reduceLeDiff, Nat.reduceEqDiff, Nat.reduceLT, reduceCtorEq, Aw.renR, Aw.pos])⟩
  · have e0 : decide ((i : Int) < (l.length : Int)) = false := decide_eq_false (by omega)
    simp (config := { maxSteps := 2000000 }) only [go_sem, ↓reduceIte, Int.reduceToNat, Nat.reduceMul, Int.reduceBEq, Int.reduceBNe, Nat.reduceBEq, Nat.reduceAdd, Nat.reduceSub, Nat.reduceLeDiff, Nat.reduceEqDiff, Nat.reduceLT, reduceCtorEq, e0]
    rw [hc, List.drop_of_length_le hge]
    rfl
/-- The names that were met: a box of a list that grows. -/
abbrev metR (l : List ByteArray) : List Reg := [.box 63 [.hnd 1 0 l.length l.length false], .arr 9 1 (l.map sc)]
def addE (l : List ByteArray) (s : ByteArray) : Int := if nm 8 s = false then 5 else if l.any (seq s) = true then 7 else 0
def addL (l : List ByteArray) (s : ByteArray) : List ByteArray := if addE l s = 0 then l ++ [s] else l
theorem s23 (l : List ByteArray) (s : ByteArray) (hs : s.size ≤ 9223372036854775807) (hl : l.length ≤ 1000) :
    Aw.Spec Try.prog 23 (metR l) [.ptr 0 0 0, S s] (fun rg v => rg = metR (addL l s) ∧ v = I (addE l s)) := by
  refine Aw.Spec.of k23 rfl fun E hn hnp hp => ?_
  replace hnp : E.np = 2 := hnp
  unfold a23
  refine AWp.ofD [] [] hn mixed rfl ?_
  simp (config := { maxSteps := 2000000 }) only [go_sem, ↓reduceIte, Int.reduceToNat, Nat.reduceMul, Int.reduceBEq, Int.reduceBNe, Nat.reduceBEq, Nat.reduceAdd, Nat.reduceSub, Nat.reduceLeDiff, Nat.reduceEqDiff, Nat.reduceLT, reduceCtorEq]
  have hE : addE l s = if nm 8 s = false then 5 else if l.any (seq s) = true then 7 else 0 := rfl
  have hL : addL l s = if addE l s = 0 then l ++ [s] else l := rfl
  (refine AWpL.calle (s38 s hs) rfl (by rw [hn]; rfl) (by simp (config := { maxSteps := 2000000 }) only [go_sem, ↓reduceIte, Int.reduceToNat, Nat.reduceMul, Int.reduceBEq, Int.reduceBNe, Nat.reduceBEq, Nat.reduceAdd, Nat.reduceSub, Nat.reduceLeDiff, Nat.reduceEqDiff, Nat.reduceLT, reduceCtorEq]) (AWpL.ofM hn rfl ?_); simp (config := { maxSteps := 2000000 }) only [go_sem, ↓reduceIte, Int.reduceToNat, Nat.reduceMul, Int.reduceBEq, Int.reduceBNe, Nat.reduceBEq, Nat.reduceAdd, Nat.reduceSub, Nat.reduceLeDiff, Nat.reduceEqDiff, Nat.reduceLT, reduceCtorEq])
  refine ⟨fun h => ?_, fun h => ?_⟩
  · rw [if_pos (by simpa using h)] at hE
    rw [hL, hE, if_neg (by decide)]
    refine Retn.ret (π := [0, 1]) hp hnp ⟨rfl, ?_⟩
    simp (config := { maxSteps := 2000000 }) only [go_sem, ↓reduceIte, Int.reduceToNat, Nat.reduceMul, Int.reduceBEq, Int.reduceBNe, Nat.reduceBEq, Nat.reduceAdd, Nat.reduceSub, Nat.reduceLeDiff, Nat.reduceEqDiff, Nat.reduceLT, reduceCtorEq, Aw.renR, Aw.pos]
  rw [if_neg (by simpa using h)] at hE
  refine AWpL.calleA (args := [ss none false l, S s]) (s39 none false l s (by omega)) (by simp (config := { maxSteps := 2000000 }) only [go_sem, ↓reduceIte, Int.reduceToNat, Nat.reduceMul, Int.reduceBEq, Int.reduceBNe, Nat.reduceBEq, Nat.reduceAdd, Nat.reduceSub, Nat.reduceLeDiff, Nat.reduceEqDiff, Nat.reduceLT, reduceCtorEq]; rw [List.take_of_length_le (by simp)]) rfl (by rw [hn]; rfl) (by simp (config := { maxSteps := 2000000 }) only [go_sem, ↓reduceIte, Int.reduceToNat, Nat.reduceMul, Int.reduceBEq, Int.reduceBNe, Nat.reduceBEq, Nat.reduceAdd, Nat.reduceSub, Nat.reduceLeDiff, Nat.reduceEqDiff, Nat.reduceLT, reduceCtorEq, Nat.le_refl]) (AWpL.ofM hn rfl ?_)
  simp (config := { maxSteps := 2000000 }) only [go_sem, ↓reduceIte, Int.reduceToNat, Nat.reduceMul, Int.reduceBEq, Int.reduceBNe, Nat.reduceBEq, Nat.reduceAdd, Nat.reduceSub, Nat.reduceLeDiff, Nat.reduceEqDiff, Nat.reduceLT, reduceCtorEq]
  refine ⟨fun h2 => ?_, fun h2 => ?_⟩
  · rw [if_pos h2] at hE
    rw [hL, hE, if_neg (by decide)]
    refine Retn.ret (π := [0, 1]) hp hnp ⟨rfl, ?_⟩
    simp (config := { maxSteps := 2000000 }) only [go_sem, ↓reduceIte, Int.reduceToNat, Nat.reduceMul, Int.reduceBEq, Int.reduceBNe, Nat.reduceBEq, Nat.reduceAdd, Nat.reduceSub, Nat.reduceLeDiff, Nat.reduceEqDiff, Nat.reduceLT, reduceCtorEq, Aw.renR, Aw.pos]
  rw [if_neg (by rw [h2]; decide)] at hE
  rw [hE, if_pos rfl] at hL
  refine AWpL.app (r := 1) (els := l.map sc) (ys := [[S s]]) rfl rfl rfl rfl (by rw [hn]; rfl) (by simp) (hp.arr 1 rfl) (Nat.le_refl 1) (fun el hm => by rw [List.mem_singleton.1 hm]; intro y hy; rw [List.mem_singleton.1 hy]; rfl) (by simp only [List.length_cons, List.length_nil]; omega) (by simp only [List.length_cons, List.length_nil]; omega) (AWpL.ofM hn rfl ?_)
  simp (config := { maxSteps := 2000000 }) only [go_sem, ↓reduceIte, Int.reduceToNat, Nat.reduceMul, Int.reduceBEq, Int.reduceBNe, Nat.reduceBEq, Nat.reduceAdd, Nat.reduceSub, Nat.reduceLeDiff, Nat.reduceEqDiff, Nat.reduceLT, reduceCtorEq]
  have hap : l.map sc ++ [[S s]] = (l ++ [s]).map sc := by rw [List.map_append]; rfl
  have hle : l.length + 1 = (l ++ [s]).length := by rw [List.length_append]; rfl
  rw [hap, hle, ← hL]
  refine Retn.ret (π := [0, 1]) hp hnp ⟨rfl, ?_⟩
  simp (config := { maxSteps := 2000000 }) only [go_sem, ↓reduceIte, Int.reduceToNat, Nat.reduceMul, Int.reduceBEq, Int.reduceBNe, Nat.reduceBEq, Nat.reduceAdd, Nat.reduceSub, Nat.reduceLeDiff, Nat.reduceEqDiff, Nat.reduceLT, reduceCtorEq, Aw.renR, Aw.pos, hE]
end Go.Proofs.Ytmginfhlohenhaa
