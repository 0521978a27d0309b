/- Interlocks: the reader, at one line. -/
import Derived.Test.YtocghkacngoblaaDoorAwZl
import Derived.Test.YtocghkacngoblaaDoorOrdD
import Derived.Test.YtocghkacngoblaaDoorSplA
set_option linter.unusedVariables false
set_option linter.unusedSimpArgs false
namespace Go.Proofs.YtocghkacngoblaaDoor
open Go.Proofs.YtocghkacngoblaaDoor.Aw
attribute [local go_sem] Int.natCast_zero Int.natCast_one bne_self_eq_false beq_self_eq_true Bool.not_true Bool.not_false Option.isSome_none Option.isSome_some Aw.bkM_nil Option.getD_some Option.getD_none Nat.sub_zero Int.toNat_zero Aw.frzS Aw.frzT Aw.frzA Aw.frzL Aw.frzR Aw.frzO Aw.frzOL Aw.frzOT Aw.frzOR Aw.killS Aw.mapT Aw.mapR Aw.killM Aw.resAVs Aw.resAV Aw.quietOps Aw.wpP Aw.wpT Aw.wpS Aw.AOp.mild List.getElem?_cons_zero List.getElem?_cons_succ Bool.and_false Bool.and_self Bool.false_and Aw.opOb Aw.gdB Aw.Rnd Aw.subTm List.length_map Int.toNat_natCast and_self Aw.SeqC Aw.stops Aw.Ends Aw.looks Aw.renA Aw.renL Aw.renT Aw.renS Aw.wpO Aw.aop Aw.putTm Aw.St.ev Aw.St.put Aw.St.putO Aw.binAV Aw.intBin Aw.strBin Aw.pickAV Aw.optInt Aw.AV.strip Aw.AV.guard Aw.AV.cells Aw.gdOb Aw.AOp.opds Aw.AOp.still Aw.ptrCells Aw.St.reg Aw.fillAV Aw.fillOb Aw.elsOb Aw.splice Aw.firm Aw.cellish Aw.AV.shut Aw.shutAll Aw.Seq Aw.Blk Aw.retS_nil Aw.mapA Aw.mapL Aw.borA Aw.borOb Aw.allOb Aw.tupOf Aw.params Aw.Opd.of Array.toList Value.cells List.map_cons List.map_nil List.getD_cons_zero List.getD_cons_succ List.getD_nil List.length_cons List.length_nil List.take_succ_cons List.take_zero List.take_nil List.drop_zero List.drop_succ_cons List.drop_nil List.set_cons_zero List.set_cons_succ List.append_nil List.nil_append List.cons_append List.all_cons List.all_nil cond_false cond_true if_true if_false true_and and_true Bool.and_true Bool.true_and Option.map_some Option.map_none false_implies forall_const implies_true forall_eq imp_self Bool.cond_false_right Bool.cond_true_left beq_true beq_false Bool.not_eq_true' Bool.false_eq_true Nat.zero_add Nat.add_zero Aw.eqCells Aw.stopDraw Aw.skipS Aw.exactCap Aw.revealS Aw.srcEls Aw.srcSz
attribute [local go_sem ↓] Aw.look_nil Aw.look_ite Aw.wpL_nil Aw.wpL_op Aw.wpL_gd Aw.wpQ_nil Aw.wpQ_op Aw.wpQ_gd Aw.wpC_draw Aw.wpC_reg Aw.wpC_skip Aw.wpC_ret Aw.wpC_exit Aw.wpC_seq Aw.wpC_block Aw.wpC_loop Aw.wpC_cond Aw.stopAt_nil Aw.stopAt_cons Aw.wpD_skip Aw.wpD_ret Aw.wpD_exit Aw.wpD_region Aw.wpD_draw Aw.wpM_nil Aw.wpM_op Aw.wpM_gd Aw.wpD_seq Aw.wpD_block Aw.wpD_loop Aw.wpD_cond
/- (*gridhall/interlock.reader).take -/
def a50 : ACode :=
  (.seq (.region false [] [
     ⟨(some 4), none, (.mov (.v (.bool false)))⟩])
  (.seq (.seq (.region false [] [
     ⟨(some 5), none, (.mov (.t 0))⟩,
     ⟨(some 6), none, (.nilc (.t 5))⟩,
     ⟨(some 7), none, (.fld 0 (.t 6))⟩,
     ⟨(some 8), none, (.load 1 false (.t 7))⟩,
     ⟨(some 9), none, (.len (.t 8))⟩,
     ⟨(some 10), none, (.bin .eql 3 (.t 9) (.v (.int .i64 0)))⟩,
     ⟨(some 11), none, (.mov (.t 10))⟩,
     ⟨(some 12), (some (11, false)), (.mov (.t 0))⟩,
     ⟨(some 13), (some (11, false)), (.nilc (.t 12))⟩,
     ⟨(some 14), (some (11, false)), (.fld 0 (.t 13))⟩,
     ⟨(some 15), (some (11, false)), (.load 1 false (.t 14))⟩,
     ⟨(some 16), (some (11, false)), (.idx 1 (.t 15) (.v (.int .i64 0)))⟩,
     ⟨(some 17), (some (11, false)), (.load 1 false (.t 16))⟩,
     ⟨(some 18), (some (11, false)), (.mov (.t 1))⟩,
     ⟨(some 19), (some (11, false)), (.bin .neq 9 (.t 17) (.t 18))⟩,
     ⟨(some 20), none, (.pick (.t 11) (.v (.bool true)) (.t 19))⟩])
  (.cond (.t 20)
    (.seq (.region false [] [
       ⟨(some 4), none, (.mov (.v (.bool false)))⟩])
    .ret)
    .skip))
  (.seq (.region false [] [
     ⟨(some 21), none, (.mov (.t 0))⟩,
     ⟨(some 22), none, (.mov (.t 0))⟩,
     ⟨(some 23), none, (.nilc (.t 22))⟩,
     ⟨(some 24), none, (.fld 0 (.t 23))⟩,
     ⟨(some 25), none, (.load 1 false (.t 24))⟩,
     ⟨(some 26), none, (.slc 1 (.t 25) (some (.v (.int .i64 1))) none none)⟩,
     ⟨(some 27), none, (.nilc (.t 21))⟩,
     ⟨(some 28), none, (.fld 0 (.t 27))⟩,
     ⟨none, none, (.store 1 (.t 28) (.t 26))⟩])
  (.seq (.region false [] [
     ⟨(some 4), none, (.mov (.v (.bool true)))⟩])
  .ret))))
theorem k50 : FnIs Tryd.prog 50 29 [.t 4] a50 := ⟨_, _, Tryd.func50, rfl, by kernel_rfl, by kernel_rfl, rfl⟩
/- (*gridhall/interlock.reader).put -/
def a51 : ACode :=
  (.seq (.region false [] [
     ⟨(some 3), none, (.box 54 (.t 1))⟩,
     ⟨(some 4), none, (.mov (.v (.int .i64 0)))⟩])
  (.seq (.region true [[], [], [1], [2], [3], [], [5], [4, 6], [0, 0, 1, 2, 3, 4, 5, 6, 7], [8, 0, 1, 2, 3, 4, 5, 6, 7], [9, 7, 7, 0, 1, 2, 3, 4, 5, 6, 7]] [
     ⟨(some 5), none, (.mov (.t 0))⟩,
     ⟨(some 6), none, (.mov (.t 0))⟩,
     ⟨(some 7), none, (.nilc (.t 6))⟩,
     ⟨(some 8), none, (.fld 1 (.t 7))⟩,
     ⟨(some 9), none, (.load 1 false (.t 8))⟩,
     ⟨(some 10), none, (.load 4 true (.t 3))⟩,
     ⟨(some 11), none, (.bsl 54 4 1 [(0, (.t 10))])⟩,
     ⟨(some 12), none, (.app 54 4 40 (.agg #[(.int .i64 0), (.string ⟨#[]⟩), (.int .i64 0), (.int .i64 0)]) (.t 9) (.t 11))⟩,
     ⟨(some 13), none, (.nilc (.t 5))⟩,
     ⟨(some 14), none, (.fld 1 (.t 13))⟩,
     ⟨none, none, (.store 1 (.t 14) (.t 12))⟩])
  (.seq (.region false [] [
     ⟨(some 15), none, (.mov (.t 0))⟩,
     ⟨(some 16), none, (.nilc (.t 15))⟩,
     ⟨(some 17), none, (.fld 1 (.t 16))⟩,
     ⟨(some 18), none, (.load 1 false (.t 17))⟩,
     ⟨(some 19), none, (.len (.t 18))⟩,
     ⟨(some 20), none, (.bin .sub 3 (.t 19) (.v (.int .i64 1)))⟩,
     ⟨(some 4), none, (.mov (.t 20))⟩])
  .ret)))
theorem k51 : FnIs Tryd.prog 51 21 [.t 4] a51 := ⟨_, _, Tryd.func51, rfl, by kernel_rfl, by kernel_rfl, rfl⟩
/- (*gridhall/interlock.reader).single -/
def a56 : ACode :=
  (.seq (.region false [] [
     ⟨(some 2), none, (.mov (.v (.int .i64 0)))⟩,
     ⟨(some 3), none, (.mov (.v (.bool false)))⟩])
  (.seq (.block 0 (.seq (.region false [] [
      ⟨(some 11), none, (.mov (.t 0))⟩,
      ⟨(some 12), none, (.call 50 [(.t 11), (.v (.string ⟨#[97, 108, 119, 97, 121, 115]⟩))])⟩,
      ⟨(some 10), none, (.mov (.t 12))⟩])
   (.cond (.t 10)
     (.seq (.region false [] [
        ⟨(some 13), none, (.mov (.t 0))⟩,
        ⟨(some 14), none, (.build (.agg #[(.int .i64 0), (.string ⟨#[]⟩), (.int .i64 0), (.int .i64 0)]) [(0, (1, (.v (.int .i64 0))))])⟩,
        ⟨(some 15), none, (.call 51 [(.t 13), (.t 14)])⟩,
        ⟨(some 2), none, (.mov (.t 15))⟩,
        ⟨(some 3), none, (.mov (.v (.bool true)))⟩])
     .ret)
     (.seq (.region false [] [
        ⟨(some 17), none, (.mov (.t 0))⟩,
        ⟨(some 18), none, (.call 50 [(.t 17), (.v (.string ⟨#[110, 101, 118, 101, 114]⟩))])⟩,
        ⟨(some 16), none, (.mov (.t 18))⟩])
     (.cond (.t 16)
       (.seq (.region false [] [
          ⟨(some 19), none, (.mov (.t 0))⟩,
          ⟨(some 20), none, (.build (.agg #[(.int .i64 0), (.string ⟨#[]⟩), (.int .i64 0), (.int .i64 0)]) [(0, (1, (.v (.int .i64 1))))])⟩,
          ⟨(some 21), none, (.call 51 [(.t 19), (.t 20)])⟩,
          ⟨(some 2), none, (.mov (.t 21))⟩,
          ⟨(some 3), none, (.mov (.v (.bool true)))⟩])
       .ret)
       (.seq (.region false [] [
          ⟨(some 23), none, (.mov (.t 0))⟩,
          ⟨(some 24), none, (.call 50 [(.t 23), (.v (.string ⟨#[110, 111, 116]⟩))])⟩,
          ⟨(some 22), none, (.mov (.t 24))⟩])
       (.cond (.t 22)
         (.seq (.region false [] [
            ⟨(some 26), none, (.mov (.t 0))⟩,
            ⟨(some 27), none, (.call 56 [(.t 26)])⟩,
            ⟨(some 25), none, (.mov (.t 27))⟩,
            ⟨(some 28), none, (.ext 0 (.t 25))⟩,
            ⟨(some 29), none, (.ext 1 (.t 25))⟩,
            ⟨(some 4), none, (.mov (.t 28))⟩,
            ⟨(some 5), none, (.mov (.t 29))⟩])
         (.seq (.seq (.region false [] [
            ⟨(some 30), none, (.mov (.t 5))⟩,
            ⟨(some 31), none, (.un .not (.t 30))⟩])
         (.cond (.t 31)
           (.seq (.region false [] [
              ⟨(some 2), none, (.mov (.v (.int .i64 0)))⟩,
              ⟨(some 3), none, (.mov (.v (.bool false)))⟩])
           .ret)
           .skip))
         (.seq (.region false [] [
            ⟨(some 32), none, (.mov (.t 0))⟩,
            ⟨(some 33), none, (.mov (.t 4))⟩,
            ⟨(some 34), none, (.build (.agg #[(.int .i64 0), (.string ⟨#[]⟩), (.int .i64 0), (.int .i64 0)]) [(0, (1, (.v (.int .i64 4)))), (2, (1, (.t 33)))])⟩,
            ⟨(some 35), none, (.call 51 [(.t 32), (.t 34)])⟩,
            ⟨(some 2), none, (.mov (.t 35))⟩,
            ⟨(some 3), none, (.mov (.v (.bool true)))⟩])
         .ret)))
         (.seq (.region false [] [
            ⟨(some 37), none, (.mov (.t 0))⟩,
            ⟨(some 38), none, (.call 50 [(.t 37), (.v (.string ⟨#[40]⟩))])⟩,
            ⟨(some 36), none, (.mov (.t 38))⟩])
         (.cond (.t 36)
           (.seq (.region false [] [
              ⟨(some 40), none, (.mov (.t 0))⟩,
              ⟨(some 41), none, (.call 43 [(.t 40)])⟩,
              ⟨(some 39), none, (.mov (.t 41))⟩,
              ⟨(some 42), none, (.ext 0 (.t 39))⟩,
              ⟨(some 43), none, (.ext 1 (.t 39))⟩,
              ⟨(some 6), none, (.mov (.t 42))⟩,
              ⟨(some 7), none, (.mov (.t 43))⟩])
           (.seq (.region false [] [
              ⟨(some 44), none, (.mov (.t 6))⟩,
              ⟨(some 45), none, (.mov (.t 7))⟩,
              ⟨(some 46), none, (.mov (.t 45))⟩,
              ⟨(some 47), (some (46, true)), (.mov (.t 0))⟩,
              ⟨(some 48), (some (46, true)), (.call 50 [(.t 47), (.v (.string ⟨#[41]⟩))])⟩,
              ⟨(some 49), none, (.pick (.t 46) (.t 48) (.v (.bool false)))⟩,
              ⟨(some 2), none, (.mov (.t 44))⟩,
              ⟨(some 3), none, (.mov (.t 49))⟩])
           .ret))
           .skip)))))))))
  (.seq (.seq (.region false [] [
     ⟨(some 50), none, (.mov (.t 0))⟩,
     ⟨(some 51), none, (.nilc (.t 50))⟩,
     ⟨(some 52), none, (.fld 0 (.t 51))⟩,
     ⟨(some 53), none, (.load 1 false (.t 52))⟩,
     ⟨(some 54), none, (.len (.t 53))⟩,
     ⟨(some 55), none, (.bin .lss 3 (.t 54) (.v (.int .i64 2)))⟩,
     ⟨(some 56), none, (.mov (.t 55))⟩,
     ⟨(some 57), (some (56, false)), (.mov (.t 0))⟩,
     ⟨(some 58), (some (56, false)), (.nilc (.t 57))⟩,
     ⟨(some 59), (some (56, false)), (.fld 0 (.t 58))⟩,
     ⟨(some 60), (some (56, false)), (.load 1 false (.t 59))⟩,
     ⟨(some 61), (some (56, false)), (.idx 1 (.t 60) (.v (.int .i64 0)))⟩,
     ⟨(some 62), (some (56, false)), (.load 1 false (.t 61))⟩,
     ⟨(some 63), (some (56, false)), (.bin .neq 9 (.t 62) (.v (.string ⟨#[111, 112, 101, 110]⟩)))⟩,
     ⟨(some 64), (some (56, false)), (.mov (.t 63))⟩,
     ⟨(some 65), (some (64, true)), (.mov (.t 0))⟩,
     ⟨(some 66), (some (64, true)), (.nilc (.t 65))⟩,
     ⟨(some 67), (some (64, true)), (.fld 0 (.t 66))⟩,
     ⟨(some 68), (some (64, true)), (.load 1 false (.t 67))⟩,
     ⟨(some 69), (some (64, true)), (.idx 1 (.t 68) (.v (.int .i64 0)))⟩,
     ⟨(some 70), (some (64, true)), (.load 1 false (.t 69))⟩,
     ⟨(some 71), (some (64, true)), (.bin .neq 9 (.t 70) (.v (.string ⟨#[99, 108, 111, 115, 101, 100]⟩)))⟩,
     ⟨(some 72), (some (56, false)), (.pick (.t 64) (.t 71) (.v (.bool false)))⟩,
     ⟨(some 73), none, (.pick (.t 56) (.v (.bool true)) (.t 72))⟩,
     ⟨(some 74), none, (.mov (.t 73))⟩,
     ⟨(some 75), (some (74, false)), (.mov (.t 0))⟩,
     ⟨(some 76), (some (74, false)), (.nilc (.t 75))⟩,
     ⟨(some 77), (some (74, false)), (.fld 0 (.t 76))⟩,
     ⟨(some 78), (some (74, false)), (.load 1 false (.t 77))⟩,
     ⟨(some 79), (some (74, false)), (.idx 1 (.t 78) (.v (.int .i64 1)))⟩,
     ⟨(some 80), (some (74, false)), (.load 1 false (.t 79))⟩,
     ⟨(some 81), (some (74, false)), (.call 34 [(.t 80)])⟩,
     ⟨(some 82), (some (74, false)), (.un .not (.t 81))⟩,
     ⟨(some 83), none, (.pick (.t 74) (.v (.bool true)) (.t 82))⟩])
  (.cond (.t 83)
    (.seq (.region false [] [
       ⟨(some 2), none, (.mov (.v (.int .i64 0)))⟩,
       ⟨(some 3), none, (.mov (.v (.bool false)))⟩])
    .ret)
    .skip))
  (.seq (.region false [] [
     ⟨(some 8), none, (.mov (.v (.int .i64 2)))⟩])
  (.seq (.seq (.region false [] [
     ⟨(some 84), none, (.mov (.t 0))⟩,
     ⟨(some 85), none, (.nilc (.t 84))⟩,
     ⟨(some 86), none, (.fld 0 (.t 85))⟩,
     ⟨(some 87), none, (.load 1 false (.t 86))⟩,
     ⟨(some 88), none, (.idx 1 (.t 87) (.v (.int .i64 0)))⟩,
     ⟨(some 89), none, (.load 1 false (.t 88))⟩,
     ⟨(some 90), none, (.bin .eql 9 (.t 89) (.v (.string ⟨#[99, 108, 111, 115, 101, 100]⟩)))⟩])
  (.cond (.t 90)
    (.region false [] [
       ⟨(some 8), none, (.mov (.v (.int .i64 3)))⟩])
    .skip))
  (.seq (.region false [] [
     ⟨(some 91), none, (.mov (.t 0))⟩,
     ⟨(some 92), none, (.nilc (.t 91))⟩,
     ⟨(some 93), none, (.fld 0 (.t 92))⟩,
     ⟨(some 94), none, (.load 1 false (.t 93))⟩,
     ⟨(some 95), none, (.idx 1 (.t 94) (.v (.int .i64 1)))⟩,
     ⟨(some 96), none, (.load 1 false (.t 95))⟩,
     ⟨(some 9), none, (.mov (.t 96))⟩])
  (.seq (.region false [] [
     ⟨(some 97), none, (.mov (.t 0))⟩,
     ⟨(some 98), none, (.mov (.t 0))⟩,
     ⟨(some 99), none, (.nilc (.t 98))⟩,
     ⟨(some 100), none, (.fld 0 (.t 99))⟩,
     ⟨(some 101), none, (.load 1 false (.t 100))⟩,
     ⟨(some 102), none, (.slc 1 (.t 101) (some (.v (.int .i64 2))) none none)⟩,
     ⟨(some 103), none, (.nilc (.t 97))⟩,
     ⟨(some 104), none, (.fld 0 (.t 103))⟩,
     ⟨none, none, (.store 1 (.t 104) (.t 102))⟩])
  (.seq (.region false [] [
     ⟨(some 105), none, (.mov (.t 0))⟩,
     ⟨(some 106), none, (.mov (.t 8))⟩,
     ⟨(some 107), none, (.mov (.t 9))⟩,
     ⟨(some 108), none, (.build (.agg #[(.int .i64 0), (.string ⟨#[]⟩), (.int .i64 0), (.int .i64 0)]) [(0, (1, (.t 106))), (1, (1, (.t 107)))])⟩,
     ⟨(some 109), none, (.call 51 [(.t 105), (.t 108)])⟩,
     ⟨(some 2), none, (.mov (.t 109))⟩,
     ⟨(some 3), none, (.mov (.v (.bool true)))⟩])
  .ret))))))))
theorem k56 : FnIs Tryd.prog 56 110 [.t 2, .t 3] a56 := ⟨_, _, Tryd.func56, rfl, by kernel_rfl, by kernel_rfl, rfl⟩
/- (*gridhall/interlock.reader).and -/
def a49 : ACode :=
  (.seq (.region false [] [
     ⟨(some 2), none, (.mov (.v (.int .i64 0)))⟩,
     ⟨(some 3), none, (.mov (.v (.bool false)))⟩])
  (.seq (.region false [] [
     ⟨(some 8), none, (.mov (.t 0))⟩,
     ⟨(some 9), none, (.call 56 [(.t 8)])⟩,
     ⟨(some 7), none, (.mov (.t 9))⟩,
     ⟨(some 10), none, (.ext 0 (.t 7))⟩,
     ⟨(some 11), none, (.ext 1 (.t 7))⟩,
     ⟨(some 4), none, (.mov (.t 10))⟩,
     ⟨(some 5), none, (.mov (.t 11))⟩])
  (.seq (.block 0 (.loop (.seq (.seq (.region false [] [
       ⟨(some 12), none, (.mov (.t 5))⟩,
       ⟨(some 13), none, (.mov (.t 12))⟩,
       ⟨(some 14), (some (13, true)), (.mov (.t 0))⟩,
       ⟨(some 15), (some (13, true)), (.call 50 [(.t 14), (.v (.string ⟨#[97, 110, 100]⟩))])⟩,
       ⟨(some 16), none, (.pick (.t 13) (.t 15) (.v (.bool false)))⟩])
    (.cond (.t 16)
      .skip
      (.exit 0)))
    (.block 1 (.seq (.region false [] [
        ⟨(some 6), none, (.mov (.v (.int .i64 0)))⟩])
     (.seq (.region false [] [
        ⟨(some 18), none, (.mov (.t 0))⟩,
        ⟨(some 19), none, (.call 56 [(.t 18)])⟩,
        ⟨(some 17), none, (.mov (.t 19))⟩,
        ⟨(some 20), none, (.ext 0 (.t 17))⟩,
        ⟨(some 21), none, (.ext 1 (.t 17))⟩,
        ⟨(some 6), none, (.mov (.t 20))⟩,
        ⟨(some 5), none, (.mov (.t 21))⟩])
     (.seq (.region false [] [
        ⟨(some 22), none, (.mov (.t 5))⟩])
     (.cond (.t 22)
       (.region false [] [
          ⟨(some 23), none, (.mov (.t 0))⟩,
          ⟨(some 24), none, (.mov (.t 4))⟩,
          ⟨(some 25), none, (.mov (.t 6))⟩,
          ⟨(some 26), none, (.build (.agg #[(.int .i64 0), (.string ⟨#[]⟩), (.int .i64 0), (.int .i64 0)]) [(0, (1, (.v (.int .i64 5)))), (2, (1, (.t 24))), (3, (1, (.t 25)))])⟩,
          ⟨(some 27), none, (.call 51 [(.t 23), (.t 26)])⟩,
          ⟨(some 4), none, (.mov (.t 27))⟩])
       .skip))))))))
  (.seq (.region false [] [
     ⟨(some 28), none, (.mov (.t 4))⟩,
     ⟨(some 29), none, (.mov (.t 5))⟩,
     ⟨(some 2), none, (.mov (.t 28))⟩,
     ⟨(some 3), none, (.mov (.t 29))⟩])
  .ret))))
theorem k49 : FnIs Tryd.prog 49 30 [.t 2, .t 3] a49 := ⟨_, _, Tryd.func49, rfl, by kernel_rfl, by kernel_rfl, rfl⟩
/- (*gridhall/interlock.reader).or -/
def a43 : ACode :=
  (.seq (.region false [] [
     ⟨(some 2), none, (.mov (.v (.int .i64 0)))⟩,
     ⟨(some 3), none, (.mov (.v (.bool false)))⟩])
  (.seq (.region false [] [
     ⟨(some 8), none, (.mov (.t 0))⟩,
     ⟨(some 9), none, (.call 49 [(.t 8)])⟩,
     ⟨(some 7), none, (.mov (.t 9))⟩,
     ⟨(some 10), none, (.ext 0 (.t 7))⟩,
     ⟨(some 11), none, (.ext 1 (.t 7))⟩,
     ⟨(some 4), none, (.mov (.t 10))⟩,
     ⟨(some 5), none, (.mov (.t 11))⟩])
  (.seq (.block 0 (.loop (.seq (.seq (.region false [] [
       ⟨(some 12), none, (.mov (.t 5))⟩,
       ⟨(some 13), none, (.mov (.t 12))⟩,
       ⟨(some 14), (some (13, true)), (.mov (.t 0))⟩,
       ⟨(some 15), (some (13, true)), (.call 50 [(.t 14), (.v (.string ⟨#[111, 114]⟩))])⟩,
       ⟨(some 16), none, (.pick (.t 13) (.t 15) (.v (.bool false)))⟩])
    (.cond (.t 16)
      .skip
      (.exit 0)))
    (.block 1 (.seq (.region false [] [
        ⟨(some 6), none, (.mov (.v (.int .i64 0)))⟩])
     (.seq (.region false [] [
        ⟨(some 18), none, (.mov (.t 0))⟩,
        ⟨(some 19), none, (.call 49 [(.t 18)])⟩,
        ⟨(some 17), none, (.mov (.t 19))⟩,
        ⟨(some 20), none, (.ext 0 (.t 17))⟩,
        ⟨(some 21), none, (.ext 1 (.t 17))⟩,
        ⟨(some 6), none, (.mov (.t 20))⟩,
        ⟨(some 5), none, (.mov (.t 21))⟩])
     (.seq (.region false [] [
        ⟨(some 22), none, (.mov (.t 5))⟩])
     (.cond (.t 22)
       (.region false [] [
          ⟨(some 23), none, (.mov (.t 0))⟩,
          ⟨(some 24), none, (.mov (.t 4))⟩,
          ⟨(some 25), none, (.mov (.t 6))⟩,
          ⟨(some 26), none, (.build (.agg #[(.int .i64 0), (.string ⟨#[]⟩), (.int .i64 0), (.int .i64 0)]) [(0, (1, (.v (.int .i64 6)))), (2, (1, (.t 24))), (3, (1, (.t 25)))])⟩,
          ⟨(some 27), none, (.call 51 [(.t 23), (.t 26)])⟩,
          ⟨(some 4), none, (.mov (.t 27))⟩])
       .skip))))))))
  (.seq (.region false [] [
     ⟨(some 28), none, (.mov (.t 4))⟩,
     ⟨(some 29), none, (.mov (.t 5))⟩,
     ⟨(some 2), none, (.mov (.t 28))⟩,
     ⟨(some 3), none, (.mov (.t 29))⟩])
  .ret))))
theorem k43 : FnIs Tryd.prog 43 30 [.t 2, .t 3] a43 := ⟨_, _, Tryd.func43, rfl, by kernel_rfl, by kernel_rfl, rfl⟩

abbrev rdR (fl : Bool) (ws : List ByteArray) (ns : List Nod) : List Reg := [.box 90 [.imm none fl 1 (ws.map sc), .hnd 1 0 ns.length ns.length false], .arr 54 4 (ns.map nc)]
/-- The next word is another one. -/
theorem take_no (fl : Bool) (ws : List ByteArray) (ns : List Nod) (w : ByteArray) (h : ∀ x, ws.head? = some x → (x.toList == w.toList) = false) (hl : ws.length ≤ 20000) :
    Aw.Spec Tryd.prog 50 (rdR fl ws ns) [.ptr 0 0 0, S w] (fun rg v => rg = rdR fl ws ns ∧ v = B false) := by
  refine Aw.Spec.of k50 rfl fun E hn hnp hp => ?_
  replace hnp : E.np = 2 := hnp
  unfold a50
  cases ws with
  | nil =>
    refine AWp.seq (AWp.ofD [] [] hn mixed rfl ?_)
    simp (config := { maxSteps := 2000000 }) only [go_sem, ↓reduceIte, Int.reduceToNat, Nat.reduceMul, Int.reduceBEq, Int.reduceBNe, Nat.reduceBEq, Nat.reduceAdd, Nat.reduceSub, Nat.reduceLeDiff, Nat.reduceEqDiff, Nat.reduceLT, reduceCtorEq]
    refine AWp.seq (AWp.seq (AWp.region (AWpL.upto 7 hn rfl ?_)))
    simp (config := { maxSteps := 2000000 }) only [go_sem, ↓reduceIte, Int.reduceToNat, Nat.reduceMul, Int.reduceBEq, Int.reduceBNe, Nat.reduceBEq, Nat.reduceAdd, Nat.reduceSub, Nat.reduceLeDiff, Nat.reduceEqDiff, Nat.reduceLT, reduceCtorEq, Int.natCast_zero]
    refine AWpL.skips hn 11 false 8 (by rfl) rfl ?_
    simp (config := { maxSteps := 2000000 }) only [go_sem, ↓reduceIte, Int.reduceToNat, Nat.reduceMul, Int.reduceBEq, Int.reduceBNe, Nat.reduceBEq, Nat.reduceAdd, Nat.reduceSub, Nat.reduceLeDiff, Nat.reduceEqDiff, Nat.reduceLT, reduceCtorEq]
    refine AWpL.weak (weak_ent 19 (y := .opt false (B false)) (by rfl) Ent.off) (AWpL.ofM hn rfl ?_)
    simp (config := { maxSteps := 2000000 }) only [go_sem, ↓reduceIte, Int.reduceToNat, Nat.reduceMul, Int.reduceBEq, Int.reduceBNe, Nat.reduceBEq, Nat.reduceAdd, Nat.reduceSub, Nat.reduceLeDiff, Nat.reduceEqDiff, Nat.reduceLT, reduceCtorEq]
    refine AWp.ofD [] [] hn mixed rfl ?_
    simp (config := { maxSteps := 2000000 }) only [go_sem, ↓reduceIte, Int.reduceToNat, Nat.reduceMul, Int.reduceBEq, Int.reduceBNe, Nat.reduceBEq, Nat.reduceAdd, Nat.reduceSub, Nat.reduceLeDiff, Nat.reduceEqDiff, Nat.reduceLT, reduceCtorEq]
    refine Retn.ret (π := [0, 1]) hp hnp ⟨rfl, ?_⟩
    simp (config := { maxSteps := 2000000 }) only [go_sem, ↓reduceIte, Int.reduceToNat, Nat.reduceMul, Int.reduceBEq, Int.reduceBNe, Nat.reduceBEq, Nat.reduceAdd, Nat.reduceSub, Nat.reduceLeDiff, Nat.reduceEqDiff, Nat.reduceLT, reduceCtorEq, Aw.renR, Aw.pos]
    rfl
  | cons x ws =>
    have hx := h x rfl
    have e1 : (((ws.length + 1 : Nat) : Int) == 0) = false := by rw [beq_eq_false_iff_ne]; omega
    refine AWp.ofD [] [] hn mixed rfl ?_
    simp (config := { maxSteps := 2000000 }) only [go_sem, ↓reduceIte, Int.reduceToNat, Nat.reduceMul, Int.reduceBEq, Int.reduceBNe, Nat.reduceBEq, Nat.reduceAdd, Nat.reduceSub, Nat.reduceLeDiff, Nat.reduceEqDiff, Nat.reduceLT, reduceCtorEq, e1, hx]
    (repeat (refine And.intro (by first | omega | (refine ⟨by omega, by omega⟩) | (refine ⟨by omega, by omega, by omega⟩) | (simp only [List.length_map, List.length_range, List.length_append, List.length_cons, List.length_nil, List.length_replicate, List.length_set]; omega) | (simp; omega) | (intro hgd; cases hgd) | (intro hgd; refine ⟨hgd, ?_⟩; first | omega | (refine ⟨by omega, by omega⟩) | (simp; omega))) ?_))
    refine Retn.ret (π := [0, 1]) hp hnp ⟨rfl, ?_⟩
    simp (config := { maxSteps := 2000000 }) only [go_sem, ↓reduceIte, Int.reduceToNat, Nat.reduceMul, Int.reduceBEq, Int.reduceBNe, Nat.reduceBEq, Nat.reduceAdd, Nat.reduceSub, Nat.reduceLeDiff, Nat.reduceEqDiff, Nat.reduceLT, reduceCtorEq, Aw.renR, Aw.pos]
    rfl
theorem s51 (fl : Bool) (ws : List ByteArray) (ns : List Nod) (x : Nod) (hl : ns.length ≤ 20000) :
    Aw.Spec Tryd.prog 51 (rdR fl ws ns) [.ptr 0 0 0, .agg (nc x)] (fun rg v => rg = rdR fl ws (ns ++ [x]) ∧ v = I ns.length) := by
  refine Aw.Spec.of k51 rfl fun E hn hnp hp => ?_
  replace hnp : E.np = 2 := hnp
  unfold a51
  refine AWp.ofD [] [] hn mixed rfl ?_
  simp (config := { maxSteps := 2000000 }) only [go_sem, ↓reduceIte, Int.reduceToNat, Nat.reduceMul, Int.reduceBEq, Int.reduceBNe, Nat.reduceBEq, Nat.reduceAdd, Nat.reduceSub, Nat.reduceLeDiff, Nat.reduceEqDiff, Nat.reduceLT, reduceCtorEq]
  have hap : ns.map nc ++ [nc x] = (ns ++ [x]).map nc := by rw [List.map_append]; rfl
  have hle : (ns ++ [x]).length = ns.length + 1 := by rw [List.length_append]; rfl
  have e1 : IntKind.i64.wrap (((ns.length + 1 : Nat) : Int) - 1) = ns.length := by rw [w64 (by omega) (by omega)]; omega
  refine AWp.cut ⟨[(0, .ptr 0 0 0)], rdR fl ws (ns ++ [x])⟩ ?_ ?_
  · refine AWp.plan (.take 1 [true, false, false, false, false, true, true, false, false, false, false] (.take 2 [true, true, false, false, false, true, true, false, false, false, false] (.take 3 [true, true, true, false, false, true, true, false, false, false, false] (.take 4 [true, true, true, true, false, true, true, false, false, false, false] (.take 5 [true, true, true, true, true, false, false, false, false, false, false] (.two 0 (.one 6 (.one 7 (.take 8 [true, true, true, true, true, true, true, true, false, false, false] (.take 9 [true, true, true, true, true, true, true, true, true, false, false] (.one 10 .done))))) 6 (.two 0 (.one 7 (.take 8 [true, true, true, true, true, true, true, true, false, false, false] (.take 9 [true, true, true, true, true, true, true, true, true, false, false] (.one 10 .done)))) 7 (.take 0 [false, true, true, true, true, true, true, true, false, false, false] (.take 8 [true, true, true, true, true, true, true, true, false, false, false] (.take 9 [true, true, true, true, true, true, true, true, true, false, false] (.one 10 .done))))))))))) [true, true, true, true, true, true, true, false, true, true, false] mixed hn rfl rfl ?_
    simp (config := { maxSteps := 2000000 }) only [go_sem, ↓reduceIte, Int.reduceToNat, Nat.reduceMul, Int.reduceBEq, Int.reduceBNe, Nat.reduceBEq, Nat.reduceAdd, Nat.reduceSub, Nat.reduceLeDiff, Nat.reduceEqDiff, Nat.reduceLT, reduceCtorEq]
    repeat' refine And.intro ?_ ?_
    all_goals
      refine AOne.rule (AWpL.app (r := 1) (els := ns.map nc) (ys := [nc x]) rfl rfl rfl rfl (by rw [hn]; rfl) (by simp) (hp.arr 1 rfl) (Nat.le_refl 1) (fun el hm y hy => by
        rw [List.mem_singleton.1 hm] at hy
        simp only [List.mem_cons, List.not_mem_nil, or_false] at hy
        rcases hy with rfl | rfl | rfl | rfl <;> rfl) (by simp only [List.length_cons, List.length_nil]; omega) (by simp only [List.length_cons, List.length_nil]; omega) (AWpL.ofM hn rfl ?_))
      simp (config := { maxSteps := 2000000 }) only [go_sem, ↓reduceIte, Int.reduceToNat, Nat.reduceMul, Int.reduceBEq, Int.reduceBNe, Nat.reduceBEq, Nat.reduceAdd, Nat.reduceSub, Nat.reduceLeDiff, Nat.reduceEqDiff, Nat.reduceLT, reduceCtorEq, hap]
      refine weak_to [0, 1] hp hnp rfl (by simp (config := { maxSteps := 2000000 }) only [go_sem, ↓reduceIte, Int.reduceToNat, Nat.reduceMul, Int.reduceBEq, Int.reduceBNe, Nat.reduceBEq, Nat.reduceAdd, Nat.reduceSub, Nat.reduceLeDiff, Nat.reduceEqDiff, Nat.reduceLT, reduceCtorEq, Aw.pos]) (by simp (config := { maxSteps := 2000000 }) only [go_sem, ↓reduceIte, Int.reduceToNat, Nat.reduceMul, Int.reduceBEq, Int.reduceBNe, Nat.reduceBEq, Nat.reduceAdd, Nat.reduceSub, Nat.reduceLeDiff, Nat.reduceEqDiff, Nat.reduceLT, reduceCtorEq, Aw.renR, Aw.pos]; rw [← hle])
  simp (config := { maxSteps := 2000000 }) only [go_sem, ↓reduceIte, Int.reduceToNat, Nat.reduceMul, Int.reduceBEq, Int.reduceBNe, Nat.reduceBEq, Nat.reduceAdd, Nat.reduceSub, Nat.reduceLeDiff, Nat.reduceEqDiff, Nat.reduceLT, reduceCtorEq, hle, e1]
  refine Retn.ret (π := [0, 1]) hp hnp ⟨rfl, ?_⟩
  simp (config := { maxSteps := 2000000 }) only [go_sem, ↓reduceIte, Int.reduceToNat, Nat.reduceMul, Int.reduceBEq, Int.reduceBNe, Nat.reduceBEq, Nat.reduceAdd, Nat.reduceSub, Nat.reduceLeDiff, Nat.reduceEqDiff, Nat.reduceLT, reduceCtorEq, Aw.renR, Aw.pos]
  (try rw [← hle])
/-- A simple condition: 'open' and a name. -/
def wOpen : ByteArray := ⟨#[111, 112, 101, 110]⟩
theorem s56 (ns : List Nod) (y : ByteArray) (hy : nm 8 y = true) (hys : y.size ≤ 9223372036854775807) (hl : ns.length ≤ 20000) (fl : Bool) :
    Aw.Spec Tryd.prog 56 (rdR fl [wOpen, y] ns) [.ptr 0 0 0] (fun rg v => rg = rdR false [] (ns ++ [⟨2, y, 0, 0⟩]) ∧ v = .tup [I ns.length, B true]) := by
  refine Aw.Spec.of k56 rfl fun E hn hnp hp => ?_
  replace hnp : E.np = 2 := hnp
  have pin1 := hp.arr 1 rfl
  have hpin : ∀ r ∈ [0, 1], isBox ((rdR fl [wOpen, y] ns).getD r .dead) = true ∨ E.pin r = none := fun r hr => by
    rcases List.mem_cons.1 hr with rfl | hr
    · exact .inl rfl
    · cases List.mem_singleton.1 hr; exact .inr pin1
  have tn : ∀ w : ByteArray, (wOpen.toList == w.toList) = false → Aw.Spec Tryd.prog 50 (rdR fl [wOpen, y] ns) [.ptr 0 0 0, S w] (fun rg v => rg = rdR fl [wOpen, y] ns ∧ v = B false) := fun w hw =>
    take_no fl [wOpen, y] ns w (fun x hx => by injection hx with hx; rw [← hx]; exact hw) (by simp)
  unfold a56
  refine AWp.ofD [] [] hn mixed rfl ?_
  simp (config := { maxSteps := 2000000 }) only [go_sem, ↓reduceIte, Int.reduceToNat, Nat.reduceMul, Int.reduceBEq, Int.reduceBNe, Nat.reduceBEq, Nat.reduceAdd, Nat.reduceSub, Nat.reduceLeDiff, Nat.reduceEqDiff, Nat.reduceLT, reduceCtorEq]
  refine AWpL.callA [0, 1] (tn ⟨#[97, 108, 119, 97, 121, 115]⟩ (by decide +kernel)) rfl rfl (by rw [hn]; rfl) rfl (fun r hr => hpin r hr) fun rg v hv => ?_
  obtain ⟨rfl, rfl⟩ := hv
  refine ⟨Nat.le_refl _, AWpL.ofM hn rfl ?_⟩
  simp (config := { maxSteps := 2000000 }) only [go_sem, ↓reduceIte, Int.reduceToNat, Nat.reduceMul, Int.reduceBEq, Int.reduceBNe, Nat.reduceBEq, Nat.reduceAdd, Nat.reduceSub, Nat.reduceLeDiff, Nat.reduceEqDiff, Nat.reduceLT, reduceCtorEq, Aw.retS, Aw.retRg, Aw.kpM, Aw.bkM, Aw.pos, Aw.isBox]
  refine AWpL.callA [0, 1] (tn ⟨#[110, 101, 118, 101, 114]⟩ (by decide +kernel)) rfl rfl (by rw [hn]; rfl) rfl (fun r hr => hpin r hr) fun rg v hv => ?_
  obtain ⟨rfl, rfl⟩ := hv
  refine ⟨Nat.le_refl _, AWpL.ofM hn rfl ?_⟩
  simp (config := { maxSteps := 2000000 }) only [go_sem, ↓reduceIte, Int.reduceToNat, Nat.reduceMul, Int.reduceBEq, Int.reduceBNe, Nat.reduceBEq, Nat.reduceAdd, Nat.reduceSub, Nat.reduceLeDiff, Nat.reduceEqDiff, Nat.reduceLT, reduceCtorEq, Aw.retS, Aw.retRg, Aw.kpM, Aw.bkM, Aw.pos, Aw.isBox]
  refine AWpL.callA [0, 1] (tn ⟨#[110, 111, 116]⟩ (by decide +kernel)) rfl rfl (by rw [hn]; rfl) rfl (fun r hr => hpin r hr) fun rg v hv => ?_
  obtain ⟨rfl, rfl⟩ := hv
  refine ⟨Nat.le_refl _, AWpL.ofM hn rfl ?_⟩
  simp (config := { maxSteps := 2000000 }) only [go_sem, ↓reduceIte, Int.reduceToNat, Nat.reduceMul, Int.reduceBEq, Int.reduceBNe, Nat.reduceBEq, Nat.reduceAdd, Nat.reduceSub, Nat.reduceLeDiff, Nat.reduceEqDiff, Nat.reduceLT, reduceCtorEq, Aw.retS, Aw.retRg, Aw.kpM, Aw.bkM, Aw.pos, Aw.isBox]
  refine AWpL.callA [0, 1] (tn ⟨#[40]⟩ (by decide +kernel)) rfl rfl (by rw [hn]; rfl) rfl (fun r hr => hpin r hr) fun rg v hv => ?_
  obtain ⟨rfl, rfl⟩ := hv
  refine ⟨Nat.le_refl _, AWpL.ofM hn rfl ?_⟩
  have d1 : decide (((2 : Nat) : Int) < 2) = false := by decide
  have d2 : (wOpen.toList == (ByteArray.mk #[111, 112, 101, 110]).toList) = true := by decide +kernel
  have d3 : (wOpen.toList == (ByteArray.mk #[99, 108, 111, 115, 101, 100]).toList) = false := by decide +kernel
  simp (config := { maxSteps := 2000000 }) only [go_sem, ↓reduceIte, Int.reduceToNat, Nat.reduceMul, Int.reduceBEq, Int.reduceBNe, Nat.reduceBEq, Nat.reduceAdd, Nat.reduceSub, Nat.reduceLeDiff, Nat.reduceEqDiff, Nat.reduceLT, reduceCtorEq, Aw.retS, Aw.retRg, Aw.kpM, Aw.bkM, Aw.pos, Aw.isBox, d1, d2, d3]
  (repeat (refine And.intro (by first | omega | (refine ⟨by omega, by omega⟩) | (refine ⟨by omega, by omega, by omega⟩) | (simp only [List.length_map, List.length_range, List.length_append, List.length_cons, List.length_nil, List.length_replicate, List.length_set]; omega) | (simp; omega) | (intro hgd; cases hgd) | (intro hgd; refine ⟨hgd, ?_⟩; first | omega | (refine ⟨by omega, by omega⟩) | (simp; omega))) ?_))
  (refine AWpL.gcalle (b := true) rfl (fun _ => (s34 y hys)) rfl (by rw [hn]; rfl) (fun _ => by simp (config := { maxSteps := 2000000 }) only [go_sem, ↓reduceIte, Int.reduceToNat, Nat.reduceMul, Int.reduceBEq, Int.reduceBNe, Nat.reduceBEq, Nat.reduceAdd, Nat.reduceSub, Nat.reduceLeDiff, Nat.reduceEqDiff, Nat.reduceLT, reduceCtorEq]) (AWpL.ofM hn rfl ?_); simp (config := { maxSteps := 2000000 }) only [go_sem, ↓reduceIte, Int.reduceToNat, Nat.reduceMul, Int.reduceBEq, Int.reduceBNe, Nat.reduceBEq, Nat.reduceAdd, Nat.reduceSub, Nat.reduceLeDiff, Nat.reduceEqDiff, Nat.reduceLT, reduceCtorEq])
  simp (config := { maxSteps := 2000000 }) only [go_sem, ↓reduceIte, Int.reduceToNat, Nat.reduceMul, Int.reduceBEq, Int.reduceBNe, Nat.reduceBEq, Nat.reduceAdd, Nat.reduceSub, Nat.reduceLeDiff, Nat.reduceEqDiff, Nat.reduceLT, reduceCtorEq, hy, d3]
  (repeat (refine And.intro (by first | omega | (refine ⟨by omega, by omega⟩) | (refine ⟨by omega, by omega, by omega⟩) | (simp only [List.length_map, List.length_range, List.length_append, List.length_cons, List.length_nil, List.length_replicate, List.length_set]; omega) | (simp; omega) | (intro hgd; cases hgd) | (intro hgd; refine ⟨hgd, ?_⟩; first | omega | (refine ⟨by omega, by omega⟩) | (simp; omega))) ?_))
  refine AWpL.callA [0, 1] (s51 false [] ns ⟨2, y, 0, 0⟩ hl) rfl rfl (by rw [hn]; rfl) rfl (fun r hr => by
    rcases List.mem_cons.1 hr with rfl | hr
    · exact .inl rfl
    · cases List.mem_singleton.1 hr; exact .inr pin1) fun rg v hv => ?_
  obtain ⟨rfl, rfl⟩ := hv
  refine ⟨Nat.le_refl _, AWpL.ofM hn rfl ?_⟩
  simp (config := { maxSteps := 2000000 }) only [go_sem, ↓reduceIte, Int.reduceToNat, Nat.reduceMul, Int.reduceBEq, Int.reduceBNe, Nat.reduceBEq, Nat.reduceAdd, Nat.reduceSub, Nat.reduceLeDiff, Nat.reduceEqDiff, Nat.reduceLT, reduceCtorEq, Aw.retS, Aw.retRg, Aw.kpM, Aw.bkM, Aw.pos, Aw.isBox]
  refine Retn.ret (π := [0, 1]) hp hnp ⟨rfl, ?_⟩
  simp (config := { maxSteps := 2000000 }) only [go_sem, ↓reduceIte, Int.reduceToNat, Nat.reduceMul, Int.reduceBEq, Int.reduceBNe, Nat.reduceBEq, Nat.reduceAdd, Nat.reduceSub, Nat.reduceLeDiff, Nat.reduceEqDiff, Nat.reduceLT, reduceCtorEq, Aw.renR, Aw.pos]
  rfl
theorem s49 (ns : List Nod) (y : ByteArray) (hy : nm 8 y = true) (hys : y.size ≤ 9223372036854775807) (hl : ns.length ≤ 20000) (fl : Bool) :
    Aw.Spec Tryd.prog 49 (rdR fl [wOpen, y] ns) [.ptr 0 0 0] (fun rg v => rg = rdR false [] (ns ++ [⟨2, y, 0, 0⟩]) ∧ v = .tup [I ns.length, B true]) := by
  refine Aw.Spec.of k49 rfl fun E hn hnp hp => ?_
  replace hnp : E.np = 2 := hnp
  have pin1 := hp.arr 1 rfl
  unfold a49
  refine AWp.ofD [] [] hn mixed rfl ?_
  simp (config := { maxSteps := 2000000 }) only [go_sem, ↓reduceIte, Int.reduceToNat, Nat.reduceMul, Int.reduceBEq, Int.reduceBNe, Nat.reduceBEq, Nat.reduceAdd, Nat.reduceSub, Nat.reduceLeDiff, Nat.reduceEqDiff, Nat.reduceLT, reduceCtorEq]
  refine AWpL.callA [0, 1] (s56 ns y hy hys hl fl) rfl rfl (by rw [hn]; rfl) rfl (fun r hr => by
    rcases List.mem_cons.1 hr with rfl | hr
    · exact .inl rfl
    · cases List.mem_singleton.1 hr; exact .inr pin1) fun rg v hv => ?_
  obtain ⟨rfl, rfl⟩ := hv
  refine ⟨Nat.le_refl _, AWpL.ofM hn rfl ?_⟩
  simp (config := { maxSteps := 2000000 }) only [go_sem, ↓reduceIte, Int.reduceToNat, Nat.reduceMul, Int.reduceBEq, Int.reduceBNe, Nat.reduceBEq, Nat.reduceAdd, Nat.reduceSub, Nat.reduceLeDiff, Nat.reduceEqDiff, Nat.reduceLT, reduceCtorEq, Aw.retS, Aw.retRg, Aw.kpM, Aw.bkM, Aw.pos, Aw.isBox]
  refine AWp.loop (fun k s => k = 0 ∧ Weak E s ⟨[(0, .ptr 0 0 0), (4, I ns.length), (5, B true)], rdR false [] (ns ++ [⟨2, y, 0, 0⟩])⟩) (n := 0)
    ⟨rfl, weak_to [0, 1] hp hnp rfl (by simp (config := { maxSteps := 2000000 }) only [go_sem, ↓reduceIte, Int.reduceToNat, Nat.reduceMul, Int.reduceBEq, Int.reduceBNe, Nat.reduceBEq, Nat.reduceAdd, Nat.reduceSub, Nat.reduceLeDiff, Nat.reduceEqDiff, Nat.reduceLT, reduceCtorEq, Aw.pos]) (by simp (config := { maxSteps := 2000000 }) only [go_sem, ↓reduceIte, Int.reduceToNat, Nat.reduceMul, Int.reduceBEq, Int.reduceBNe, Nat.reduceBEq, Nat.reduceAdd, Nat.reduceSub, Nat.reduceLeDiff, Nat.reduceEqDiff, Nat.reduceLT, reduceCtorEq, Aw.renR, Aw.pos]; rfl)⟩ ?_
  rintro k s ⟨rfl, hw⟩
  refine AWp.weak hw (AWp.ofD [] [] hn mixed rfl ?_)
  simp (config := { maxSteps := 2000000 }) only [go_sem, ↓reduceIte, Int.reduceToNat, Nat.reduceMul, Int.reduceBEq, Int.reduceBNe, Nat.reduceBEq, Nat.reduceAdd, Nat.reduceSub, Nat.reduceLeDiff, Nat.reduceEqDiff, Nat.reduceLT, reduceCtorEq]
  refine AWpL.guardT rfl (AWpL.weak (weak_opt 14 rfl) ?_)
  refine AWpL.callA [0, 1] (take_no false [] (ns ++ [⟨2, y, 0, 0⟩]) ⟨#[97, 110, 100]⟩ (fun x hx => by cases hx) (by decide)) rfl rfl (by rw [hn]; rfl) rfl (fun r hr => by
    rcases List.mem_cons.1 hr with rfl | hr
    · exact .inl rfl
    · cases List.mem_singleton.1 hr; exact .inr pin1) fun rg v hv => ?_
  obtain ⟨rfl, rfl⟩ := hv
  refine ⟨Nat.le_refl _, AWpL.ofM hn rfl ?_⟩
  simp (config := { maxSteps := 2000000 }) only [go_sem, ↓reduceIte, Int.reduceToNat, Nat.reduceMul, Int.reduceBEq, Int.reduceBNe, Nat.reduceBEq, Nat.reduceAdd, Nat.reduceSub, Nat.reduceLeDiff, Nat.reduceEqDiff, Nat.reduceLT, reduceCtorEq, Aw.retS, Aw.retRg, Aw.kpM, Aw.bkM, Aw.pos, Aw.isBox]
  refine Retn.ret (π := [0, 1]) hp hnp ⟨rfl, ?_⟩
  simp (config := { maxSteps := 2000000 }) only [go_sem, ↓reduceIte, Int.reduceToNat, Nat.reduceMul, Int.reduceBEq, Int.reduceBNe, Nat.reduceBEq, Nat.reduceAdd, Nat.reduceSub, Nat.reduceLeDiff, Nat.reduceEqDiff, Nat.reduceLT, reduceCtorEq, Aw.renR, Aw.pos]
  rfl

theorem s43 (ns : List Nod) (y : ByteArray) (hy : nm 8 y = true) (hys : y.size ≤ 9223372036854775807) (hl : ns.length ≤ 20000) (fl : Bool) :
    Aw.Spec Tryd.prog 43 (rdR fl [wOpen, y] ns) [.ptr 0 0 0] (fun rg v => rg = rdR false [] (ns ++ [⟨2, y, 0, 0⟩]) ∧ v = .tup [I ns.length, B true]) := by
  refine Aw.Spec.of k43 rfl fun E hn hnp hp => ?_
  replace hnp : E.np = 2 := hnp
  have pin1 := hp.arr 1 rfl
  unfold a43
  refine AWp.ofD [] [] hn mixed rfl ?_
  simp (config := { maxSteps := 2000000 }) only [go_sem, ↓reduceIte, Int.reduceToNat, Nat.reduceMul, Int.reduceBEq, Int.reduceBNe, Nat.reduceBEq, Nat.reduceAdd, Nat.reduceSub, Nat.reduceLeDiff, Nat.reduceEqDiff, Nat.reduceLT, reduceCtorEq]
  refine AWpL.callA [0, 1] (s49 ns y hy hys hl fl) rfl rfl (by rw [hn]; rfl) rfl (fun r hr => by
    rcases List.mem_cons.1 hr with rfl | hr
    · exact .inl rfl
    · cases List.mem_singleton.1 hr; exact .inr pin1) fun rg v hv => ?_
  obtain ⟨rfl, rfl⟩ := hv
  refine ⟨Nat.le_refl _, AWpL.ofM hn rfl ?_⟩
  simp (config := { maxSteps := 2000000 }) only [go_sem, ↓reduceIte, Int.reduceToNat, Nat.reduceMul, Int.reduceBEq, Int.reduceBNe, Nat.reduceBEq, Nat.reduceAdd, Nat.reduceSub, Nat.reduceLeDiff, Nat.reduceEqDiff, Nat.reduceLT, reduceCtorEq, Aw.retS, Aw.retRg, Aw.kpM, Aw.bkM, Aw.pos, Aw.isBox]
  refine AWp.loop (fun k s => k = 0 ∧ Weak E s ⟨[(0, .ptr 0 0 0), (4, I ns.length), (5, B true)], rdR false [] (ns ++ [⟨2, y, 0, 0⟩])⟩) (n := 0)
    ⟨rfl, weak_to [0, 1] hp hnp rfl (by simp (config := { maxSteps := 2000000 }) only [go_sem, ↓reduceIte, Int.reduceToNat, Nat.reduceMul, Int.reduceBEq, Int.reduceBNe, Nat.reduceBEq, Nat.reduceAdd, Nat.reduceSub, Nat.reduceLeDiff, Nat.reduceEqDiff, Nat.reduceLT, reduceCtorEq, Aw.pos]) (by simp (config := { maxSteps := 2000000 }) only [go_sem, ↓reduceIte, Int.reduceToNat, Nat.reduceMul, Int.reduceBEq, Int.reduceBNe, Nat.reduceBEq, Nat.reduceAdd, Nat.reduceSub, Nat.reduceLeDiff, Nat.reduceEqDiff, Nat.reduceLT, reduceCtorEq, Aw.renR, Aw.pos]; rfl)⟩ ?_
  rintro k s ⟨rfl, hw⟩
  refine AWp.weak hw (AWp.ofD [] [] hn mixed rfl ?_)
  simp (config := { maxSteps := 2000000 }) only [go_sem, ↓reduceIte, Int.reduceToNat, Nat.reduceMul, Int.reduceBEq, Int.reduceBNe, Nat.reduceBEq, Nat.reduceAdd, Nat.reduceSub, Nat.reduceLeDiff, Nat.reduceEqDiff, Nat.reduceLT, reduceCtorEq]
  refine AWpL.guardT rfl (AWpL.weak (weak_opt 14 rfl) ?_)
  refine AWpL.callA [0, 1] (take_no false [] (ns ++ [⟨2, y, 0, 0⟩]) ⟨#[111, 114]⟩ (fun x hx => by cases hx) (by decide)) rfl rfl (by rw [hn]; rfl) rfl (fun r hr => by
    rcases List.mem_cons.1 hr with rfl | hr
    · exact .inl rfl
    · cases List.mem_singleton.1 hr; exact .inr pin1) fun rg v hv => ?_
  obtain ⟨rfl, rfl⟩ := hv
  refine ⟨Nat.le_refl _, AWpL.ofM hn rfl ?_⟩
  simp (config := { maxSteps := 2000000 }) only [go_sem, ↓reduceIte, Int.reduceToNat, Nat.reduceMul, Int.reduceBEq, Int.reduceBNe, Nat.reduceBEq, Nat.reduceAdd, Nat.reduceSub, Nat.reduceLeDiff, Nat.reduceEqDiff, Nat.reduceLT, reduceCtorEq, Aw.retS, Aw.retRg, Aw.kpM, Aw.bkM, Aw.pos, Aw.isBox]
  refine Retn.ret (π := [0, 1]) hp hnp ⟨rfl, ?_⟩
  simp (config := { maxSteps := 2000000 }) only [go_sem, ↓reduceIte, Int.reduceToNat, Nat.reduceMul, Int.reduceBEq, Int.reduceBNe, Nat.reduceBEq, Nat.reduceAdd, Nat.reduceSub, Nat.reduceLeDiff, Nat.reduceEqDiff, Nat.reduceLT, reduceCtorEq, Aw.renR, Aw.pos]
  rfl

end Go.Proofs.YtocghkacngoblaaDoor
