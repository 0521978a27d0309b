/- Upkeep: tasks, and what upkeep.Check computes. -/
import Derived.Test.YtncfffplnmlnfaaAwZf
import Derived.Test.YtncfffplnmlnfaaLibA
set_option linter.unusedVariables false
set_option linter.unusedSimpArgs false
namespace Go.Proofs.Ytncfffplnmlnfaa
open Go.Proofs.Ytncfffplnmlnfaa.Aw
attribute [local go_sem] Int.natCast_zero Int.natCast_one bne_self_eq_false beq_self_eq_true Bool.not_true Bool.not_false Option.isSome_none Option.isSome_some Aw.bkM_nil Option.getD_some Option.getD_none Nat.sub_zero Int.toNat_zero Aw.frzS Aw.frzT Aw.frzA Aw.frzL Aw.frzR Aw.frzO Aw.frzOL Aw.frzOT Aw.frzOR Aw.killS Aw.mapT Aw.mapR Aw.killM Aw.resAVs Aw.resAV Aw.quietOps Aw.wpP Aw.wpT Aw.wpS Aw.AOp.mild List.getElem?_cons_zero List.getElem?_cons_succ Bool.and_false Bool.and_self Bool.false_and Aw.opOb Aw.gdB Aw.Rnd Aw.subTm List.length_map Int.toNat_natCast and_self Aw.SeqC Aw.stops Aw.Ends Aw.looks Aw.renA Aw.renL Aw.renT Aw.renS Aw.wpO Aw.aop Aw.putTm Aw.St.ev Aw.St.put Aw.St.putO Aw.binAV Aw.intBin Aw.strBin Aw.pickAV Aw.optInt Aw.AV.strip Aw.AV.guard Aw.AV.cells Aw.gdOb Aw.AOp.opds Aw.AOp.still Aw.ptrCells Aw.St.reg Aw.fillAV Aw.fillOb Aw.elsOb Aw.splice Aw.firm Aw.cellish Aw.AV.shut Aw.shutAll Aw.Seq Aw.Blk Aw.retS_nil Aw.mapA Aw.mapL Aw.borA Aw.borOb Aw.allOb Aw.tupOf Aw.params Aw.Opd.of Array.toList Value.cells List.map_cons List.map_nil List.getD_cons_zero List.getD_cons_succ List.getD_nil List.length_cons List.length_nil List.take_succ_cons List.take_zero List.take_nil List.drop_zero List.drop_succ_cons List.drop_nil List.set_cons_zero List.set_cons_succ List.append_nil List.nil_append List.cons_append List.all_cons List.all_nil cond_false cond_true if_true if_false true_and and_true Bool.and_true Bool.true_and Option.map_some Option.map_none false_implies forall_const implies_true forall_eq imp_self Bool.cond_false_right Bool.cond_true_left beq_true beq_false Bool.not_eq_true' Bool.false_eq_true Nat.zero_add Nat.add_zero Aw.eqCells Aw.exactCap Aw.overEls Aw.revealS Aw.srcEls Aw.srcSz
attribute [local go_sem ↓] Aw.look_nil Aw.look_ite Aw.wpL_nil Aw.wpL_op Aw.wpL_gd Aw.wpQ_nil Aw.wpQ_op Aw.wpQ_gd Aw.wpC_draw Aw.wpC_reg Aw.wpC_skip Aw.wpC_ret Aw.wpC_exit Aw.wpC_seq Aw.wpC_block Aw.wpC_loop Aw.wpC_cond Aw.stopAt_nil Aw.stopAt_cons Aw.wpD_skip Aw.wpD_ret Aw.wpD_exit Aw.wpD_region Aw.wpD_draw Aw.wpM_nil Aw.wpM_op Aw.wpM_gd Aw.wpD_seq Aw.wpD_block Aw.wpD_loop Aw.wpD_cond

/- gridhall/upkeep.Check -/
def a12 : ACode :=
  (.seq (.region false [] [
     ⟨(some 1), none, (.box 25 (.t 0))⟩,
     ⟨(some 2), none, (.mov (.v (.int .i64 0)))⟩])
  (.seq (.block 0 (.seq (.region false [] [
      ⟨(some 8), none, (.fld 0 (.t 1))⟩,
      ⟨(some 9), none, (.load 1 false (.t 8))⟩,
      ⟨(some 10), none, (.len (.t 9))⟩,
      ⟨(some 11), none, (.bin .gtr 3 (.t 10) (.v (.int .i64 6)))⟩,
      ⟨(some 12), none, (.mov (.t 11))⟩,
      ⟨(some 13), (some (12, false)), (.fld 1 (.t 1))⟩,
      ⟨(some 14), (some (12, false)), (.load 1 false (.t 13))⟩,
      ⟨(some 15), (some (12, false)), (.len (.t 14))⟩,
      ⟨(some 16), (some (12, false)), (.bin .gtr 3 (.t 15) (.v (.int .i64 256)))⟩,
      ⟨(some 17), none, (.pick (.t 12) (.v (.bool true)) (.t 16))⟩,
      ⟨(some 7), none, (.mov (.t 17))⟩])
   (.cond (.t 7)
     (.seq (.region false [] [
        ⟨(some 2), none, (.mov (.v (.int .i64 2)))⟩])
     .ret)
     (.seq (.region false [] [
        ⟨(some 19), none, (.fld 2 (.t 1))⟩,
        ⟨(some 20), none, (.load 1 false (.t 19))⟩,
        ⟨(some 21), none, (.bin .lss 3 (.t 20) (.v (.int .i64 1)))⟩,
        ⟨(some 22), none, (.mov (.t 21))⟩,
        ⟨(some 23), (some (22, false)), (.fld 2 (.t 1))⟩,
        ⟨(some 24), (some (22, false)), (.load 1 false (.t 23))⟩,
        ⟨(some 25), (some (22, false)), (.bin .gtr 3 (.t 24) (.v (.int .i64 6)))⟩,
        ⟨(some 26), none, (.pick (.t 22) (.v (.bool true)) (.t 25))⟩,
        ⟨(some 18), none, (.mov (.t 26))⟩])
     (.cond (.t 18)
       (.seq (.region false [] [
          ⟨(some 2), none, (.mov (.v (.int .i64 4)))⟩])
       .ret)
       .skip)))))
  (.seq (.seq (.region false [] [
     ⟨(some 27), none, (.fld 0 (.t 1))⟩,
     ⟨(some 28), none, (.load 1 false (.t 27))⟩,
     ⟨(some 29), none, (.len (.t 28))⟩,
     ⟨(some 30), none, (.mov (.v (.int .i64 0)))⟩])
  (.block 1 (.loop (.seq (.region false [] [
       ⟨(some 31), none, (.bin .lss 3 (.t 30) (.t 29))⟩])
    (.seq (.cond (.t 31)
      .skip
      (.exit 1))
    (.seq (.block 2 (.seq (.region false [] [
        ⟨(some 32), none, (.mov (.t 30))⟩,
        ⟨(some 33), none, (.idx 5 (.t 28) (.t 30))⟩,
        ⟨(some 34), none, (.load 5 true (.t 33))⟩,
        ⟨(some 4), none, (.alloc 38 (.agg #[(.string ⟨#[]⟩), (.int .i64 0), (.int .i64 0), (.int .i64 0), (.int .i64 0)]))⟩,
        ⟨(some 3), none, (.mov (.t 32))⟩,
        ⟨none, none, (.store 5 (.t 4) (.t 34))⟩])
     (.block 3 (.seq (.region false [] [
         ⟨(some 36), none, (.fld 0 (.t 4))⟩,
         ⟨(some 37), none, (.load 1 false (.t 36))⟩,
         ⟨(some 38), none, (.call 17 [(.t 37)])⟩,
         ⟨(some 39), none, (.un .not (.t 38))⟩,
         ⟨(some 35), none, (.mov (.t 39))⟩])
      (.cond (.t 35)
        (.seq (.region false [] [
           ⟨(some 2), none, (.mov (.v (.int .i64 6)))⟩])
        .ret)
        (.seq (.region false [] [
           ⟨(some 41), none, (.fld 0 (.t 1))⟩,
           ⟨(some 42), none, (.load 1 false (.t 41))⟩,
           ⟨(some 43), none, (.mov (.t 3))⟩,
           ⟨(some 44), none, (.slc 5 (.t 42) none (some (.t 43)) none)⟩,
           ⟨(some 45), none, (.mkfn 19 [(.t 4)])⟩,
           ⟨(some 46), none, (.call 18 [(.t 44), (.t 45)])⟩,
           ⟨(some 40), none, (.mov (.t 46))⟩])
        (.cond (.t 40)
          (.seq (.region false [] [
             ⟨(some 2), none, (.mov (.v (.int .i64 7)))⟩])
          .ret)
          (.seq (.region false [] [
             ⟨(some 48), none, (.fld 1 (.t 4))⟩,
             ⟨(some 49), none, (.load 1 false (.t 48))⟩,
             ⟨(some 50), none, (.bin .lss 3 (.t 49) (.v (.int .i64 1)))⟩,
             ⟨(some 51), none, (.mov (.t 50))⟩,
             ⟨(some 52), (some (51, false)), (.fld 1 (.t 4))⟩,
             ⟨(some 53), (some (51, false)), (.load 1 false (.t 52))⟩,
             ⟨(some 54), (some (51, false)), (.bin .gtr 3 (.t 53) (.v (.int .i64 60)))⟩,
             ⟨(some 55), none, (.pick (.t 51) (.v (.bool true)) (.t 54))⟩,
             ⟨(some 56), none, (.mov (.t 55))⟩,
             ⟨(some 57), (some (56, false)), (.fld 2 (.t 4))⟩,
             ⟨(some 58), (some (56, false)), (.load 1 false (.t 57))⟩,
             ⟨(some 59), (some (56, false)), (.bin .lss 3 (.t 58) (.v (.int .i64 0)))⟩,
             ⟨(some 60), none, (.pick (.t 56) (.v (.bool true)) (.t 59))⟩,
             ⟨(some 61), none, (.mov (.t 60))⟩,
             ⟨(some 62), (some (61, false)), (.fld 3 (.t 4))⟩,
             ⟨(some 63), (some (61, false)), (.load 1 false (.t 62))⟩,
             ⟨(some 64), (some (61, false)), (.bin .gtr 3 (.t 63) (.v (.int .i64 60)))⟩,
             ⟨(some 65), none, (.pick (.t 61) (.v (.bool true)) (.t 64))⟩,
             ⟨(some 66), none, (.mov (.t 65))⟩,
             ⟨(some 67), (some (66, false)), (.fld 2 (.t 4))⟩,
             ⟨(some 68), (some (66, false)), (.load 1 false (.t 67))⟩,
             ⟨(some 69), (some (66, false)), (.fld 3 (.t 4))⟩,
             ⟨(some 70), (some (66, false)), (.load 1 false (.t 69))⟩,
             ⟨(some 71), (some (66, false)), (.bin .gtr 3 (.t 68) (.t 70))⟩,
             ⟨(some 72), none, (.pick (.t 66) (.v (.bool true)) (.t 71))⟩,
             ⟨(some 73), none, (.mov (.t 72))⟩,
             ⟨(some 74), (some (73, false)), (.fld 3 (.t 4))⟩,
             ⟨(some 75), (some (73, false)), (.load 1 false (.t 74))⟩,
             ⟨(some 76), (some (73, false)), (.fld 2 (.t 4))⟩,
             ⟨(some 77), (some (73, false)), (.load 1 false (.t 76))⟩,
             ⟨(some 78), (some (73, false)), (.bin .sub 3 (.t 75) (.t 77))⟩,
             ⟨(some 79), (some (73, false)), (.bin .geq 3 (.t 78) (.v (.int .i64 12)))⟩,
             ⟨(some 80), none, (.pick (.t 73) (.v (.bool true)) (.t 79))⟩,
             ⟨(some 81), none, (.mov (.t 80))⟩,
             ⟨(some 82), (some (81, false)), (.fld 4 (.t 4))⟩,
             ⟨(some 83), (some (81, false)), (.load 1 false (.t 82))⟩,
             ⟨(some 84), (some (81, false)), (.bin .lss 3 (.t 83) (.v (.int .i64 0)))⟩,
             ⟨(some 85), none, (.pick (.t 81) (.v (.bool true)) (.t 84))⟩,
             ⟨(some 86), none, (.mov (.t 85))⟩,
             ⟨(some 87), (some (86, false)), (.fld 4 (.t 4))⟩,
             ⟨(some 88), (some (86, false)), (.load 1 false (.t 87))⟩,
             ⟨(some 89), (some (86, false)), (.bin .gtr 3 (.t 88) (.v (.int .i64 1000)))⟩,
             ⟨(some 90), none, (.pick (.t 86) (.v (.bool true)) (.t 89))⟩,
             ⟨(some 47), none, (.mov (.t 90))⟩])
          (.cond (.t 47)
            (.seq (.region false [] [
               ⟨(some 2), none, (.mov (.v (.int .i64 4)))⟩])
            .ret)
            .skip)))))))))
    (.region false [] [
       ⟨(some 91), none, (.bin .add 3 (.t 30) (.v (.int .i64 1)))⟩,
       ⟨(some 30), none, (.mov (.t 91))⟩])))))))
  (.seq (.seq (.region false [] [
     ⟨(some 92), none, (.fld 1 (.t 1))⟩,
     ⟨(some 93), none, (.load 1 false (.t 92))⟩,
     ⟨(some 94), none, (.len (.t 93))⟩,
     ⟨(some 95), none, (.mov (.v (.int .i64 0)))⟩])
  (.block 4 (.loop (.seq (.region false [] [
       ⟨(some 96), none, (.bin .lss 3 (.t 95) (.t 94))⟩])
    (.seq (.cond (.t 96)
      .skip
      (.exit 4))
    (.seq (.block 5 (.seq (.region false [] [
        ⟨(some 97), none, (.idx 2 (.t 93) (.t 95))⟩,
        ⟨(some 98), none, (.load 2 true (.t 97))⟩,
        ⟨(some 6), none, (.alloc 44 (.agg #[(.int .i64 0), (.int .i64 0)]))⟩,
        ⟨none, none, (.store 2 (.t 6) (.t 98))⟩])
     (.seq (.seq (.region false [] [
        ⟨(some 99), none, (.idxa 2 1 (.t 6) (.v (.int .i64 0)))⟩,
        ⟨(some 100), none, (.load 1 false (.t 99))⟩,
        ⟨(some 101), none, (.idxa 2 1 (.t 6) (.v (.int .i64 1)))⟩,
        ⟨(some 102), none, (.load 1 false (.t 101))⟩,
        ⟨(some 103), none, (.mni (.t 100) (.t 102))⟩,
        ⟨(some 104), none, (.bin .lss 3 (.t 103) (.v (.int .i64 0)))⟩,
        ⟨(some 105), none, (.mov (.t 104))⟩,
        ⟨(some 106), (some (105, false)), (.idxa 2 1 (.t 6) (.v (.int .i64 0)))⟩,
        ⟨(some 107), (some (105, false)), (.load 1 false (.t 106))⟩,
        ⟨(some 108), (some (105, false)), (.idxa 2 1 (.t 6) (.v (.int .i64 1)))⟩,
        ⟨(some 109), (some (105, false)), (.load 1 false (.t 108))⟩,
        ⟨(some 110), (some (105, false)), (.mxi (.t 107) (.t 109))⟩,
        ⟨(some 111), (some (105, false)), (.fld 0 (.t 1))⟩,
        ⟨(some 112), (some (105, false)), (.load 1 false (.t 111))⟩,
        ⟨(some 113), (some (105, false)), (.len (.t 112))⟩,
        ⟨(some 114), (some (105, false)), (.bin .geq 3 (.t 110) (.t 113))⟩,
        ⟨(some 115), none, (.pick (.t 105) (.v (.bool true)) (.t 114))⟩])
     (.cond (.t 115)
       (.seq (.region false [] [
          ⟨(some 2), none, (.mov (.v (.int .i64 8)))⟩])
       .ret)
       .skip))
     (.seq (.region false [] [
        ⟨(some 116), none, (.idxa 2 1 (.t 6) (.v (.int .i64 0)))⟩,
        ⟨(some 117), none, (.load 1 false (.t 116))⟩,
        ⟨(some 118), none, (.idxa 2 1 (.t 6) (.v (.int .i64 1)))⟩,
        ⟨(some 119), none, (.load 1 false (.t 118))⟩,
        ⟨(some 120), none, (.bin .eql 3 (.t 117) (.t 119))⟩])
     (.cond (.t 120)
       (.seq (.region false [] [
          ⟨(some 2), none, (.mov (.v (.int .i64 3)))⟩])
       .ret)
       .skip)))))
    (.region false [] [
       ⟨(some 121), none, (.bin .add 3 (.t 95) (.v (.int .i64 1)))⟩,
       ⟨(some 95), none, (.mov (.t 121))⟩])))))))
  (.seq (.region false [] [
     ⟨(some 2), none, (.mov (.v (.int .i64 0)))⟩])
  .ret)))))
theorem k12 : FnIs Try.prog 12 122 [.t 2] a12 := ⟨_, _, Try.func12, rfl, by kernel_rfl, by kernel_rfl, rfl⟩
/- gridhall/upkeep.Check$1 -/
def a19 : ACode :=
  (.seq (.region false [] [
     ⟨(some 2), none, (.box 38 (.t 0))⟩,
     ⟨(some 3), none, (.mov (.v (.bool false)))⟩])
  (.seq (.region false [] [
     ⟨(some 4), none, (.fld 0 (.t 2))⟩,
     ⟨(some 5), none, (.load 1 false (.t 4))⟩,
     ⟨(some 6), none, (.fld 0 (.t 1))⟩,
     ⟨(some 7), none, (.load 1 false (.t 6))⟩,
     ⟨(some 8), none, (.bin .eql 9 (.t 5) (.t 7))⟩,
     ⟨(some 3), none, (.mov (.t 8))⟩])
  .ret))
theorem k19 : FnIs Try.prog 19 9 [.t 3] a19 := ⟨_, _, Try.func19, rfl, by kernel_rfl, by kernel_rfl, rfl⟩
/- gridhall/upkeep.named -/
def a17 : ACode :=
  (.seq (.region false [] [
     ⟨(some 2), none, (.mov (.v (.bool false)))⟩])
  (.seq (.seq (.region false [] [
     ⟨(some 5), none, (.mov (.t 0))⟩,
     ⟨(some 6), none, (.stb 5 (.t 5))⟩,
     ⟨(some 7), none, (.len (.t 6))⟩,
     ⟨(some 8), none, (.mov (.v (.int .i64 0)))⟩])
  (.block 0 (.loop (.seq (.region false [] [
       ⟨(some 9), none, (.bin .lss 3 (.t 8) (.t 7))⟩])
    (.seq (.cond (.t 9)
      .skip
      (.exit 0))
    (.seq (.block 1 (.seq (.region false [] [
        ⟨(some 10), none, (.mov (.t 8))⟩,
        ⟨(some 11), none, (.idx 1 (.t 6) (.t 8))⟩,
        ⟨(some 12), none, (.load 1 false (.t 11))⟩,
        ⟨(some 3), none, (.mov (.t 10))⟩,
        ⟨(some 4), none, (.mov (.t 12))⟩])
     (.seq (.region false [] [
        ⟨(some 13), none, (.mov (.t 4))⟩,
        ⟨(some 14), none, (.bin .geq 5 (.t 13) (.v (.int .u8 65)))⟩,
        ⟨(some 15), none, (.mov (.t 14))⟩,
        ⟨(some 16), (some (15, true)), (.mov (.t 4))⟩,
        ⟨(some 17), (some (15, true)), (.bin .leq 5 (.t 16) (.v (.int .u8 90)))⟩,
        ⟨(some 18), none, (.pick (.t 15) (.t 17) (.v (.bool false)))⟩,
        ⟨(some 19), none, (.mov (.t 18))⟩,
        ⟨(some 20), (some (19, false)), (.mov (.t 3))⟩,
        ⟨(some 21), (some (19, false)), (.bin .gtr 3 (.t 20) (.v (.int .i64 0)))⟩,
        ⟨(some 22), (some (19, false)), (.mov (.t 21))⟩,
        ⟨(some 23), (some (22, true)), (.mov (.t 4))⟩,
        ⟨(some 24), (some (22, true)), (.bin .geq 5 (.t 23) (.v (.int .u8 48)))⟩,
        ⟨(some 25), (some (19, false)), (.pick (.t 22) (.t 24) (.v (.bool false)))⟩,
        ⟨(some 26), (some (19, false)), (.mov (.t 25))⟩,
        ⟨(some 27), (some (26, true)), (.mov (.t 4))⟩,
        ⟨(some 28), (some (26, true)), (.bin .leq 5 (.t 27) (.v (.int .u8 57)))⟩,
        ⟨(some 29), (some (19, false)), (.pick (.t 26) (.t 28) (.v (.bool false)))⟩,
        ⟨(some 30), none, (.pick (.t 19) (.v (.bool true)) (.t 29))⟩,
        ⟨(some 31), none, (.un .not (.t 30))⟩])
     (.cond (.t 31)
       (.seq (.region false [] [
          ⟨(some 2), none, (.mov (.v (.bool false)))⟩])
       .ret)
       .skip))))
    (.region false [] [
       ⟨(some 32), none, (.bin .add 3 (.t 8) (.v (.int .i64 1)))⟩,
       ⟨(some 8), none, (.mov (.t 32))⟩])))))))
  (.seq (.region false [] [
     ⟨(some 33), none, (.mov (.t 0))⟩,
     ⟨(some 34), none, (.bin .neq 9 (.t 33) (.v (.string ⟨#[]⟩)))⟩,
     ⟨(some 35), none, (.mov (.t 34))⟩,
     ⟨(some 36), (some (35, true)), (.mov (.t 0))⟩,
     ⟨(some 37), (some (35, true)), (.lens (.t 36))⟩,
     ⟨(some 38), (some (35, true)), (.bin .leq 3 (.t 37) (.v (.int .i64 8)))⟩,
     ⟨(some 39), none, (.pick (.t 35) (.t 38) (.v (.bool false)))⟩,
     ⟨(some 2), none, (.mov (.t 39))⟩])
  .ret)))
theorem k17 : FnIs Try.prog 17 40 [.t 2] a17 := ⟨_, _, Try.func17, rfl, by kernel_rfl, by kernel_rfl, rfl⟩
/- slices.ContainsFunc[[]gridhall/api.UpkeepJob,gridhall/api.UpkeepJob] -/
def a18 : ACode :=
  (.seq (.region false [] [
     ⟨(some 4), none, (.mov (.v (.bool false)))⟩])
  (.seq (.region false [] [
     ⟨(some 5), none, (.mov (.t 0))⟩,
     ⟨(some 6), none, (.mov (.t 1))⟩,
     ⟨(some 7), none, (.call 22 [(.t 5), (.t 6)])⟩,
     ⟨(some 8), none, (.bin .geq 3 (.t 7) (.v (.int .i64 0)))⟩,
     ⟨(some 4), none, (.mov (.t 8))⟩])
  .ret))
theorem k18 : FnIs Try.prog 18 9 [.t 4] a18 := ⟨_, _, Try.func18, rfl, by kernel_rfl, by kernel_rfl, rfl⟩
/- slices.IndexFunc[[]gridhall/api.UpkeepJob,gridhall/api.UpkeepJob] -/
def a22 : ACode :=
  (.seq (.region false [] [
     ⟨(some 4), none, (.mov (.v (.int .i64 0)))⟩])
  (.seq (.seq (.region false [] [
     ⟨(some 6), none, (.mov (.t 0))⟩,
     ⟨(some 7), none, (.len (.t 6))⟩,
     ⟨(some 8), none, (.mov (.v (.int .i64 0)))⟩])
  (.block 0 (.loop (.seq (.region false [] [
       ⟨(some 9), none, (.bin .lss 3 (.t 8) (.t 7))⟩])
    (.seq (.cond (.t 9)
      .skip
      (.exit 0))
    (.seq (.block 1 (.seq (.region false [] [
        ⟨(some 10), none, (.mov (.t 8))⟩,
        ⟨(some 5), none, (.mov (.t 10))⟩])
     (.seq (.region false [] [
        ⟨(some 11), none, (.mov (.t 1))⟩,
        ⟨(some 12), none, (.mov (.t 0))⟩,
        ⟨(some 13), none, (.mov (.t 5))⟩,
        ⟨(some 14), none, (.idx 5 (.t 12) (.t 13))⟩,
        ⟨(some 15), none, (.load 5 true (.t 14))⟩,
        ⟨(some 16), none, (.callv (.t 11) [(.t 15)])⟩])
     (.cond (.t 16)
       (.seq (.region false [] [
          ⟨(some 17), none, (.mov (.t 5))⟩,
          ⟨(some 4), none, (.mov (.t 17))⟩])
       .ret)
       .skip))))
    (.region false [] [
       ⟨(some 18), none, (.bin .add 3 (.t 8) (.v (.int .i64 1)))⟩,
       ⟨(some 8), none, (.mov (.t 18))⟩])))))))
  (.seq (.region false [] [
     ⟨(some 4), none, (.mov (.v (.int .i64 (-1))))⟩])
  .ret)))
theorem k22 : FnIs Try.prog 22 19 [.t 4] a22 := ⟨_, _, Try.func22, rfl, by kernel_rfl, by kernel_rfl, rfl⟩

structure Job where
  name : ByteArray
  long : Int
  first : Int
  last : Int
  weight : Int
instance : Inhabited Job := ⟨⟨⟨#[]⟩, 0, 0, 0, 0⟩⟩
abbrev jc (j : Job) : List AV := [S j.name, I j.long, I j.first, I j.last, I j.weight]
abbrev ja (j : Job) : AV := .agg (jc j)
abbrev pc (p : Int × Int) : List AV := [I p.1, I p.2]
structure Task where
  nj : Option Bool
  fj : Bool
  jobs : List Job
  na : Option Bool
  fa : Bool
  apart : List (Int × Int)
  crews : Int
abbrev tc (t : Task) : List AV := [.imm t.nj t.fj 5 (t.jobs.map jc), .imm t.na t.fa 2 (t.apart.map pc), I t.crews]
abbrev ta (t : Task) : AV := .agg (tc t)
set_option maxRecDepth 20000 in
theorem s17 (x : ByteArray) (hx : x.size ≤ 9223372036854775807) : Aw.Spec Try.prog 17 [] [S x] (Gives (· = B (nm 8 x))) := by
  refine Aw.Spec.givesD k17 mixed rfl rfl rfl fun E hn hnp hp => ?_
  unfold a17
  simp (config := { maxSteps := 2000000 }) only [go_sem, ↓reduceIte, Int.reduceToNat, Nat.reduceMul, Int.reduceBEq, Int.reduceBNe, Nat.reduceBEq, Nat.reduceAdd, Nat.reduceSub, Nat.reduceLeDiff, Nat.reduceEqDiff, Nat.reduceLT, reduceCtorEq]
  have hsz : x.data.toList.length = x.size := by rw [Array.length_toList]; rfl
  refine AWp.loop (fun k s => ∃ i : Nat, i + k = x.data.toList.length ∧ nmOk 0 x.data.toList = nmOk i (x.data.toList.drop i) ∧ Weak E s ⟨[(0, S x), (6, .imm (some false) false 1 (x.data.toList.map fun c => [.val (.int .u8 c.toNat)])), (7, I x.data.toList.length), (8, I i)], []⟩) (n := x.data.toList.length)
    ⟨0, by omega, rfl, weak_to [] hp hnp rfl ⟨rfl, rfl, rfl, rfl, trivial⟩ rfl⟩ ?_
  rintro k s ⟨i, hi, hs, hw⟩
  refine AWp.weak hw (AWp.ofD [] [] hn mixed rfl ?_)
  rcases Nat.lt_or_ge i x.data.toList.length with hlt | hge
  · have e0 : decide ((i : Int) < (x.data.toList.length : Int)) = true := by simp; omega
    have e1 := getD_map (fun c : UInt8 => [.val (.int .u8 c.toNat)]) hlt
    have e2 : IntKind.i64.wrap ((i : Int) + 1) = ((i + 1 : Nat) : Int) := by rw [w64 (by omega) (by omega)]; omega
    have e3 : decide ((0 : Int) < (i : Int)) = decide (0 < i) := by simp
    simp (config := { maxSteps := 2000000 }) only [go_sem, ↓reduceIte, Int.reduceToNat, Nat.reduceMul, Int.reduceBEq, Int.reduceBNe, Nat.reduceBEq, Nat.reduceAdd, Nat.reduceSub, Nat.reduceLeDiff, Nat.reduceEqDiff, Nat.reduceLT, reduceCtorEq, e0, e1, e2, ge_iff_le, gt_iff_lt, e3]
    rw [nmOk_drop hlt] at hs
    generalize (decide ((65 : Int) ≤ x.data.toList[i].toNat) && decide ((x.data.toList[i].toNat : Int) ≤ 90)) = A at *
    generalize decide ((48 : Int) ≤ x.data.toList[i].toNat) = C at *
    generalize decide ((x.data.toList[i].toNat : Int) ≤ 57) = D at *
    generalize decide (0 < i) = F at *
    refine ⟨⟨by omega, by omega⟩, ?_, ?_, fun h => ?_, fun h => ?_⟩
    · exact (by decide : ∀ A F : Bool, A = false → A = false ∧ (F = true → (!A && F) = true)) A F
    · exact (by decide : ∀ A F C : Bool, A = false → A = false ∧ ((F && C) = true → (!A && (F && C)) = true)) A F C
    · have h' : (A || F && C && D) = false := by simpa using h
      unfold nm
      rw [hs, h']; rfl
    · have h' : (A || F && C && D) = true := by
        cases hX : (A || F && C && D) with
        | true => rfl
        | false => rw [hX] at h; cases h
      rw [h', Bool.true_and] at hs
      exact ⟨k - 1, by omega, i + 1, by omega, hs, weak_to [] hp hnp rfl (by simp (config := { maxSteps := 2000000 }) only [go_sem, ↓reduceIte, Int.reduceToNat, Nat.reduceMul, Int.reduceBEq, Int.reduceBNe, Nat.reduceBEq, Nat.reduceAdd, Nat.reduceSub, Nat.reduceLeDiff, Nat.reduceEqDiff, Nat.reduceLT, reduceCtorEq]) rfl⟩
  · have e0 : decide ((i : Int) < (x.data.toList.length : Int)) = false := by simp; omega
    simp (config := { maxSteps := 2000000 }) only [go_sem, ↓reduceIte, Int.reduceToNat, Nat.reduceMul, Int.reduceBEq, Int.reduceBNe, Nat.reduceBEq, Nat.reduceAdd, Nat.reduceSub, Nat.reduceLeDiff, Nat.reduceEqDiff, Nat.reduceLT, reduceCtorEq, e0]
    unfold nm
    rw [hs, List.drop_of_length_le hge]
    simp only [nmOk, Bool.true_and]

theorem s22 (nl fl) (l : List (Job)) (g : FuncId) (caps : List AV) (p : Job → Bool) (hg : fnOk Try.prog g = true) (hc : renL [] caps = caps) (hq : ∀ x ∈ l, Aw.Spec Try.prog g [] ((ja) x :: caps) (Gives (· = B (p x)))) (hl : l.length ≤ 9223372036854775807) :
    Aw.Spec Try.prog 22 [] [.imm nl fl 5 (l.map jc), .fn g caps] (Gives (· = I (fIndex p 0 l))) := by
  refine Aw.Spec.givesD k22 mixed rfl rfl rfl fun E hn hnp hp => ?_
  unfold a22
  simp (config := { maxSteps := 2000000 }) only [go_sem, ↓reduceIte, Int.reduceToNat, Nat.reduceMul, Int.reduceBEq, Int.reduceBNe, Nat.reduceBEq, Nat.reduceAdd, Nat.reduceSub, Nat.reduceLeDiff, Nat.reduceEqDiff, Nat.reduceLT, reduceCtorEq]
  refine AWp.loop (fun k s => ∃ i : Nat, i + k = l.length ∧ fIndex p 0 l = fIndex p i (l.drop i) ∧ Weak E s ⟨[(0, .imm nl fl 5 (l.map jc)), (1, .fn g caps), (7, I l.length), (8, I i)], []⟩) (n := l.length)
    ⟨0, by omega, rfl, weak_to [] hp hnp rfl (by simp (config := { maxSteps := 2000000 }) only [go_sem, ↓reduceIte, Int.reduceToNat, Nat.reduceMul, Int.reduceBEq, Int.reduceBNe, Nat.reduceBEq, Nat.reduceAdd, Nat.reduceSub, Nat.reduceLeDiff, Nat.reduceEqDiff, Nat.reduceLT, reduceCtorEq, hc, Int.natCast_zero]) rfl⟩ ?_
  rintro k s ⟨i, hi, hs, hw⟩
  refine AWp.weak hw (AWp.ofD [] [] hn mixed rfl ?_)
  rcases Nat.lt_or_ge i l.length with hlt | hge
  · have e0 : decide ((i : Int) < (l.length : Int)) = true := decide_eq_true (by omega)
    have e1 := getD_map jc hlt
    have e2 : IntKind.i64.wrap ((i : Int) + 1) = ((i + 1 : Nat) : Int) := by rw [w64 (by omega) (by omega)]; omega
    have h2 := hq _ (List.getElem_mem hlt)
    rw [fIndex_drop hlt] at hs
    generalize l[i] = x at e1 h2 hs
    simp (config := { maxSteps := 2000000 }) only [go_sem, ↓reduceIte, Int.reduceToNat, Nat.reduceMul, Int.reduceBEq, Int.reduceBNe, Nat.reduceBEq, Nat.reduceAdd, Nat.reduceSub, Nat.reduceLeDiff, Nat.reduceEqDiff, Nat.reduceLT, reduceCtorEq, e0, e1]
    (repeat (refine And.intro (by first | omega | (refine ⟨by omega, by omega⟩) | (refine ⟨by omega, by omega, by omega⟩) | (simp only [List.length_map, List.length_range, List.length_append, List.length_cons, List.length_nil, List.length_replicate, List.length_set]; omega) | (simp; omega) | (intro hgd; cases hgd) | (intro hgd; refine ⟨hgd, ?_⟩; first | omega | (refine ⟨by omega, by omega⟩) | (simp; omega))) ?_))
    refine AWpL.callv rfl hg (by rw [← hc] at h2; exact h2) (by rw [hn]; rfl) fun rg v hv => ?_
    obtain ⟨rfl, rfl⟩ := hv
    rw [retS_nil]
    refine AWpL.ofM hn rfl ?_
    simp (config := { maxSteps := 2000000 }) only [go_sem, ↓reduceIte, Int.reduceToNat, Nat.reduceMul, Int.reduceBEq, Int.reduceBNe, Nat.reduceBEq, Nat.reduceAdd, Nat.reduceSub, Nat.reduceLeDiff, Nat.reduceEqDiff, Nat.reduceLT, reduceCtorEq, e2]
    refine ⟨fun h => ?_, fun h => ?_⟩
    · rw [hs, if_pos h]
    · rw [if_neg (by simp [h])] at hs
      exact ⟨k - 1, by omega, i + 1, by omega, hs, weak_to [] hp hnp rfl (by simp (config := { maxSteps := 2000000 }) only [go_sem, ↓reduceIte, Int.reduceToNat, Nat.reduceMul, Int.reduceBEq, Int.reduceBNe, Nat.reduceBEq, Nat.reduceAdd, Nat.reduceSub, Nat.reduceLeDiff, Nat.reduceEqDiff, Nat.reduceLT, reduceCtorEq, hc]) rfl⟩
  · have e0 : decide ((i : Int) < (l.length : Int)) = false := decide_eq_false (by omega)
    simp (config := { maxSteps := 2000000 }) only [go_sem, ↓reduceIte, Int.reduceToNat, Nat.reduceMul, Int.reduceBEq, Int.reduceBNe, Nat.reduceBEq, Nat.reduceAdd, Nat.reduceSub, Nat.reduceLeDiff, Nat.reduceEqDiff, Nat.reduceLT, reduceCtorEq, e0]
    rw [hs, List.drop_of_length_le hge]
    rfl

theorem s18 (nl fl) (l : List (Job)) (g : FuncId) (caps : List AV) (p : Job → Bool) (hg : fnOk Try.prog g = true) (hc : renL [] caps = caps) (hb : caps.map (borA 3 ⟨[], []⟩) = caps) (hq : ∀ x ∈ l, Aw.Spec Try.prog g [] ((ja) x :: caps) (Gives (· = B (p x)))) (hl : l.length ≤ 9223372036854775807) :
    Aw.Spec Try.prog 18 [] [.imm nl fl 5 (l.map jc), .fn g caps] (Gives (· = B (l.any p))) := by
  refine Aw.Spec.givesD k18 mixed rfl rfl rfl fun E hn hnp hp => ?_
  unfold a18
  simp (config := { maxSteps := 2000000 }) only [go_sem, ↓reduceIte, Int.reduceToNat, Nat.reduceMul, Int.reduceBEq, Int.reduceBNe, Nat.reduceBEq, Nat.reduceAdd, Nat.reduceSub, Nat.reduceLeDiff, Nat.reduceEqDiff, Nat.reduceLT, reduceCtorEq]
  refine AWpL.callA [] (s22 nl fl l g caps p hg hc hq hl) rfl (by simp (config := { maxSteps := 2000000 }) only [go_sem, ↓reduceIte, Int.reduceToNat, Nat.reduceMul, Int.reduceBEq, Int.reduceBNe, Nat.reduceBEq, Nat.reduceAdd, Nat.reduceSub, Nat.reduceLeDiff, Nat.reduceEqDiff, Nat.reduceLT, reduceCtorEq, hc]) (by rw [hn]; rfl) rfl (fun r hr => by cases hr) fun rg v hv => ?_
  obtain ⟨rfl, rfl⟩ := hv
  refine ⟨Nat.le_refl _, ?_⟩
  rw [retS_nil]
  refine AWpL.ofM hn rfl ?_
  simp (config := { maxSteps := 2000000 }) only [go_sem, ↓reduceIte, Int.reduceToNat, Nat.reduceMul, Int.reduceBEq, Int.reduceBNe, Nat.reduceBEq, Nat.reduceAdd, Nat.reduceSub, Nat.reduceLeDiff, Nat.reduceEqDiff, Nat.reduceLT, reduceCtorEq]
  rw [fIndex_any]

theorem s19 (i j : Job) : Aw.Spec Try.prog 19 [] [ja i, .pim (jc j)] (Gives (· = B (seq i.name j.name))) := by
  refine Aw.Spec.givesD k19 mixed rfl rfl rfl fun E hn hnp hp => ?_
  unfold a19
  simp (config := { maxSteps := 2000000 }) only [go_sem, ↓reduceIte, Int.reduceToNat, Nat.reduceMul, Int.reduceBEq, Int.reduceBNe, Nat.reduceBEq, Nat.reduceAdd, Nat.reduceSub, Nat.reduceLeDiff, Nat.reduceEqDiff, Nat.reduceLT, reduceCtorEq]
  rfl
def badJob (j : Job) : Bool := decide (j.long < 1) || decide (60 < j.long) || decide (j.first < 0) || decide (60 < j.last) || decide (j.last < j.first) || decide (12 ≤ j.last - j.first) || decide (j.weight < 0) || decide (1000 < j.weight)
def chkJ : List Job → List Job → Int
  | _, [] => 0
  | prev, j :: r => if nm 8 j.name = false then 6 else if prev.any (fun i => seq i.name j.name) = true then 7 else if badJob j = true then 4 else chkJ (prev ++ [j]) r
def chkP (n : Nat) : List (Int × Int) → Int
  | [] => 0
  | p :: r => if min p.1 p.2 < 0 ∨ (n : Int) ≤ max p.1 p.2 then 8 else if p.1 = p.2 then 3 else chkP n r
def upChk (t : Task) : Int := if 6 < t.jobs.length ∨ 256 < t.apart.length then 2 else if t.crews < 1 ∨ 6 < t.crews then 4 else if chkJ [] t.jobs ≠ 0 then chkJ [] t.jobs else chkP t.jobs.length t.apart
theorem chkJ_drop {prev l : List Job} {j : Nat} (h : j < l.length) : chkJ prev (l.drop j) = if nm 8 l[j].name = false then 6 else if prev.any (fun i => seq i.name l[j].name) = true then 7 else if badJob l[j] = true then 4 else chkJ (prev ++ [l[j]]) (l.drop (j + 1)) := by
  rw [List.drop_eq_getElem_cons h]; rfl
theorem chkP_drop {n : Nat} {l : List (Int × Int)} {j : Nat} (h : j < l.length) : chkP n (l.drop j) = if min l[j].1 l[j].2 < 0 ∨ (n : Int) ≤ max l[j].1 l[j].2 then 8 else if l[j].1 = l[j].2 then 3 else chkP n (l.drop (j + 1)) := by
  rw [List.drop_eq_getElem_cons h]; rfl
/-- What Check lets in. -/
structure UpOk (t : Task) : Prop where
  len : t.jobs.length ≤ 6
  alen : t.apart.length ≤ 256
  crews : 1 ≤ t.crews ∧ t.crews ≤ 6
  jobs : ∀ j ∈ t.jobs, 1 ≤ j.long ∧ j.long ≤ 60 ∧ 0 ≤ j.first ∧ j.first ≤ j.last ∧ j.last ≤ 60 ∧ j.last - j.first < 12 ∧ 0 ≤ j.weight ∧ j.weight ≤ 1000
  pairs : ∀ p ∈ t.apart, 0 ≤ p.1 ∧ 0 ≤ p.2 ∧ p.1 < t.jobs.length ∧ p.2 < t.jobs.length ∧ p.1 ≠ p.2
theorem chkJ_ok : ∀ {l prev : List Job}, chkJ prev l = 0 → ∀ j ∈ l, badJob j = false
  | [], prev, h, j, hj => absurd hj List.not_mem_nil
  | x :: l, prev, h, j, hj => by
    unfold chkJ at h
    split at h
    · cases h
    split at h
    · cases h
    split at h
    · cases h
    rename_i h3
    rcases List.mem_cons.1 hj with rfl | hj
    · simpa using h3
    · exact chkJ_ok h j hj
theorem chkP_ok {n : Nat} : ∀ {l : List (Int × Int)}, chkP n l = 0 → ∀ p ∈ l, 0 ≤ p.1 ∧ 0 ≤ p.2 ∧ p.1 < n ∧ p.2 < n ∧ p.1 ≠ p.2
  | [], h, p, hp => absurd hp List.not_mem_nil
  | x :: l, h, p, hp => by
    unfold chkP at h
    split at h
    · cases h
    split at h
    · cases h
    rename_i h1 h2
    rcases List.mem_cons.1 hp with rfl | hp
    · exact ⟨by omega, by omega, by omega, by omega, h2⟩
    · exact chkP_ok h p hp
theorem up_ok {t : Task} (h : upChk t = 0) : UpOk t := by
  unfold upChk at h
  split at h
  · cases h
  split at h
  · cases h
  split at h
  · rename_i h1; exact absurd h h1
  rename_i h1 h2 h3
  refine ⟨by omega, by omega, by omega, fun j hj => ?_, chkP_ok h⟩
  have := chkJ_ok (Classical.not_not.1 h3) j hj
  unfold badJob at this
  simp only [Bool.or_eq_false_iff, decide_eq_false_iff_not] at this
  omega
set_option maxRecDepth 20000 in
set_option maxHeartbeats 1000000 in
theorem s12 (t : Task) (hs : ∀ j ∈ t.jobs, j.name.size ≤ 9223372036854775807) : Aw.Spec Try.prog 12 [] [ta t] (Gives (· = I (upChk t))) := by
  refine Aw.Spec.givesW k12 rfl rfl fun E hn hnp hp => ?_
  unfold a12
  have pin : ∀ r, E.pin r = none := fun r => hp.none hnp (Nat.zero_le _)
  refine AWp.ofD [] [] hn mixed rfl ?_
  simp (config := { maxSteps := 2000000 }) only [go_sem, ↓reduceIte, Int.reduceToNat, Nat.reduceMul, Int.reduceBEq, Int.reduceBNe, Nat.reduceBEq, Nat.reduceAdd, Nat.reduceSub, Nat.reduceLeDiff, Nat.reduceEqDiff, Nat.reduceLT, reduceCtorEq]
  simp only [Bool.or_eq_true, Bool.or_eq_false_iff, decide_eq_true_eq, decide_eq_false_iff_not]
  refine ⟨fun h => ?_, fun h => ⟨fun h2 => ?_, fun h2 => ?_⟩⟩
  · unfold upChk; rw [if_pos (by omega)]
  · unfold upChk; rw [if_neg (by omega), if_pos (by omega)]
  have hE : upChk t = if chkJ [] t.jobs ≠ 0 then chkJ [] t.jobs else chkP t.jobs.length t.apart := by unfold upChk; rw [if_neg (by omega), if_neg (by omega)]
  have h6 : t.jobs.length ≤ 6 := by omega
  have h256 : t.apart.length ≤ 256 := by omega
  rw [hE]
  refine AWp.loop (fun k s => ∃ i : Nat, i + k = t.jobs.length ∧ chkJ [] t.jobs = chkJ (t.jobs.take i) (t.jobs.drop i) ∧
      Weak E s ⟨[(1, .ptr 0 0 0), (28, .imm t.nj t.fj 5 (t.jobs.map jc)), (29, I t.jobs.length), (30, I i)], [.box 25 (tc t)]⟩) (n := t.jobs.length)
    ⟨0, by omega, rfl, weak_to [0] hp hnp rfl (by simp (config := { maxSteps := 2000000 }) only [go_sem, ↓reduceIte, Int.reduceToNat, Nat.reduceMul, Int.reduceBEq, Int.reduceBNe, Nat.reduceBEq, Nat.reduceAdd, Nat.reduceSub, Nat.reduceLeDiff, Nat.reduceEqDiff, Nat.reduceLT, reduceCtorEq, Aw.pos]) (by simp (config := { maxSteps := 2000000 }) only [go_sem, ↓reduceIte, Int.reduceToNat, Nat.reduceMul, Int.reduceBEq, Int.reduceBNe, Nat.reduceBEq, Nat.reduceAdd, Nat.reduceSub, Nat.reduceLeDiff, Nat.reduceEqDiff, Nat.reduceLT, reduceCtorEq, Aw.renR, Aw.pos])⟩ ?_
  rintro k s ⟨i, hi, hc, hw⟩
  refine AWp.weak hw (AWp.ofD [] [] hn mixed rfl ?_)
  rcases Nat.lt_or_ge i t.jobs.length with hlt | hge
  · have e0 : decide ((i : Int) < (t.jobs.length : Int)) = true := decide_eq_true (by omega)
    have e1 := getD_map jc hlt
    have e2 : IntKind.i64.wrap ((i : Int) + 1) = ((i + 1 : Nat) : Int) := by rw [w64 (by omega) (by omega)]; omega
    have hx := hs _ (List.getElem_mem hlt)
    have htk := take_get hlt
    rw [chkJ_drop hlt, ← htk] at hc
    generalize t.jobs[i] = j at e1 hx hc htk
    simp (config := { maxSteps := 2000000 }) only [go_sem, ↓reduceIte, Int.reduceToNat, Nat.reduceMul, Int.reduceBEq, Int.reduceBNe, Nat.reduceBEq, Nat.reduceAdd, Nat.reduceSub, Nat.reduceLeDiff, Nat.reduceEqDiff, Nat.reduceLT, reduceCtorEq, e0, e1]
    (repeat (refine And.intro (by first | omega | (refine ⟨by omega, by omega⟩) | (refine ⟨by omega, by omega, by omega⟩) | (simp only [List.length_map, List.length_range, List.length_append, List.length_cons, List.length_nil, List.length_replicate, List.length_set]; omega) | (simp; omega) | (intro hgd; cases hgd) | (intro hgd; refine ⟨hgd, ?_⟩; first | omega | (refine ⟨by omega, by omega⟩) | (simp; omega))) ?_))
    (refine AWpL.calle (s17 j.name hx) rfl (by rw [hn]; rfl) (by simp (config := { maxSteps := 2000000 }) only [go_sem, ↓reduceIte, Int.reduceToNat, Nat.reduceMul, Int.reduceBEq, Int.reduceBNe, Nat.reduceBEq, Nat.reduceAdd, Nat.reduceSub, Nat.reduceLeDiff, Nat.reduceEqDiff, Nat.reduceLT, reduceCtorEq]) (AWpL.ofM hn rfl ?_); simp (config := { maxSteps := 2000000 }) only [go_sem, ↓reduceIte, Int.reduceToNat, Nat.reduceMul, Int.reduceBEq, Int.reduceBNe, Nat.reduceBEq, Nat.reduceAdd, Nat.reduceSub, Nat.reduceLeDiff, Nat.reduceEqDiff, Nat.reduceLT, reduceCtorEq])
    refine ⟨fun h => ?_, fun h => ?_⟩
    · rw [if_pos (by simpa using h)] at hc
      rw [hc]; rfl
    have h' : nm 8 j.name = true := by simpa using h
    rw [if_neg (by simp [h'])] at hc
    (repeat (refine And.intro (by first | omega | (refine ⟨by omega, by omega⟩) | (refine ⟨by omega, by omega, by omega⟩) | (simp only [List.length_map, List.length_range, List.length_append, List.length_cons, List.length_nil, List.length_replicate, List.length_set]; omega) | (simp; omega) | (intro hgd; cases hgd) | (intro hgd; refine ⟨hgd, ?_⟩; first | omega | (refine ⟨by omega, by omega⟩) | (simp; omega))) ?_))
    have hmt : (t.jobs.map jc).take i = (t.jobs.take i).map jc := List.map_take.symm
    refine AWpL.calleA (s18 t.nj false (t.jobs.take i) 19 [.pim (jc j)] (fun i => seq i.name j.name) (by kernel_rfl) rfl rfl (fun x _ => s19 x j) (by simp; omega)) (by simp (config := { maxSteps := 2000000 }) only [go_sem, ↓reduceIte, Int.reduceToNat, Nat.reduceMul, Int.reduceBEq, Int.reduceBNe, Nat.reduceBEq, Nat.reduceAdd, Nat.reduceSub, Nat.reduceLeDiff, Nat.reduceEqDiff, Nat.reduceLT, reduceCtorEq, hmt]) rfl (by rw [hn]; rfl) (by simp (config := { maxSteps := 2000000 }) only [go_sem, ↓reduceIte, Int.reduceToNat, Nat.reduceMul, Int.reduceBEq, Int.reduceBNe, Nat.reduceBEq, Nat.reduceAdd, Nat.reduceSub, Nat.reduceLeDiff, Nat.reduceEqDiff, Nat.reduceLT, reduceCtorEq]) (AWpL.ofM hn rfl ?_)
    simp (config := { maxSteps := 2000000 }) only [go_sem, ↓reduceIte, Int.reduceToNat, Nat.reduceMul, Int.reduceBEq, Int.reduceBNe, Nat.reduceBEq, Nat.reduceAdd, Nat.reduceSub, Nat.reduceLeDiff, Nat.reduceEqDiff, Nat.reduceLT, reduceCtorEq]
    refine ⟨fun h3 => ?_, fun h3 => ?_⟩
    · rw [if_pos h3] at hc
      rw [hc]; rfl
    rw [if_neg (by simp [h3])] at hc
    have hb : ((((((((decide (j.long < 1) || decide (j.long > 60)) || decide (j.first < 0)) || decide (j.last > 60)) || decide (j.first > j.last)) || decide (IntKind.i64.wrap (j.last - j.first) ≥ 12)) || decide (j.weight < 0)) || decide (j.weight > 1000))) = badJob j := by
      by_cases hh : 0 ≤ j.first ∧ j.first ≤ j.last ∧ j.last ≤ 60
      · rw [w64 (n := j.last - j.first) (by omega) (by omega)]; rfl
      · have l1 : badJob j = true := by
          unfold badJob; simp only [Bool.or_eq_true, decide_eq_true_eq]; omega
        rw [l1]
        simp only [Bool.or_eq_true, decide_eq_true_eq]; omega
    rw [hb]
    have hz : ∀ e : Int, e ≠ 0 → chkJ [] t.jobs = e → (if chkJ [] t.jobs ≠ 0 then chkJ [] t.jobs else chkP t.jobs.length t.apart) = e := fun e he h => by rw [h, if_pos he]
    refine ⟨fun h4 => ?_, fun h4 => ?_⟩
    · rw [if_pos h4] at hc
      rw [hz 4 (by decide) hc]
    · rw [if_neg (by simp [h4])] at hc
      exact ⟨k - 1, by omega, i + 1, by omega, hc, weak_to [0] hp hnp rfl (by simp (config := { maxSteps := 2000000 }) only [go_sem, ↓reduceIte, Int.reduceToNat, Nat.reduceMul, Int.reduceBEq, Int.reduceBNe, Nat.reduceBEq, Nat.reduceAdd, Nat.reduceSub, Nat.reduceLeDiff, Nat.reduceEqDiff, Nat.reduceLT, reduceCtorEq, Aw.pos, e2]) (by simp (config := { maxSteps := 2000000 }) only [go_sem, ↓reduceIte, Int.reduceToNat, Nat.reduceMul, Int.reduceBEq, Int.reduceBNe, Nat.reduceBEq, Nat.reduceAdd, Nat.reduceSub, Nat.reduceLeDiff, Nat.reduceEqDiff, Nat.reduceLT, reduceCtorEq, Aw.renR, Aw.pos])⟩
  · have e0 : decide ((i : Int) < (t.jobs.length : Int)) = false := decide_eq_false (by omega)
    have hz : chkJ [] t.jobs = 0 := by rw [hc, List.drop_of_length_le hge]; rfl
    rw [hz, if_neg (by decide)]
    simp (config := { maxSteps := 2000000 }) only [go_sem, ↓reduceIte, Int.reduceToNat, Nat.reduceMul, Int.reduceBEq, Int.reduceBNe, Nat.reduceBEq, Nat.reduceAdd, Nat.reduceSub, Nat.reduceLeDiff, Nat.reduceEqDiff, Nat.reduceLT, reduceCtorEq, e0]
    refine AWp.loop (fun k s => ∃ i : Nat, i + k = t.apart.length ∧ chkP t.jobs.length t.apart = chkP t.jobs.length (t.apart.drop i) ∧
        Weak E s ⟨[(1, .ptr 0 0 0), (93, .imm t.na t.fa 2 (t.apart.map pc)), (94, I t.apart.length), (95, I i)], [.box 25 (tc t)]⟩) (n := t.apart.length)
      ⟨0, by omega, rfl, weak_to [0] hp hnp rfl (by simp (config := { maxSteps := 2000000 }) only [go_sem, ↓reduceIte, Int.reduceToNat, Nat.reduceMul, Int.reduceBEq, Int.reduceBNe, Nat.reduceBEq, Nat.reduceAdd, Nat.reduceSub, Nat.reduceLeDiff, Nat.reduceEqDiff, Nat.reduceLT, reduceCtorEq, Aw.pos]) (by simp (config := { maxSteps := 2000000 }) only [go_sem, ↓reduceIte, Int.reduceToNat, Nat.reduceMul, Int.reduceBEq, Int.reduceBNe, Nat.reduceBEq, Nat.reduceAdd, Nat.reduceSub, Nat.reduceLeDiff, Nat.reduceEqDiff, Nat.reduceLT, reduceCtorEq, Aw.renR, Aw.pos])⟩ ?_
    clear hw hi hc hge e0 hz
    rintro k s ⟨i, hi, hc, hw⟩
    refine AWp.weak hw (AWp.ofD [] [] hn mixed rfl ?_)
    rcases Nat.lt_or_ge i t.apart.length with hlt | hge
    · have e0 : decide ((i : Int) < (t.apart.length : Int)) = true := decide_eq_true (by omega)
      have e1 := getD_map pc hlt
      have e2 : IntKind.i64.wrap ((i : Int) + 1) = ((i + 1 : Nat) : Int) := by rw [w64 (by omega) (by omega)]; omega
      rw [chkP_drop hlt] at hc
      generalize t.apart[i] = p at e1 hc
      simp (config := { maxSteps := 2000000 }) only [go_sem, ↓reduceIte, Int.reduceToNat, Nat.reduceMul, Int.reduceBEq, Int.reduceBNe, Nat.reduceBEq, Nat.reduceAdd, Nat.reduceSub, Nat.reduceLeDiff, Nat.reduceEqDiff, Nat.reduceLT, reduceCtorEq, e0, e1]
      (repeat (refine And.intro (by first | omega | (refine ⟨by omega, by omega⟩) | (refine ⟨by omega, by omega, by omega⟩) | (simp only [List.length_map, List.length_range, List.length_append, List.length_cons, List.length_nil, List.length_replicate, List.length_set]; omega) | (simp; omega) | (intro hgd; cases hgd) | (intro hgd; refine ⟨hgd, ?_⟩; first | omega | (refine ⟨by omega, by omega⟩) | (simp; omega))) ?_))
      simp only [Bool.or_eq_true, Bool.or_eq_false_iff, decide_eq_true_eq, decide_eq_false_iff_not, beq_iff_eq, beq_eq_false_iff_ne]
      refine fun h4 => ⟨⟨by omega, by omega⟩, ⟨by omega, by omega⟩, fun h5 => ?_, fun h5 => ?_⟩
      · rw [if_neg (by omega), if_pos h5] at hc
        rw [hc]
      · rw [if_neg (by omega), if_neg h5] at hc
        exact ⟨k - 1, by omega, i + 1, by omega, hc, weak_to [0] hp hnp rfl (by simp (config := { maxSteps := 2000000 }) only [go_sem, ↓reduceIte, Int.reduceToNat, Nat.reduceMul, Int.reduceBEq, Int.reduceBNe, Nat.reduceBEq, Nat.reduceAdd, Nat.reduceSub, Nat.reduceLeDiff, Nat.reduceEqDiff, Nat.reduceLT, reduceCtorEq, Aw.pos, e2]) (by simp (config := { maxSteps := 2000000 }) only [go_sem, ↓reduceIte, Int.reduceToNat, Nat.reduceMul, Int.reduceBEq, Int.reduceBNe, Nat.reduceBEq, Nat.reduceAdd, Nat.reduceSub, Nat.reduceLeDiff, Nat.reduceEqDiff, Nat.reduceLT, reduceCtorEq, Aw.renR, Aw.pos])⟩
    · have e0 : decide ((i : Int) < (t.apart.length : Int)) = false := decide_eq_false (by omega)
      simp (config := { maxSteps := 2000000 }) only [go_sem, ↓reduceIte, Int.reduceToNat, Nat.reduceMul, Int.reduceBEq, Int.reduceBNe, Nat.reduceBEq, Nat.reduceAdd, Nat.reduceSub, Nat.reduceLeDiff, Nat.reduceEqDiff, Nat.reduceLT, reduceCtorEq, e0]
      rw [hc, List.drop_of_length_le hge]; rfl
end Go.Proofs.Ytncfffplnmlnfaa
