/- Permits: lists of devices, desks, what is known and found. -/
import Derived.Test.YtmepjgpmhkahdaaAwZf
import Derived.Test.YtmepjgpmhkahdaaLibA
set_option linter.unusedVariables false
set_option linter.unusedSimpArgs false
namespace Go.Proofs.Ytmepjgpmhkahdaa
open Go.Proofs.Ytmepjgpmhkahdaa.Aw
attribute [local go_sem] Int.natCast_zero Int.natCast_one bne_self_eq_false beq_self_eq_true Bool.not_true Bool.not_false Option.isSome_none Option.isSome_some Aw.bkM_nil Option.getD_some Option.getD_none Nat.sub_zero Int.toNat_zero Aw.frzS Aw.frzT Aw.frzA Aw.frzL Aw.frzR Aw.frzO Aw.frzOL Aw.frzOT Aw.frzOR Aw.killS Aw.mapT Aw.mapR Aw.killM Aw.resAVs Aw.resAV Aw.quietOps Aw.wpP Aw.wpT Aw.wpS Aw.AOp.mild List.getElem?_cons_zero List.getElem?_cons_succ Bool.and_false Bool.and_self Bool.false_and Aw.opOb Aw.gdB Aw.Rnd Aw.subTm List.length_map Int.toNat_natCast and_self Aw.SeqC Aw.stops Aw.Ends Aw.looks Aw.renA Aw.renL Aw.renT Aw.renS Aw.wpO Aw.aop Aw.putTm Aw.St.ev Aw.St.put Aw.St.putO Aw.binAV Aw.intBin Aw.strBin Aw.pickAV Aw.optInt Aw.AV.strip Aw.AV.guard Aw.AV.cells Aw.gdOb Aw.AOp.opds Aw.AOp.still Aw.ptrCells Aw.St.reg Aw.fillAV Aw.fillOb Aw.elsOb Aw.splice Aw.firm Aw.cellish Aw.AV.shut Aw.shutAll Aw.Seq Aw.Blk Aw.retS_nil Aw.mapA Aw.mapL Aw.borA Aw.borOb Aw.allOb Aw.tupOf Aw.params Aw.Opd.of Array.toList Value.cells List.map_cons List.map_nil List.getD_cons_zero List.getD_cons_succ List.getD_nil List.length_cons List.length_nil List.take_succ_cons List.take_zero List.take_nil List.drop_zero List.drop_succ_cons List.drop_nil List.set_cons_zero List.set_cons_succ List.append_nil List.nil_append List.cons_append List.all_cons List.all_nil cond_false cond_true if_true if_false true_and and_true Bool.and_true Bool.true_and Option.map_some Option.map_none false_implies forall_const implies_true forall_eq imp_self Bool.cond_false_right Bool.cond_true_left beq_true beq_false Bool.not_eq_true' Bool.false_eq_true Nat.zero_add Nat.add_zero Aw.eqCells Aw.exactCap Aw.revealS Aw.srcEls Aw.srcSz
attribute [local go_sem ↓] Aw.look_nil Aw.look_ite Aw.wpL_nil Aw.wpL_op Aw.wpL_gd Aw.wpQ_nil Aw.wpQ_op Aw.wpQ_gd Aw.wpC_draw Aw.wpC_reg Aw.wpC_skip Aw.wpC_ret Aw.wpC_exit Aw.wpC_seq Aw.wpC_block Aw.wpC_loop Aw.wpC_cond Aw.stopAt_nil Aw.stopAt_cons Aw.wpD_skip Aw.wpD_ret Aw.wpD_exit Aw.wpD_region Aw.wpD_draw Aw.wpM_nil Aw.wpM_op Aw.wpM_gd Aw.wpD_seq Aw.wpD_block Aw.wpD_loop Aw.wpD_cond

/- gridhall/permit.Check -/
def a6 : ACode :=
  (.seq (.region false [] [
     ⟨(some 2), none, (.mov (.v (.int .i64 0)))⟩])
  (.seq (.seq (.region false [] [
     ⟨(some 5), none, (.mov (.t 0))⟩,
     ⟨(some 6), none, (.len (.t 5))⟩,
     ⟨(some 7), none, (.bin .gtr 3 (.t 6) (.v (.int .i64 256)))⟩])
  (.cond (.t 7)
    (.seq (.region false [] [
       ⟨(some 2), none, (.mov (.v (.int .i64 2)))⟩])
    .ret)
    .skip))
  (.seq (.seq (.region false [] [
     ⟨(some 8), none, (.mov (.t 0))⟩,
     ⟨(some 9), none, (.len (.t 8))⟩,
     ⟨(some 10), none, (.mov (.v (.int .i64 0)))⟩])
  (.block 0 (.loop (.seq (.region false [] [
       ⟨(some 11), none, (.bin .lss 3 (.t 10) (.t 9))⟩])
    (.seq (.cond (.t 11)
      .skip
      (.exit 0))
    (.seq (.block 1 (.seq (.region false [] [
        ⟨(some 12), none, (.mov (.t 10))⟩,
        ⟨(some 13), none, (.idx 1 (.t 8) (.t 10))⟩,
        ⟨(some 14), none, (.load 1 false (.t 13))⟩,
        ⟨(some 3), none, (.mov (.t 12))⟩,
        ⟨(some 4), none, (.mov (.t 14))⟩])
     (.block 2 (.seq (.region false [] [
         ⟨(some 16), none, (.mov (.t 4))⟩,
         ⟨(some 17), none, (.call 13 [(.t 16)])⟩,
         ⟨(some 18), none, (.un .not (.t 17))⟩,
         ⟨(some 15), none, (.mov (.t 18))⟩])
      (.cond (.t 15)
        (.seq (.region false [] [
           ⟨(some 2), none, (.mov (.v (.int .i64 6)))⟩])
        .ret)
        (.seq (.region false [] [
           ⟨(some 20), none, (.mov (.t 0))⟩,
           ⟨(some 21), none, (.mov (.t 3))⟩,
           ⟨(some 22), none, (.slc 1 (.t 20) none (some (.t 21)) none)⟩,
           ⟨(some 23), none, (.mov (.t 4))⟩,
           ⟨(some 24), none, (.call 14 [(.t 22), (.t 23)])⟩,
           ⟨(some 19), none, (.mov (.t 24))⟩])
        (.cond (.t 19)
          (.seq (.region false [] [
             ⟨(some 2), none, (.mov (.v (.int .i64 7)))⟩])
          .ret)
          .skip)))))))
    (.region false [] [
       ⟨(some 25), none, (.bin .add 3 (.t 10) (.v (.int .i64 1)))⟩,
       ⟨(some 10), none, (.mov (.t 25))⟩])))))))
  (.seq (.region false [] [
     ⟨(some 2), none, (.mov (.v (.int .i64 0)))⟩])
  .ret))))
theorem k6 : FnIs Try.prog 6 26 [.t 2] a6 := ⟨_, _, Try.func6, rfl, by kernel_rfl, by kernel_rfl, rfl⟩
/- gridhall/permit.New -/
def a4 : ACode :=
  (.seq (.region false [] [
     ⟨(some 2), none, (.mov (.v (.pointer none)))⟩,
     ⟨(some 3), none, (.mov (.v (.int .i64 0)))⟩])
  (.seq (.seq (.region false [] [
     ⟨(some 5), none, (.mov (.t 0))⟩,
     ⟨(some 6), none, (.call 6 [(.t 5)])⟩,
     ⟨(some 4), none, (.mov (.t 6))⟩])
  (.seq (.region false [] [
     ⟨(some 7), none, (.mov (.t 4))⟩,
     ⟨(some 8), none, (.bin .neq 24 (.t 7) (.v (.int .i64 0)))⟩])
  (.cond (.t 8)
    (.seq (.region false [] [
       ⟨(some 9), none, (.mov (.t 4))⟩,
       ⟨(some 2), none, (.mov (.v (.pointer none)))⟩,
       ⟨(some 3), none, (.mov (.t 9))⟩])
    .ret)
    .skip)))
  (.seq (.region false [] [
     ⟨(some 10), none, (.mov (.t 0))⟩,
     ⟨(some 11), none, (.call 11 [(.t 10)])⟩,
     ⟨(some 12), none, (.build (.agg #[(.slice none 0 0), (.slice none 0 0), (.int .i64 0)]) [(0, (1, (.t 11)))])⟩,
     ⟨(some 13), none, (.box 40 (.t 12))⟩,
     ⟨(some 2), none, (.mov (.t 13))⟩,
     ⟨(some 3), none, (.mov (.v (.int .i64 0)))⟩])
  .ret)))
theorem k4 : FnIs Try.prog 4 14 [.t 2, .t 3] a4 := ⟨_, _, Try.func4, rfl, by kernel_rfl, by kernel_rfl, rfl⟩
/- gridhall/permit.named -/
def a13 : ACode :=
  (.seq (.region false [] [
     ⟨(some 2), none, (.mov (.v (.bool false)))⟩])
  (.seq (.seq (.region false [] [
     ⟨(some 5), none, (.mov (.t 0))⟩,
     ⟨(some 6), none, (.stb 5 (.t 5))⟩,
     ⟨(some 7), none, (.len (.t 6))⟩,
     ⟨(some 8), none, (.mov (.v (.int .i64 0)))⟩])
  (.block 0 (.loop (.seq (.region false [] [
       ⟨(some 9), none, (.bin .lss 3 (.t 8) (.t 7))⟩])
    (.seq (.cond (.t 9)
      .skip
      (.exit 0))
    (.seq (.block 1 (.seq (.region false [] [
        ⟨(some 10), none, (.mov (.t 8))⟩,
        ⟨(some 11), none, (.idx 1 (.t 6) (.t 8))⟩,
        ⟨(some 12), none, (.load 1 false (.t 11))⟩,
        ⟨(some 3), none, (.mov (.t 10))⟩,
        ⟨(some 4), none, (.mov (.t 12))⟩])
     (.seq (.region false [] [
        ⟨(some 13), none, (.mov (.t 4))⟩,
        ⟨(some 14), none, (.bin .geq 5 (.t 13) (.v (.int .u8 65)))⟩,
        ⟨(some 15), none, (.mov (.t 14))⟩,
        ⟨(some 16), (some (15, true)), (.mov (.t 4))⟩,
        ⟨(some 17), (some (15, true)), (.bin .leq 5 (.t 16) (.v (.int .u8 90)))⟩,
        ⟨(some 18), none, (.pick (.t 15) (.t 17) (.v (.bool false)))⟩,
        ⟨(some 19), none, (.mov (.t 18))⟩,
        ⟨(some 20), (some (19, false)), (.mov (.t 3))⟩,
        ⟨(some 21), (some (19, false)), (.bin .gtr 3 (.t 20) (.v (.int .i64 0)))⟩,
        ⟨(some 22), (some (19, false)), (.mov (.t 21))⟩,
        ⟨(some 23), (some (22, true)), (.mov (.t 4))⟩,
        ⟨(some 24), (some (22, true)), (.bin .geq 5 (.t 23) (.v (.int .u8 48)))⟩,
        ⟨(some 25), (some (19, false)), (.pick (.t 22) (.t 24) (.v (.bool false)))⟩,
        ⟨(some 26), (some (19, false)), (.mov (.t 25))⟩,
        ⟨(some 27), (some (26, true)), (.mov (.t 4))⟩,
        ⟨(some 28), (some (26, true)), (.bin .leq 5 (.t 27) (.v (.int .u8 57)))⟩,
        ⟨(some 29), (some (19, false)), (.pick (.t 26) (.t 28) (.v (.bool false)))⟩,
        ⟨(some 30), none, (.pick (.t 19) (.v (.bool true)) (.t 29))⟩,
        ⟨(some 31), none, (.un .not (.t 30))⟩])
     (.cond (.t 31)
       (.seq (.region false [] [
          ⟨(some 2), none, (.mov (.v (.bool false)))⟩])
       .ret)
       .skip))))
    (.region false [] [
       ⟨(some 32), none, (.bin .add 3 (.t 8) (.v (.int .i64 1)))⟩,
       ⟨(some 8), none, (.mov (.t 32))⟩])))))))
  (.seq (.region false [] [
     ⟨(some 33), none, (.mov (.t 0))⟩,
     ⟨(some 34), none, (.bin .neq 9 (.t 33) (.v (.string ⟨#[]⟩)))⟩,
     ⟨(some 35), none, (.mov (.t 34))⟩,
     ⟨(some 36), (some (35, true)), (.mov (.t 0))⟩,
     ⟨(some 37), (some (35, true)), (.lens (.t 36))⟩,
     ⟨(some 38), (some (35, true)), (.bin .leq 3 (.t 37) (.v (.int .i64 8)))⟩,
     ⟨(some 39), none, (.pick (.t 35) (.t 38) (.v (.bool false)))⟩,
     ⟨(some 2), none, (.mov (.t 39))⟩])
  .ret)))
theorem k13 : FnIs Try.prog 13 40 [.t 2] a13 := ⟨_, _, Try.func13, rfl, by kernel_rfl, by kernel_rfl, rfl⟩
/- (*gridhall/permit.Desk).known -/
def a15 : ACode :=
  (.seq (.region false [] [
     ⟨(some 2), none, (.box 23 (.t 0))⟩,
     ⟨(some 4), none, (.mov (.v (.int .i64 0)))⟩])
  (.seq (.seq (.region false [] [
     ⟨(some 5), none, (.mov (.t 1))⟩,
     ⟨(some 6), none, (.mkfn 21 [(.t 2)])⟩,
     ⟨(some 7), none, (.call 20 [(.t 5), (.t 6)])⟩])
  (.cond (.t 7)
    (.seq (.region false [] [
       ⟨(some 4), none, (.mov (.v (.int .i64 8)))⟩])
    .ret)
    .skip))
  (.seq (.region false [] [
     ⟨(some 4), none, (.mov (.v (.int .i64 0)))⟩])
  .ret)))
theorem k15 : FnIs Try.prog 15 8 [.t 4] a15 := ⟨_, _, Try.func15, rfl, by kernel_rfl, by kernel_rfl, rfl⟩
/- (*gridhall/permit.Desk).known$1 -/
def a21 : ACode :=
  (.seq (.region false [] [
     ⟨(some 3), none, (.mov (.v (.bool false)))⟩])
  (.seq (.region false [] [
     ⟨(some 4), none, (.load 1 false (.t 1))⟩,
     ⟨(some 5), none, (.nilc (.t 4))⟩,
     ⟨(some 6), none, (.fld 0 (.t 5))⟩,
     ⟨(some 7), none, (.load 1 false (.t 6))⟩,
     ⟨(some 8), none, (.mov (.t 0))⟩,
     ⟨(some 9), none, (.call 14 [(.t 7), (.t 8)])⟩,
     ⟨(some 10), none, (.un .not (.t 9))⟩,
     ⟨(some 3), none, (.mov (.t 10))⟩])
  .ret))
theorem k21 : FnIs Try.prog 21 11 [.t 3] a21 := ⟨_, _, Try.func21, rfl, by kernel_rfl, by kernel_rfl, rfl⟩
/- (*gridhall/permit.Desk).find -/
def a17 : ACode :=
  (.seq (.region false [] [
     ⟨(some 4), none, (.box 3 (.t 1))⟩,
     ⟨(some 6), none, (.mov (.v (.int .i64 0)))⟩,
     ⟨(some 7), none, (.mov (.v (.int .i64 0)))⟩])
  (.seq (.region false [] [
     ⟨(some 9), none, (.mov (.t 0))⟩,
     ⟨(some 10), none, (.nilc (.t 9))⟩,
     ⟨(some 11), none, (.fld 1 (.t 10))⟩,
     ⟨(some 12), none, (.load 1 false (.t 11))⟩,
     ⟨(some 13), none, (.mkfn 23 [(.t 4)])⟩,
     ⟨(some 14), none, (.call 22 [(.t 12), (.t 13)])⟩,
     ⟨(some 8), none, (.mov (.t 14))⟩])
  (.seq (.block 0 (.seq (.region false [] [
      ⟨(some 16), none, (.mov (.t 8))⟩,
      ⟨(some 17), none, (.bin .lss 3 (.t 16) (.v (.int .i64 0)))⟩,
      ⟨(some 15), none, (.mov (.t 17))⟩])
   (.cond (.t 15)
     (.seq (.region false [] [
        ⟨(some 6), none, (.mov (.v (.int .i64 0)))⟩,
        ⟨(some 7), none, (.mov (.v (.int .i64 8)))⟩])
     .ret)
     (.seq (.region false [] [
        ⟨(some 19), none, (.mov (.t 0))⟩,
        ⟨(some 20), none, (.nilc (.t 19))⟩,
        ⟨(some 21), none, (.fld 1 (.t 20))⟩,
        ⟨(some 22), none, (.load 1 false (.t 21))⟩,
        ⟨(some 23), none, (.mov (.t 8))⟩,
        ⟨(some 24), none, (.idx 3 (.t 22) (.t 23))⟩,
        ⟨(some 25), none, (.fld 1 (.t 24))⟩,
        ⟨(some 26), none, (.load 1 false (.t 25))⟩,
        ⟨(some 27), none, (.mov (.t 2))⟩,
        ⟨(some 28), none, (.bin .neq 9 (.t 26) (.t 27))⟩,
        ⟨(some 18), none, (.mov (.t 28))⟩])
     (.cond (.t 18)
       (.seq (.region false [] [
          ⟨(some 6), none, (.mov (.v (.int .i64 0)))⟩,
          ⟨(some 7), none, (.mov (.v (.int .i64 18)))⟩])
       .ret)
       .skip)))))
  (.seq (.region false [] [
     ⟨(some 29), none, (.mov (.t 8))⟩,
     ⟨(some 6), none, (.mov (.t 29))⟩,
     ⟨(some 7), none, (.mov (.v (.int .i64 0)))⟩])
  .ret))))
theorem k17 : FnIs Try.prog 17 30 [.t 6, .t 7] a17 := ⟨_, _, Try.func17, rfl, by kernel_rfl, by kernel_rfl, rfl⟩
/- (*gridhall/permit.Desk).find$1 -/
def a23 : ACode :=
  (.seq (.region false [] [
     ⟨(some 2), none, (.box 34 (.t 0))⟩,
     ⟨(some 3), none, (.mov (.v (.bool false)))⟩])
  (.seq (.region false [] [
     ⟨(some 4), none, (.fld 0 (.t 2))⟩,
     ⟨(some 5), none, (.load 1 false (.t 4))⟩,
     ⟨(some 6), none, (.load 1 false (.t 1))⟩,
     ⟨(some 7), none, (.bin .eql 3 (.t 5) (.t 6))⟩,
     ⟨(some 3), none, (.mov (.t 7))⟩])
  .ret))
theorem k23 : FnIs Try.prog 23 8 [.t 3] a23 := ⟨_, _, Try.func23, rfl, by kernel_rfl, by kernel_rfl, rfl⟩
/- slices.ContainsFunc[[]string,string] -/
def a20 : ACode :=
  (.seq (.region false [] [
     ⟨(some 4), none, (.mov (.v (.bool false)))⟩])
  (.seq (.region false [] [
     ⟨(some 5), none, (.mov (.t 0))⟩,
     ⟨(some 6), none, (.mov (.t 1))⟩,
     ⟨(some 7), none, (.call 24 [(.t 5), (.t 6)])⟩,
     ⟨(some 8), none, (.bin .geq 3 (.t 7) (.v (.int .i64 0)))⟩,
     ⟨(some 4), none, (.mov (.t 8))⟩])
  .ret))
theorem k20 : FnIs Try.prog 20 9 [.t 4] a20 := ⟨_, _, Try.func20, rfl, by kernel_rfl, by kernel_rfl, rfl⟩
/- slices.IndexFunc[[]string,string] -/
def a24 : ACode :=
  (.seq (.region false [] [
     ⟨(some 4), none, (.mov (.v (.int .i64 0)))⟩])
  (.seq (.seq (.region false [] [
     ⟨(some 6), none, (.mov (.t 0))⟩,
     ⟨(some 7), none, (.len (.t 6))⟩,
     ⟨(some 8), none, (.mov (.v (.int .i64 0)))⟩])
  (.block 0 (.loop (.seq (.region false [] [
       ⟨(some 9), none, (.bin .lss 3 (.t 8) (.t 7))⟩])
    (.seq (.cond (.t 9)
      .skip
      (.exit 0))
    (.seq (.block 1 (.seq (.region false [] [
        ⟨(some 10), none, (.mov (.t 8))⟩,
        ⟨(some 5), none, (.mov (.t 10))⟩])
     (.seq (.region false [] [
        ⟨(some 11), none, (.mov (.t 1))⟩,
        ⟨(some 12), none, (.mov (.t 0))⟩,
        ⟨(some 13), none, (.mov (.t 5))⟩,
        ⟨(some 14), none, (.idx 1 (.t 12) (.t 13))⟩,
        ⟨(some 15), none, (.load 1 false (.t 14))⟩,
        ⟨(some 16), none, (.callv (.t 11) [(.t 15)])⟩])
     (.cond (.t 16)
       (.seq (.region false [] [
          ⟨(some 17), none, (.mov (.t 5))⟩,
          ⟨(some 4), none, (.mov (.t 17))⟩])
       .ret)
       .skip))))
    (.region false [] [
       ⟨(some 18), none, (.bin .add 3 (.t 8) (.v (.int .i64 1)))⟩,
       ⟨(some 8), none, (.mov (.t 18))⟩])))))))
  (.seq (.region false [] [
     ⟨(some 4), none, (.mov (.v (.int .i64 (-1))))⟩])
  .ret)))
theorem k24 : FnIs Try.prog 24 19 [.t 4] a24 := ⟨_, _, Try.func24, rfl, by kernel_rfl, by kernel_rfl, rfl⟩
/- slices.IndexFunc[[]gridhall/api.PermitPaper,gridhall/api.PermitPaper] -/
def a22 : ACode :=
  (.seq (.region false [] [
     ⟨(some 4), none, (.mov (.v (.int .i64 0)))⟩])
  (.seq (.seq (.region false [] [
     ⟨(some 6), none, (.mov (.t 0))⟩,
     ⟨(some 7), none, (.len (.t 6))⟩,
     ⟨(some 8), none, (.mov (.v (.int .i64 0)))⟩])
  (.block 0 (.loop (.seq (.region false [] [
       ⟨(some 9), none, (.bin .lss 3 (.t 8) (.t 7))⟩])
    (.seq (.cond (.t 9)
      .skip
      (.exit 0))
    (.seq (.block 1 (.seq (.region false [] [
        ⟨(some 10), none, (.mov (.t 8))⟩,
        ⟨(some 5), none, (.mov (.t 10))⟩])
     (.seq (.region false [] [
        ⟨(some 11), none, (.mov (.t 1))⟩,
        ⟨(some 12), none, (.mov (.t 0))⟩,
        ⟨(some 13), none, (.mov (.t 5))⟩,
        ⟨(some 14), none, (.idx 3 (.t 12) (.t 13))⟩,
        ⟨(some 15), none, (.load 3 true (.t 14))⟩,
        ⟨(some 16), none, (.callv (.t 11) [(.t 15)])⟩])
     (.cond (.t 16)
       (.seq (.region false [] [
          ⟨(some 17), none, (.mov (.t 5))⟩,
          ⟨(some 4), none, (.mov (.t 17))⟩])
       .ret)
       .skip))))
    (.region false [] [
       ⟨(some 18), none, (.bin .add 3 (.t 8) (.v (.int .i64 1)))⟩,
       ⟨(some 8), none, (.mov (.t 18))⟩])))))))
  (.seq (.region false [] [
     ⟨(some 4), none, (.mov (.v (.int .i64 (-1))))⟩])
  .ret)))
theorem k22 : FnIs Try.prog 22 19 [.t 4] a22 := ⟨_, _, Try.func22, rfl, by kernel_rfl, by kernel_rfl, rfl⟩
/- slices.Clone[[]string,string] -/
def a11 : ACode :=
  (.seq (.region false [] [
     ⟨(some 2), none, (.mov (.v (.slice none 0 0)))⟩])
  (.seq (.seq (.region false [] [
     ⟨(some 3), none, (.mov (.t 0))⟩,
     ⟨(some 4), none, (.nilS false (.t 3))⟩])
  (.cond (.t 4)
    (.seq (.region false [] [
       ⟨(some 2), none, (.mov (.v (.slice none 0 0)))⟩])
    .ret)
    .skip))
  (.seq (.region false [] [
     ⟨(some 5), none, (.bsl 9 1 0 [])⟩,
     ⟨(some 6), none, (.mov (.t 0))⟩,
     ⟨(some 7), none, (.app 9 1 16 (.string ⟨#[]⟩) (.t 5) (.t 6))⟩,
     ⟨(some 2), none, (.mov (.t 7))⟩])
  .ret)))
theorem k11 : FnIs Try.prog 11 8 [.t 2] a11 := ⟨_, _, Try.func11, rfl, by kernel_rfl, by kernel_rfl, rfl⟩

structure Paper where
  num : Int
  holder : ByteArray
  devs : List ByteArray
instance : Inhabited Paper := ⟨⟨0, ⟨#[]⟩, []⟩⟩
abbrev ppc (p : Paper) : List AV := [I p.num, S p.holder, ss none false p.devs]
abbrev ppa (p : Paper) : AV := .agg (ppc p)
set_option maxRecDepth 20000 in
theorem s13 (x : ByteArray) (hx : x.size ≤ 9223372036854775807) : Aw.Spec Try.prog 13 [] [S x] (Gives (· = B (nm 8 x))) := by
  refine Aw.Spec.givesD k13 mixed rfl rfl rfl fun E hn hnp hp => ?_
  unfold a13
  simp (config := { maxSteps := 2000000 }) only [go_sem, ↓reduceIte, Int.reduceToNat, Nat.reduceMul, Int.reduceBEq, Int.reduceBNe, Nat.reduceBEq, Nat.reduceAdd, Nat.reduceSub, Nat.reduceLeDiff, Nat.reduceEqDiff, Nat.reduceLT, reduceCtorEq]
  have hsz : x.data.toList.length = x.size := by rw [Array.length_toList]; rfl
  refine AWp.loop (fun k s => ∃ i : Nat, i + k = x.data.toList.length ∧ nmOk 0 x.data.toList = nmOk i (x.data.toList.drop i) ∧ Weak E s ⟨[(0, S x), (6, .imm (some false) false 1 (x.data.toList.map fun c => [.val (.int .u8 c.toNat)])), (7, I x.data.toList.length), (8, I i)], []⟩) (n := x.data.toList.length)
    ⟨0, by omega, rfl, weak_to [] hp hnp rfl ⟨rfl, rfl, rfl, rfl, trivial⟩ rfl⟩ ?_
  rintro k s ⟨i, hi, hs, hw⟩
  refine AWp.weak hw (AWp.ofD [] [] hn mixed rfl ?_)
  rcases Nat.lt_or_ge i x.data.toList.length with hlt | hge
  · have e0 : decide ((i : Int) < (x.data.toList.length : Int)) = true := by simp; omega
    have e1 := getD_map (fun c : UInt8 => [.val (.int .u8 c.toNat)]) hlt
    have e2 : IntKind.i64.wrap ((i : Int) + 1) = ((i + 1 : Nat) : Int) := by rw [w64 (by omega) (by omega)]; omega
    have e3 : decide ((0 : Int) < (i : Int)) = decide (0 < i) := by simp
    simp (config := { maxSteps := 2000000 }) only [go_sem, ↓reduceIte, Int.reduceToNat, Nat.reduceMul, Int.reduceBEq, Int.reduceBNe, Nat.reduceBEq, Nat.reduceAdd, Nat.reduceSub, Nat.reduceLeDiff, Nat.reduceEqDiff, Nat.reduceLT, reduceCtorEq, e0, e1, e2, ge_iff_le, gt_iff_lt, e3]
    rw [nmOk_drop hlt] at hs
    generalize (decide ((65 : Int) ≤ x.data.toList[i].toNat) && decide ((x.data.toList[i].toNat : Int) ≤ 90)) = A at *
    generalize decide ((48 : Int) ≤ x.data.toList[i].toNat) = C at *
    generalize decide ((x.data.toList[i].toNat : Int) ≤ 57) = D at *
    generalize decide (0 < i) = F at *
    refine ⟨⟨by omega, by omega⟩, ?_, ?_, fun h => ?_, fun h => ?_⟩
    · exact (by decide : ∀ A F : Bool, A = false → A = false ∧ (F = true → (!A && F) = true)) A F
    · exact (by decide : ∀ A F C : Bool, A = false → A = false ∧ ((F && C) = true → (!A && (F && C)) = true)) A F C
    · have h' : (A || F && C && D) = false := by simpa using h
      unfold nm
      rw [hs, h']; rfl
    · have h' : (A || F && C && D) = true := by
        cases hX : (A || F && C && D) with
        | true => rfl
        | false => rw [hX] at h; cases h
      rw [h', Bool.true_and] at hs
      exact ⟨k - 1, by omega, i + 1, by omega, hs, weak_to [] hp hnp rfl (by simp (config := { maxSteps := 2000000 }) only [go_sem, ↓reduceIte, Int.reduceToNat, Nat.reduceMul, Int.reduceBEq, Int.reduceBNe, Nat.reduceBEq, Nat.reduceAdd, Nat.reduceSub, Nat.reduceLeDiff, Nat.reduceEqDiff, Nat.reduceLT, reduceCtorEq]) rfl⟩
  · have e0 : decide ((i : Int) < (x.data.toList.length : Int)) = false := by simp; omega
    simp (config := { maxSteps := 2000000 }) only [go_sem, ↓reduceIte, Int.reduceToNat, Nat.reduceMul, Int.reduceBEq, Int.reduceBNe, Nat.reduceBEq, Nat.reduceAdd, Nat.reduceSub, Nat.reduceLeDiff, Nat.reduceEqDiff, Nat.reduceLT, reduceCtorEq, e0]
    unfold nm
    rw [hs, List.drop_of_length_le hge]
    simp only [nmOk, Bool.true_and]

theorem s24 (nl fl) (l : List (ByteArray)) (g : FuncId) (caps : List AV) (p : ByteArray → Bool) (hg : fnOk Try.prog g = true) (hc : renL [] caps = caps) (hq : ∀ x ∈ l, Aw.Spec Try.prog g [] ((S) x :: caps) (Gives (· = B (p x)))) (hl : l.length ≤ 9223372036854775807) :
    Aw.Spec Try.prog 24 [] [.imm nl fl 1 (l.map sc), .fn g caps] (Gives (· = I (fIndex p 0 l))) := by
  refine Aw.Spec.givesD k24 mixed rfl rfl rfl fun E hn hnp hp => ?_
  unfold a24
  simp (config := { maxSteps := 2000000 }) only [go_sem, ↓reduceIte, Int.reduceToNat, Nat.reduceMul, Int.reduceBEq, Int.reduceBNe, Nat.reduceBEq, Nat.reduceAdd, Nat.reduceSub, Nat.reduceLeDiff, Nat.reduceEqDiff, Nat.reduceLT, reduceCtorEq]
  refine AWp.loop (fun k s => ∃ i : Nat, i + k = l.length ∧ fIndex p 0 l = fIndex p i (l.drop i) ∧ Weak E s ⟨[(0, .imm nl fl 1 (l.map sc)), (1, .fn g caps), (7, I l.length), (8, I i)], []⟩) (n := l.length)
    ⟨0, by omega, rfl, weak_to [] hp hnp rfl (by simp (config := { maxSteps := 2000000 }) only [go_sem, ↓reduceIte, Int.reduceToNat, Nat.reduceMul, Int.reduceBEq, Int.reduceBNe, Nat.reduceBEq, Nat.reduceAdd, Nat.reduceSub, Nat.reduceLeDiff, Nat.reduceEqDiff, Nat.reduceLT, reduceCtorEq, hc, Int.natCast_zero]) rfl⟩ ?_
  rintro k s ⟨i, hi, hs, hw⟩
  refine AWp.weak hw (AWp.ofD [] [] hn mixed rfl ?_)
  rcases Nat.lt_or_ge i l.length with hlt | hge
  · have e0 : decide ((i : Int) < (l.length : Int)) = true := decide_eq_true (by omega)
    have e1 := getD_map sc hlt
    have e2 : IntKind.i64.wrap ((i : Int) + 1) = ((i + 1 : Nat) : Int) := by rw [w64 (by omega) (by omega)]; omega
    have h2 := hq _ (List.getElem_mem hlt)
    rw [fIndex_drop hlt] at hs
    generalize l[i] = x at e1 h2 hs
    simp (config := { maxSteps := 2000000 }) only [go_sem, ↓reduceIte, Int.reduceToNat, Nat.reduceMul, Int.reduceBEq, Int.reduceBNe, Nat.reduceBEq, Nat.reduceAdd, Nat.reduceSub, Nat.reduceLeDiff, Nat.reduceEqDiff, Nat.reduceLT, reduceCtorEq, e0, e1]
    (repeat (refine And.intro (by first | omega | (refine ⟨by omega, by omega⟩) | (refine ⟨by omega, by omega, by omega⟩) | (simp only [List.length_map, List.length_range, List.length_append, List.length_cons, List.length_nil, List.length_replicate, List.length_set]; omega) | (simp; omega) | (intro hgd; cases hgd) | (intro hgd; refine ⟨hgd, ?_⟩; first | omega | (refine ⟨by omega, by omega⟩) | (simp; omega))) ?_))
    refine AWpL.callv rfl hg (by rw [← hc] at h2; exact h2) (by rw [hn]; rfl) fun rg v hv => ?_
    obtain ⟨rfl, rfl⟩ := hv
    rw [retS_nil]
    refine AWpL.ofM hn rfl ?_
    simp (config := { maxSteps := 2000000 }) only [go_sem, ↓reduceIte, Int.reduceToNat, Nat.reduceMul, Int.reduceBEq, Int.reduceBNe, Nat.reduceBEq, Nat.reduceAdd, Nat.reduceSub, Nat.reduceLeDiff, Nat.reduceEqDiff, Nat.reduceLT, reduceCtorEq, e2]
    refine ⟨fun h => ?_, fun h => ?_⟩
    · rw [hs, if_pos h]
    · rw [if_neg (by simp [h])] at hs
      exact ⟨k - 1, by omega, i + 1, by omega, hs, weak_to [] hp hnp rfl (by simp (config := { maxSteps := 2000000 }) only [go_sem, ↓reduceIte, Int.reduceToNat, Nat.reduceMul, Int.reduceBEq, Int.reduceBNe, Nat.reduceBEq, Nat.reduceAdd, Nat.reduceSub, Nat.reduceLeDiff, Nat.reduceEqDiff, Nat.reduceLT, reduceCtorEq, hc]) rfl⟩
  · have e0 : decide ((i : Int) < (l.length : Int)) = false := decide_eq_false (by omega)
    simp (config := { maxSteps := 2000000 }) only [go_sem, ↓reduceIte, Int.reduceToNat, Nat.reduceMul, Int.reduceBEq, Int.reduceBNe, Nat.reduceBEq, Nat.reduceAdd, Nat.reduceSub, Nat.reduceLeDiff, Nat.reduceEqDiff, Nat.reduceLT, reduceCtorEq, e0]
    rw [hs, List.drop_of_length_le hge]
    rfl

theorem s20 (nl fl) (l : List (ByteArray)) (g : FuncId) (caps : List AV) (p : ByteArray → Bool) (hg : fnOk Try.prog g = true) (hc : renL [] caps = caps) (hb : caps.map (borA 3 ⟨[], []⟩) = caps) (hq : ∀ x ∈ l, Aw.Spec Try.prog g [] ((S) x :: caps) (Gives (· = B (p x)))) (hl : l.length ≤ 9223372036854775807) :
    Aw.Spec Try.prog 20 [] [.imm nl fl 1 (l.map sc), .fn g caps] (Gives (· = B (l.any p))) := by
  refine Aw.Spec.givesD k20 mixed rfl rfl rfl fun E hn hnp hp => ?_
  unfold a20
  simp (config := { maxSteps := 2000000 }) only [go_sem, ↓reduceIte, Int.reduceToNat, Nat.reduceMul, Int.reduceBEq, Int.reduceBNe, Nat.reduceBEq, Nat.reduceAdd, Nat.reduceSub, Nat.reduceLeDiff, Nat.reduceEqDiff, Nat.reduceLT, reduceCtorEq]
  refine AWpL.callA [] (s24 nl fl l g caps p hg hc hq hl) rfl (by simp (config := { maxSteps := 2000000 }) only [go_sem, ↓reduceIte, Int.reduceToNat, Nat.reduceMul, Int.reduceBEq, Int.reduceBNe, Nat.reduceBEq, Nat.reduceAdd, Nat.reduceSub, Nat.reduceLeDiff, Nat.reduceEqDiff, Nat.reduceLT, reduceCtorEq, hc]) (by rw [hn]; rfl) rfl (fun r hr => by cases hr) fun rg v hv => ?_
  obtain ⟨rfl, rfl⟩ := hv
  refine ⟨Nat.le_refl _, ?_⟩
  rw [retS_nil]
  refine AWpL.ofM hn rfl ?_
  simp (config := { maxSteps := 2000000 }) only [go_sem, ↓reduceIte, Int.reduceToNat, Nat.reduceMul, Int.reduceBEq, Int.reduceBNe, Nat.reduceBEq, Nat.reduceAdd, Nat.reduceSub, Nat.reduceLeDiff, Nat.reduceEqDiff, Nat.reduceLT, reduceCtorEq]
  rw [fIndex_any]

theorem s22 (nl fl) (l : List (Paper)) (g : FuncId) (caps : List AV) (p : Paper → Bool) (hg : fnOk Try.prog g = true) (hc : renL [] caps = caps) (hq : ∀ x ∈ l, Aw.Spec Try.prog g [] ((ppa) x :: caps) (Gives (· = B (p x)))) (hl : l.length ≤ 9223372036854775807) :
    Aw.Spec Try.prog 22 [] [.imm nl fl 3 (l.map ppc), .fn g caps] (Gives (· = I (fIndex p 0 l))) := by
  refine Aw.Spec.givesD k22 mixed rfl rfl rfl fun E hn hnp hp => ?_
  unfold a22
  simp (config := { maxSteps := 2000000 }) only [go_sem, ↓reduceIte, Int.reduceToNat, Nat.reduceMul, Int.reduceBEq, Int.reduceBNe, Nat.reduceBEq, Nat.reduceAdd, Nat.reduceSub, Nat.reduceLeDiff, Nat.reduceEqDiff, Nat.reduceLT, reduceCtorEq]
  refine AWp.loop (fun k s => ∃ i : Nat, i + k = l.length ∧ fIndex p 0 l = fIndex p i (l.drop i) ∧ Weak E s ⟨[(0, .imm nl fl 3 (l.map ppc)), (1, .fn g caps), (7, I l.length), (8, I i)], []⟩) (n := l.length)
    ⟨0, by omega, rfl, weak_to [] hp hnp rfl (by simp (config := { maxSteps := 2000000 }) only [go_sem, ↓reduceIte, Int.reduceToNat, Nat.reduceMul, Int.reduceBEq, Int.reduceBNe, Nat.reduceBEq, Nat.reduceAdd, Nat.reduceSub, Nat.reduceLeDiff, Nat.reduceEqDiff, Nat.reduceLT, reduceCtorEq, hc, Int.natCast_zero]) rfl⟩ ?_
  rintro k s ⟨i, hi, hs, hw⟩
  refine AWp.weak hw (AWp.ofD [] [] hn mixed rfl ?_)
  rcases Nat.lt_or_ge i l.length with hlt | hge
  · have e0 : decide ((i : Int) < (l.length : Int)) = true := decide_eq_true (by omega)
    have e1 := getD_map ppc hlt
    have e2 : IntKind.i64.wrap ((i : Int) + 1) = ((i + 1 : Nat) : Int) := by rw [w64 (by omega) (by omega)]; omega
    have h2 := hq _ (List.getElem_mem hlt)
    rw [fIndex_drop hlt] at hs
    generalize l[i] = x at e1 h2 hs
    simp (config := { maxSteps := 2000000 }) only [go_sem, ↓reduceIte, Int.reduceToNat, Nat.reduceMul, Int.reduceBEq, Int.reduceBNe, Nat.reduceBEq, Nat.reduceAdd, Nat.reduceSub, Nat.reduceLeDiff, Nat.reduceEqDiff, Nat.reduceLT, reduceCtorEq, e0, e1]
    (repeat (refine And.intro (by first | omega | (refine ⟨by omega, by omega⟩) | (refine ⟨by omega, by omega, by omega⟩) | (simp only [List.length_map, List.length_range, List.length_append, List.length_cons, List.length_nil, List.length_replicate, List.length_set]; omega) | (simp; omega) | (intro hgd; cases hgd) | (intro hgd; refine ⟨hgd, ?_⟩; first | omega | (refine ⟨by omega, by omega⟩) | (simp; omega))) ?_))
    refine AWpL.callv rfl hg (by rw [← hc] at h2; exact h2) (by rw [hn]; rfl) fun rg v hv => ?_
    obtain ⟨rfl, rfl⟩ := hv
    rw [retS_nil]
    refine AWpL.ofM hn rfl ?_
    simp (config := { maxSteps := 2000000 }) only [go_sem, ↓reduceIte, Int.reduceToNat, Nat.reduceMul, Int.reduceBEq, Int.reduceBNe, Nat.reduceBEq, Nat.reduceAdd, Nat.reduceSub, Nat.reduceLeDiff, Nat.reduceEqDiff, Nat.reduceLT, reduceCtorEq, e2]
    refine ⟨fun h => ?_, fun h => ?_⟩
    · rw [hs, if_pos h]
    · rw [if_neg (by simp [h])] at hs
      exact ⟨k - 1, by omega, i + 1, by omega, hs, weak_to [] hp hnp rfl (by simp (config := { maxSteps := 2000000 }) only [go_sem, ↓reduceIte, Int.reduceToNat, Nat.reduceMul, Int.reduceBEq, Int.reduceBNe, Nat.reduceBEq, Nat.reduceAdd, Nat.reduceSub, Nat.reduceLeDiff, Nat.reduceEqDiff, Nat.reduceLT, reduceCtorEq, hc]) rfl⟩
  · have e0 : decide ((i : Int) < (l.length : Int)) = false := decide_eq_false (by omega)
    simp (config := { maxSteps := 2000000 }) only [go_sem, ↓reduceIte, Int.reduceToNat, Nat.reduceMul, Int.reduceBEq, Int.reduceBNe, Nat.reduceBEq, Nat.reduceAdd, Nat.reduceSub, Nat.reduceLeDiff, Nat.reduceEqDiff, Nat.reduceLT, reduceCtorEq, e0]
    rw [hs, List.drop_of_length_le hge]
    rfl

theorem s11 (nl full) (l : List (ByteArray)) (hl : l.length ≤ 1000000) : Aw.Spec Try.prog 11 [] [.imm nl full 1 (l.map sc)] (fun rg x => rg = [] ∧ x = .imm none false 1 (l.map sc)) := by
  refine Aw.Spec.nil1 fun b _ hb => ?_
  refine Aw.Spec.regsD k11 mixed rfl rfl rfl fun E hn hnp hp => ?_
  unfold a11
  simp (config := { maxSteps := 2000000 }) only [go_sem, ↓reduceIte, Int.reduceToNat, Nat.reduceMul, Int.reduceBEq, Int.reduceBNe, Nat.reduceBEq, Nat.reduceAdd, Nat.reduceSub, Nat.reduceLeDiff, Nat.reduceEqDiff, Nat.reduceLT, reduceCtorEq]
  refine ⟨fun h => ?_, fun h => ?_⟩
  · have hl0 : l = [] := by simpa using hb h
    subst hl0
    refine Retn.weak (weak_ent 2 (by rfl) (Ent.ofnil0 1)) _ (Retn.ret (π := []) hp hnp ⟨rfl, ?_⟩)
    simp (config := { maxSteps := 2000000 }) only [go_sem, ↓reduceIte, Int.reduceToNat, Nat.reduceMul, Int.reduceBEq, Int.reduceBNe, Nat.reduceBEq, Nat.reduceAdd, Nat.reduceSub, Nat.reduceLeDiff, Nat.reduceEqDiff, Nat.reduceLT, reduceCtorEq, Aw.resAVs, Aw.resAV]
    all_goals (try exact ⟨rfl, rfl⟩)
  · refine AWpL.app (r := 0) (els := []) rfl rfl rfl rfl (by rw [hn]; rfl) rfl (hp.none hnp (Nat.zero_le _)) trivial (fun el hm x hx => ?_) (by simp; omega) (by simp; omega) (AWpL.ofM hn rfl ?_)
    · obtain ⟨y, _, rfl⟩ := List.mem_map.1 hm
      simp only [List.mem_cons, List.not_mem_nil, or_false] at hx
      first | (subst hx; rfl) | (rcases hx with rfl | rfl; all_goals rfl) | (rcases hx with rfl | rfl | rfl; all_goals rfl) | (rcases hx with rfl | rfl | rfl | rfl; all_goals rfl) | (rcases hx with rfl | rfl | rfl | rfl | rfl; all_goals rfl) | (rcases hx with rfl | rfl | rfl | rfl | rfl | rfl; all_goals rfl)
    simp (config := { maxSteps := 2000000 }) only [go_sem, ↓reduceIte, Int.reduceToNat, Nat.reduceMul, Int.reduceBEq, Int.reduceBNe, Nat.reduceBEq, Nat.reduceAdd, Nat.reduceSub, Nat.reduceLeDiff, Nat.reduceEqDiff, Nat.reduceLT, reduceCtorEq, Aw.killS, Aw.mapT, Aw.mapR, Aw.killM]
    refine Retn.weak (weak_freeze 0 rfl (hp.none hnp (Nat.zero_le _)) ?_) _ ?_
    · simp (config := { maxSteps := 2000000 }) only [go_sem, ↓reduceIte, Int.reduceToNat, Nat.reduceMul, Int.reduceBEq, Int.reduceBNe, Nat.reduceBEq, Nat.reduceAdd, Nat.reduceSub, Nat.reduceLeDiff, Nat.reduceEqDiff, Nat.reduceLT, reduceCtorEq, Nat.le_refl]
    refine Retn.weak (weak_ent 2 (by rfl) (Ent.plain _ _ _ _)) _ (Retn.ret (π := []) hp hnp ⟨rfl, ?_⟩)
    simp (config := { maxSteps := 2000000 }) only [go_sem, ↓reduceIte, Int.reduceToNat, Nat.reduceMul, Int.reduceBEq, Int.reduceBNe, Nat.reduceBEq, Nat.reduceAdd, Nat.reduceSub, Nat.reduceLeDiff, Nat.reduceEqDiff, Nat.reduceLT, reduceCtorEq]
    first | (exact ⟨rfl, by rw [List.take_of_length_le (by simp)]⟩) | (rw [List.take_of_length_le (by simp)])

def chkD : List ByteArray → List ByteArray → Int
  | _, [] => 0
  | prev, x :: r => if nm 8 x = false then 6 else if prev.any (seq x) = true then 7 else chkD (prev ++ [x]) r
def perChk (l : List ByteArray) : Int := if 256 < l.length then 2 else chkD [] l
theorem chkD_drop {prev l : List ByteArray} {j : Nat} (h : j < l.length) : chkD prev (l.drop j) = if nm 8 l[j] = false then 6 else if prev.any (seq l[j]) = true then 7 else chkD (prev ++ [l[j]]) (l.drop (j + 1)) := by
  rw [List.drop_eq_getElem_cons h]; rfl
set_option maxRecDepth 20000 in
theorem s6 (nl fl) (l : List ByteArray) (hs : ∀ x ∈ l, x.size ≤ 9223372036854775807) : Aw.Spec Try.prog 6 [] [ss nl fl l] (Gives (· = I (perChk l))) := by
  refine Aw.Spec.givesD k6 mixed rfl rfl rfl fun E hn hnp hp => ?_
  unfold a6
  simp (config := { maxSteps := 2000000 }) only [go_sem, ↓reduceIte, Int.reduceToNat, Nat.reduceMul, Int.reduceBEq, Int.reduceBNe, Nat.reduceBEq, Nat.reduceAdd, Nat.reduceSub, Nat.reduceLeDiff, Nat.reduceEqDiff, Nat.reduceLT, reduceCtorEq]
  simp only [decide_eq_true_eq, decide_eq_false_iff_not]
  refine ⟨fun h => ?_, fun h => ?_⟩
  · unfold perChk; rw [if_pos (by omega)]
  have hE : perChk l = chkD [] l := by unfold perChk; rw [if_neg (by omega)]
  rw [hE]
  have h256 : l.length ≤ 256 := by omega
  refine AWp.loop (fun k s => ∃ i : Nat, i + k = l.length ∧ chkD [] l = chkD (l.take i) (l.drop i) ∧ Weak E s ⟨[(0, ss nl fl l), (8, ss nl fl l), (9, I l.length), (10, I i)], []⟩) (n := l.length)
    ⟨0, by omega, rfl, weak_to [] hp hnp rfl (by simp (config := { maxSteps := 2000000 }) only [go_sem, ↓reduceIte, Int.reduceToNat, Nat.reduceMul, Int.reduceBEq, Int.reduceBNe, Nat.reduceBEq, Nat.reduceAdd, Nat.reduceSub, Nat.reduceLeDiff, Nat.reduceEqDiff, Nat.reduceLT, reduceCtorEq]) rfl⟩ ?_
  rintro k s ⟨i, hi, hc, hw⟩
  refine AWp.weak hw (AWp.ofD [] [] hn mixed rfl ?_)
  rcases Nat.lt_or_ge i l.length with hlt | hge
  · have e0 : decide ((i : Int) < (l.length : Int)) = true := decide_eq_true (by omega)
    have e1 := getD_map sc hlt
    have e2 : IntKind.i64.wrap ((i : Int) + 1) = ((i + 1 : Nat) : Int) := by rw [w64 (by omega) (by omega)]; omega
    have hx := hs _ (List.getElem_mem hlt)
    have htk := take_get hlt
    rw [chkD_drop hlt, ← htk] at hc
    generalize l[i] = x at e1 hx hc
    have hmt : (l.map sc).take i = (l.take i).map sc := List.map_take.symm
    simp (config := { maxSteps := 2000000 }) only [go_sem, ↓reduceIte, Int.reduceToNat, Nat.reduceMul, Int.reduceBEq, Int.reduceBNe, Nat.reduceBEq, Nat.reduceAdd, Nat.reduceSub, Nat.reduceLeDiff, Nat.reduceEqDiff, Nat.reduceLT, reduceCtorEq, e0, e1]
    (repeat (refine And.intro (by first | omega | (refine ⟨by omega, by omega⟩) | (refine ⟨by omega, by omega, by omega⟩) | (simp only [List.length_map, List.length_range, List.length_append, List.length_cons, List.length_nil, List.length_replicate, List.length_set]; omega) | (simp; omega) | (intro hgd; cases hgd) | (intro hgd; refine ⟨hgd, ?_⟩; first | omega | (refine ⟨by omega, by omega⟩) | (simp; omega))) ?_))
    (refine AWpL.calle (s13 x hx) rfl (by rw [hn]; rfl) (by simp (config := { maxSteps := 2000000 }) only [go_sem, ↓reduceIte, Int.reduceToNat, Nat.reduceMul, Int.reduceBEq, Int.reduceBNe, Nat.reduceBEq, Nat.reduceAdd, Nat.reduceSub, Nat.reduceLeDiff, Nat.reduceEqDiff, Nat.reduceLT, reduceCtorEq]) (AWpL.ofM hn rfl ?_); simp (config := { maxSteps := 2000000 }) only [go_sem, ↓reduceIte, Int.reduceToNat, Nat.reduceMul, Int.reduceBEq, Int.reduceBNe, Nat.reduceBEq, Nat.reduceAdd, Nat.reduceSub, Nat.reduceLeDiff, Nat.reduceEqDiff, Nat.reduceLT, reduceCtorEq])
    refine ⟨fun h => ?_, fun h => ?_⟩
    · rw [if_pos (by simpa using h)] at hc
      rw [hc]
    rw [if_neg (by simpa using h)] at hc
    (repeat (refine And.intro (by first | omega | (refine ⟨by omega, by omega⟩) | (refine ⟨by omega, by omega, by omega⟩) | (simp only [List.length_map, List.length_range, List.length_append, List.length_cons, List.length_nil, List.length_replicate, List.length_set]; omega) | (simp; omega) | (intro hgd; cases hgd) | (intro hgd; refine ⟨hgd, ?_⟩; first | omega | (refine ⟨by omega, by omega⟩) | (simp; omega))) ?_))
    simp (config := { maxSteps := 2000000 }) only [go_sem, ↓reduceIte, Int.reduceToNat, Nat.reduceMul, Int.reduceBEq, Int.reduceBNe, Nat.reduceBEq, Nat.reduceAdd, Nat.reduceSub, Nat.reduceLeDiff, Nat.reduceEqDiff, Nat.reduceLT, reduceCtorEq, hmt]
    (refine AWpL.calle (s14 nl false (l.take i) x (by simp; omega)) rfl (by rw [hn]; rfl) (by simp (config := { maxSteps := 2000000 }) only [go_sem, ↓reduceIte, Int.reduceToNat, Nat.reduceMul, Int.reduceBEq, Int.reduceBNe, Nat.reduceBEq, Nat.reduceAdd, Nat.reduceSub, Nat.reduceLeDiff, Nat.reduceEqDiff, Nat.reduceLT, reduceCtorEq]) (AWpL.ofM hn rfl ?_); simp (config := { maxSteps := 2000000 }) only [go_sem, ↓reduceIte, Int.reduceToNat, Nat.reduceMul, Int.reduceBEq, Int.reduceBNe, Nat.reduceBEq, Nat.reduceAdd, Nat.reduceSub, Nat.reduceLeDiff, Nat.reduceEqDiff, Nat.reduceLT, reduceCtorEq])
    refine ⟨fun h3 => ?_, fun h3 => ?_⟩
    · rw [if_pos h3] at hc
      rw [hc]
    rw [if_neg (by simp [h3])] at hc
    simp (config := { maxSteps := 2000000 }) only [go_sem, ↓reduceIte, Int.reduceToNat, Nat.reduceMul, Int.reduceBEq, Int.reduceBNe, Nat.reduceBEq, Nat.reduceAdd, Nat.reduceSub, Nat.reduceLeDiff, Nat.reduceEqDiff, Nat.reduceLT, reduceCtorEq, e2]
    exact ⟨k - 1, by omega, i + 1, by omega, hc, weak_to [] hp hnp rfl (by simp (config := { maxSteps := 2000000 }) only [go_sem, ↓reduceIte, Int.reduceToNat, Nat.reduceMul, Int.reduceBEq, Int.reduceBNe, Nat.reduceBEq, Nat.reduceAdd, Nat.reduceSub, Nat.reduceLeDiff, Nat.reduceEqDiff, Nat.reduceLT, reduceCtorEq]) rfl⟩
  · have e0 : decide ((i : Int) < (l.length : Int)) = false := decide_eq_false (by omega)
    simp (config := { maxSteps := 2000000 }) only [go_sem, ↓reduceIte, Int.reduceToNat, Nat.reduceMul, Int.reduceBEq, Int.reduceBNe, Nat.reduceBEq, Nat.reduceAdd, Nat.reduceSub, Nat.reduceLeDiff, Nat.reduceEqDiff, Nat.reduceLT, reduceCtorEq, e0]
    rw [hc, List.drop_of_length_le hge]; rfl
/-- A desk. -/
structure Dk where
  dev : List ByteArray
  papers : List Paper
  last : Int
abbrev dkR (d : Dk) : List Reg := [.box 40 [ss none false d.dev, .hnd 1 0 d.papers.length d.papers.length false, I d.last], .arr 34 3 (d.papers.map ppc)]
/-- A desk, lent. -/
abbrev dkA (d : Dk) : AV := .pim [ss none false d.dev, .imm none false 3 (d.papers.map ppc), I d.last]
theorem s4 (nl fl) (l : List ByteArray) (hs : ∀ x ∈ l, x.size ≤ 9223372036854775807) (hl : l.length ≤ 9223372036854775807) : Aw.Spec Try.prog 4 [] [ss nl fl l] (fun rg v =>
    (perChk l ≠ 0 → rg = [] ∧ v = .tup [.val (.pointer none), I (perChk l)]) ∧ (perChk l = 0 → rg = dkR ⟨l, [], 0⟩ ∧ v = .tup [.ptr 0 0 0, I 0])) := by
  refine Aw.Spec.regsD k4 mixed rfl rfl rfl fun E hn hnp hp => ?_
  unfold a4
  simp (config := { maxSteps := 2000000 }) only [go_sem, ↓reduceIte, Int.reduceToNat, Nat.reduceMul, Int.reduceBEq, Int.reduceBNe, Nat.reduceBEq, Nat.reduceAdd, Nat.reduceSub, Nat.reduceLeDiff, Nat.reduceEqDiff, Nat.reduceLT, reduceCtorEq]
  (refine AWpL.calle (s6 nl fl l hs) rfl (by rw [hn]; rfl) (by simp (config := { maxSteps := 2000000 }) only [go_sem, ↓reduceIte, Int.reduceToNat, Nat.reduceMul, Int.reduceBEq, Int.reduceBNe, Nat.reduceBEq, Nat.reduceAdd, Nat.reduceSub, Nat.reduceLeDiff, Nat.reduceEqDiff, Nat.reduceLT, reduceCtorEq]) (AWpL.ofM hn rfl ?_); simp (config := { maxSteps := 2000000 }) only [go_sem, ↓reduceIte, Int.reduceToNat, Nat.reduceMul, Int.reduceBEq, Int.reduceBNe, Nat.reduceBEq, Nat.reduceAdd, Nat.reduceSub, Nat.reduceLeDiff, Nat.reduceEqDiff, Nat.reduceLT, reduceCtorEq])
  simp only [bne_iff_ne, ne_eq, bne_eq_false_iff_eq]
  refine ⟨fun h => Retn.ret (π := []) hp hnp ⟨rfl, ?_⟩, fun h => ?_⟩
  · simp (config := { maxSteps := 2000000 }) only [go_sem, ↓reduceIte, Int.reduceToNat, Nat.reduceMul, Int.reduceBEq, Int.reduceBNe, Nat.reduceBEq, Nat.reduceAdd, Nat.reduceSub, Nat.reduceLeDiff, Nat.reduceEqDiff, Nat.reduceLT, reduceCtorEq]
    exact fun h2 => absurd h2 h
  have hl2 : l.length ≤ 256 := by
    unfold perChk at h
    split at h
    · cases h
    · omega
  refine AWpL.callA [] (s11 nl fl l (by omega)) rfl rfl (by rw [hn]; rfl) rfl (fun r hr => by cases hr) fun rg v hv => ?_
  obtain ⟨rfl, rfl⟩ := hv
  refine ⟨Nat.le_refl _, ?_⟩
  rw [retS_nil]
  refine AWpL.ofM hn rfl ?_
  simp (config := { maxSteps := 2000000 }) only [go_sem, ↓reduceIte, Int.reduceToNat, Nat.reduceMul, Int.reduceBEq, Int.reduceBNe, Nat.reduceBEq, Nat.reduceAdd, Nat.reduceSub, Nat.reduceLeDiff, Nat.reduceEqDiff, Nat.reduceLT, reduceCtorEq]
  refine Retn.weak (weak_nilbox 0 1 34 3 rfl rfl) _ (Retn.ret (π := [0, 1]) hp hnp ⟨rfl, ?_⟩)
  simp (config := { maxSteps := 2000000 }) only [go_sem, ↓reduceIte, Int.reduceToNat, Nat.reduceMul, Int.reduceBEq, Int.reduceBNe, Nat.reduceBEq, Nat.reduceAdd, Nat.reduceSub, Nat.reduceLeDiff, Nat.reduceEqDiff, Nat.reduceLT, reduceCtorEq, Aw.renR, Aw.pos]
  exact ⟨fun h2 => absurd h h2, fun _ => rfl⟩
theorem s21 (d : Dk) (x : ByteArray) (hd : d.dev.length ≤ 256) : Aw.Spec Try.prog 21 [] [S x, .pim [dkA d]] (Gives (· = B (!d.dev.any (seq x)))) := by
  refine Aw.Spec.givesD k21 mixed rfl rfl rfl fun E hn hnp hp => ?_
  unfold a21
  simp (config := { maxSteps := 2000000 }) only [go_sem, ↓reduceIte, Int.reduceToNat, Nat.reduceMul, Int.reduceBEq, Int.reduceBNe, Nat.reduceBEq, Nat.reduceAdd, Nat.reduceSub, Nat.reduceLeDiff, Nat.reduceEqDiff, Nat.reduceLT, reduceCtorEq]
  (refine AWpL.calle (s14 none false d.dev x (by omega)) rfl (by rw [hn]; rfl) (by simp (config := { maxSteps := 2000000 }) only [go_sem, ↓reduceIte, Int.reduceToNat, Nat.reduceMul, Int.reduceBEq, Int.reduceBNe, Nat.reduceBEq, Nat.reduceAdd, Nat.reduceSub, Nat.reduceLeDiff, Nat.reduceEqDiff, Nat.reduceLT, reduceCtorEq]) (AWpL.ofM hn rfl ?_); simp (config := { maxSteps := 2000000 }) only [go_sem, ↓reduceIte, Int.reduceToNat, Nat.reduceMul, Int.reduceBEq, Int.reduceBNe, Nat.reduceBEq, Nat.reduceAdd, Nat.reduceSub, Nat.reduceLeDiff, Nat.reduceEqDiff, Nat.reduceLT, reduceCtorEq])
def knownE (d : Dk) (l : List ByteArray) : Int := if l.any (fun x => !d.dev.any (seq x)) = true then 8 else 0
theorem s15 (d : Dk) (nl fl) (l : List ByteArray) (hd : d.dev.length ≤ 256) (hl : l.length ≤ 9223372036854775807) : Aw.Spec Try.prog 15 [] [dkA d, ss nl fl l] (Gives (· = I (knownE d l))) := by
  refine Aw.Spec.givesD k15 mixed rfl rfl rfl fun E hn hnp hp => ?_
  unfold a15
  simp (config := { maxSteps := 2000000 }) only [go_sem, ↓reduceIte, Int.reduceToNat, Nat.reduceMul, Int.reduceBEq, Int.reduceBNe, Nat.reduceBEq, Nat.reduceAdd, Nat.reduceSub, Nat.reduceLeDiff, Nat.reduceEqDiff, Nat.reduceLT, reduceCtorEq]
  (refine AWpL.calle (s20 nl fl l 21 [.pim [dkA d]] (fun x => !d.dev.any (seq x)) (by kernel_rfl) rfl rfl (fun x _ => s21 d x hd) hl) rfl (by rw [hn]; rfl) (by simp (config := { maxSteps := 2000000 }) only [go_sem, ↓reduceIte, Int.reduceToNat, Nat.reduceMul, Int.reduceBEq, Int.reduceBNe, Nat.reduceBEq, Nat.reduceAdd, Nat.reduceSub, Nat.reduceLeDiff, Nat.reduceEqDiff, Nat.reduceLT, reduceCtorEq]) (AWpL.ofM hn rfl ?_); simp (config := { maxSteps := 2000000 }) only [go_sem, ↓reduceIte, Int.reduceToNat, Nat.reduceMul, Int.reduceBEq, Int.reduceBNe, Nat.reduceBEq, Nat.reduceAdd, Nat.reduceSub, Nat.reduceLeDiff, Nat.reduceEqDiff, Nat.reduceLT, reduceCtorEq])
  unfold knownE
  refine ⟨fun h => ?_, fun h => ?_⟩
  · rw [if_pos h]
  · rw [if_neg (by simp [h])]
theorem s23 (p : Paper) (n : Int) : Aw.Spec Try.prog 23 [] [ppa p, .pim [I n]] (Gives (· = B (p.num == n))) := by
  refine Aw.Spec.givesD k23 mixed rfl rfl rfl fun E hn hnp hp => ?_
  unfold a23
  simp (config := { maxSteps := 2000000 }) only [go_sem, ↓reduceIte, Int.reduceToNat, Nat.reduceMul, Int.reduceBEq, Int.reduceBNe, Nat.reduceBEq, Nat.reduceAdd, Nat.reduceSub, Nat.reduceLeDiff, Nat.reduceEqDiff, Nat.reduceLT, reduceCtorEq]
end Go.Proofs.Ytmepjgpmhkahdaa
