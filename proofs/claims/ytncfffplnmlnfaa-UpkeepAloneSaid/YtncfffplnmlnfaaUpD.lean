/- Upkeep: what Best and Verify compute. -/
import Derived.Test.YtncfffplnmlnfaaAwZf
import Derived.Test.YtncfffplnmlnfaaUpC
set_option linter.unusedVariables false
set_option linter.unusedSimpArgs false
namespace Go.Proofs.Ytncfffplnmlnfaa
open Go.Proofs.Ytncfffplnmlnfaa.Aw
attribute [local go_sem] Int.natCast_zero Int.natCast_one bne_self_eq_false beq_self_eq_true Bool.not_true Bool.not_false Option.isSome_none Option.isSome_some Aw.bkM_nil Option.getD_some Option.getD_none Nat.sub_zero Int.toNat_zero Aw.frzS Aw.frzT Aw.frzA Aw.frzL Aw.frzR Aw.frzO Aw.frzOL Aw.frzOT Aw.frzOR Aw.killS Aw.mapT Aw.mapR Aw.killM Aw.resAVs Aw.resAV Aw.quietOps Aw.wpP Aw.wpT Aw.wpS Aw.AOp.mild List.getElem?_cons_zero List.getElem?_cons_succ Bool.and_false Bool.and_self Bool.false_and Aw.opOb Aw.gdB Aw.Rnd Aw.subTm List.length_map Int.toNat_natCast and_self Aw.SeqC Aw.stops Aw.Ends Aw.looks Aw.renA Aw.renL Aw.renT Aw.renS Aw.wpO Aw.aop Aw.putTm Aw.St.ev Aw.St.put Aw.St.putO Aw.binAV Aw.intBin Aw.strBin Aw.pickAV Aw.optInt Aw.AV.strip Aw.AV.guard Aw.AV.cells Aw.gdOb Aw.AOp.opds Aw.AOp.still Aw.ptrCells Aw.St.reg Aw.fillAV Aw.fillOb Aw.elsOb Aw.splice Aw.firm Aw.cellish Aw.AV.shut Aw.shutAll Aw.Seq Aw.Blk Aw.retS_nil Aw.mapA Aw.mapL Aw.borA Aw.borOb Aw.allOb Aw.tupOf Aw.params Aw.Opd.of Array.toList Value.cells List.map_cons List.map_nil List.getD_cons_zero List.getD_cons_succ List.getD_nil List.length_cons List.length_nil List.take_succ_cons List.take_zero List.take_nil List.drop_zero List.drop_succ_cons List.drop_nil List.set_cons_zero List.set_cons_succ List.append_nil List.nil_append List.cons_append List.all_cons List.all_nil cond_false cond_true if_true if_false true_and and_true Bool.and_true Bool.true_and Option.map_some Option.map_none false_implies forall_const implies_true forall_eq imp_self Bool.cond_false_right Bool.cond_true_left beq_true beq_false Bool.not_eq_true' Bool.false_eq_true Nat.zero_add Nat.add_zero Aw.eqCells Aw.exactCap Aw.overEls Aw.revealS Aw.srcEls Aw.srcSz
attribute [local go_sem ↓] Aw.look_nil Aw.look_ite Aw.wpL_nil Aw.wpL_op Aw.wpL_gd Aw.wpQ_nil Aw.wpQ_op Aw.wpQ_gd Aw.wpC_draw Aw.wpC_reg Aw.wpC_skip Aw.wpC_ret Aw.wpC_exit Aw.wpC_seq Aw.wpC_block Aw.wpC_loop Aw.wpC_cond Aw.stopAt_nil Aw.stopAt_cons Aw.wpD_skip Aw.wpD_ret Aw.wpD_exit Aw.wpD_region Aw.wpD_draw Aw.wpM_nil Aw.wpM_op Aw.wpM_gd Aw.wpD_seq Aw.wpD_block Aw.wpD_loop Aw.wpD_cond

/- gridhall/upkeep.Best -/
def a7 : ACode :=
  (.seq (.region false [] [
     ⟨(some 1), none, (.box 25 (.t 0))⟩,
     ⟨(some 2), none, (.mov (.v (.slice none 0 0)))⟩,
     ⟨(some 3), none, (.mov (.v (.int .i64 0)))⟩,
     ⟨(some 4), none, (.mov (.v (.int .i64 0)))⟩])
  (.seq (.seq (.region false [] [
     ⟨(some 7), none, (.load 3 true (.t 1))⟩,
     ⟨(some 8), none, (.call 12 [(.t 7)])⟩,
     ⟨(some 5), none, (.mov (.t 8))⟩])
  (.seq (.region false [] [
     ⟨(some 9), none, (.mov (.t 5))⟩,
     ⟨(some 10), none, (.bin .neq 28 (.t 9) (.v (.int .i64 0)))⟩])
  (.cond (.t 10)
    (.seq (.region false [] [
       ⟨(some 11), none, (.mov (.t 5))⟩,
       ⟨(some 2), none, (.mov (.v (.slice none 0 0)))⟩,
       ⟨(some 3), none, (.mov (.v (.int .i64 0)))⟩,
       ⟨(some 4), none, (.mov (.t 11))⟩])
    .ret)
    .skip)))
  (.seq (.seq (.region false [] [
     ⟨(some 12), none, (.fld 0 (.t 1))⟩,
     ⟨(some 13), none, (.load 1 false (.t 12))⟩,
     ⟨(some 14), none, (.len (.t 13))⟩,
     ⟨(some 15), none, (.bin .eql 3 (.t 14) (.v (.int .i64 0)))⟩])
  (.cond (.t 15)
    (.seq (.region false [] [
       ⟨(some 2), none, (.mov (.v (.slice none 0 0)))⟩,
       ⟨(some 3), none, (.mov (.v (.int .i64 0)))⟩,
       ⟨(some 4), none, (.mov (.v (.int .i64 0)))⟩])
    .ret)
    .skip))
  (.seq (.region false [] [
     ⟨(some 16), none, (.load 3 true (.t 1))⟩,
     ⟨(some 17), none, (.call 13 [(.t 16), (.v (.slice none 0 0)), (.v (.slice none 0 0))])⟩,
     ⟨(some 6), none, (.mov (.t 17))⟩])
  (.seq (.seq (.region false [] [
     ⟨(some 18), none, (.mov (.t 6))⟩,
     ⟨(some 19), none, (.nilS false (.t 18))⟩])
  (.cond (.t 19)
    (.seq (.region false [] [
       ⟨(some 2), none, (.mov (.v (.slice none 0 0)))⟩,
       ⟨(some 3), none, (.mov (.v (.int .i64 0)))⟩,
       ⟨(some 4), none, (.mov (.v (.int .i64 8)))⟩])
    .ret)
    .skip))
  (.seq (.region false [] [
     ⟨(some 20), none, (.mov (.t 6))⟩,
     ⟨(some 21), none, (.load 3 true (.t 1))⟩,
     ⟨(some 22), none, (.mov (.t 6))⟩,
     ⟨(some 23), none, (.call 14 [(.t 21), (.t 22)])⟩,
     ⟨(some 2), none, (.mov (.t 20))⟩,
     ⟨(some 3), none, (.mov (.t 23))⟩,
     ⟨(some 4), none, (.mov (.v (.int .i64 0)))⟩])
  .ret))))))
theorem k7 : FnIs Try.prog 7 24 [.t 2, .t 3, .t 4] a7 := ⟨_, _, Try.func7, rfl, by kernel_rfl, by kernel_rfl, rfl⟩
/- gridhall/upkeep.Verify -/
def a9 : ACode :=
  (.seq (.region false [] [
     ⟨(some 2), none, (.box 25 (.t 0))⟩,
     ⟨(some 4), none, (.mov (.v (.int .i64 0)))⟩,
     ⟨(some 5), none, (.mov (.v (.int .i64 0)))⟩])
  (.seq (.seq (.region false [] [
     ⟨(some 11), none, (.load 3 true (.t 2))⟩,
     ⟨(some 12), none, (.call 12 [(.t 11)])⟩,
     ⟨(some 6), none, (.mov (.t 12))⟩])
  (.seq (.region false [] [
     ⟨(some 13), none, (.mov (.t 6))⟩,
     ⟨(some 14), none, (.bin .neq 28 (.t 13) (.v (.int .i64 0)))⟩])
  (.cond (.t 14)
    (.seq (.region false [] [
       ⟨(some 15), none, (.mov (.t 6))⟩,
       ⟨(some 4), none, (.mov (.v (.int .i64 0)))⟩,
       ⟨(some 5), none, (.mov (.t 15))⟩])
    .ret)
    .skip)))
  (.seq (.seq (.region false [] [
     ⟨(some 16), none, (.mov (.t 1))⟩,
     ⟨(some 17), none, (.len (.t 16))⟩,
     ⟨(some 18), none, (.fld 0 (.t 2))⟩,
     ⟨(some 19), none, (.load 1 false (.t 18))⟩,
     ⟨(some 20), none, (.len (.t 19))⟩,
     ⟨(some 21), none, (.bin .neq 3 (.t 17) (.t 20))⟩])
  (.cond (.t 21)
    (.seq (.region false [] [
       ⟨(some 4), none, (.mov (.v (.int .i64 0)))⟩,
       ⟨(some 5), none, (.mov (.v (.int .i64 3)))⟩])
    .ret)
    .skip))
  (.seq (.seq (.region false [] [
     ⟨(some 22), none, (.mov (.t 1))⟩,
     ⟨(some 23), none, (.len (.t 22))⟩,
     ⟨(some 24), none, (.mov (.v (.int .i64 0)))⟩])
  (.block 0 (.loop (.seq (.region false [] [
       ⟨(some 25), none, (.bin .lss 3 (.t 24) (.t 23))⟩])
    (.seq (.cond (.t 25)
      .skip
      (.exit 0))
    (.seq (.block 1 (.seq (.region false [] [
        ⟨(some 26), none, (.mov (.t 24))⟩,
        ⟨(some 27), none, (.idx 1 (.t 22) (.t 24))⟩,
        ⟨(some 28), none, (.load 1 false (.t 27))⟩,
        ⟨(some 7), none, (.mov (.t 26))⟩,
        ⟨(some 8), none, (.mov (.t 28))⟩])
     (.seq (.region false [] [
        ⟨(some 29), none, (.mov (.t 8))⟩,
        ⟨(some 30), none, (.fld 0 (.t 2))⟩,
        ⟨(some 31), none, (.load 1 false (.t 30))⟩,
        ⟨(some 32), none, (.mov (.t 7))⟩,
        ⟨(some 33), none, (.idx 5 (.t 31) (.t 32))⟩,
        ⟨(some 34), none, (.fld 2 (.t 33))⟩,
        ⟨(some 35), none, (.load 1 false (.t 34))⟩,
        ⟨(some 36), none, (.bin .lss 3 (.t 29) (.t 35))⟩,
        ⟨(some 37), none, (.mov (.t 36))⟩,
        ⟨(some 38), (some (37, false)), (.mov (.t 8))⟩,
        ⟨(some 39), (some (37, false)), (.fld 0 (.t 2))⟩,
        ⟨(some 40), (some (37, false)), (.load 1 false (.t 39))⟩,
        ⟨(some 41), (some (37, false)), (.mov (.t 7))⟩,
        ⟨(some 42), (some (37, false)), (.idx 5 (.t 40) (.t 41))⟩,
        ⟨(some 43), (some (37, false)), (.fld 3 (.t 42))⟩,
        ⟨(some 44), (some (37, false)), (.load 1 false (.t 43))⟩,
        ⟨(some 45), (some (37, false)), (.bin .gtr 3 (.t 38) (.t 44))⟩,
        ⟨(some 46), none, (.pick (.t 37) (.v (.bool true)) (.t 45))⟩])
     (.cond (.t 46)
       (.seq (.region false [] [
          ⟨(some 4), none, (.mov (.v (.int .i64 0)))⟩,
          ⟨(some 5), none, (.mov (.v (.int .i64 12)))⟩])
       .ret)
       .skip))))
    (.region false [] [
       ⟨(some 47), none, (.bin .add 3 (.t 24) (.v (.int .i64 1)))⟩,
       ⟨(some 24), none, (.mov (.t 47))⟩])))))))
  (.seq (.seq (.region false [] [
     ⟨(some 48), none, (.mov (.t 1))⟩,
     ⟨(some 49), none, (.len (.t 48))⟩,
     ⟨(some 50), none, (.mov (.v (.int .i64 0)))⟩])
  (.block 2 (.loop (.seq (.region false [] [
       ⟨(some 51), none, (.bin .lss 3 (.t 50) (.t 49))⟩])
    (.seq (.cond (.t 51)
      .skip
      (.exit 2))
    (.seq (.block 3 (.seq (.region false [] [
        ⟨(some 52), none, (.mov (.t 50))⟩,
        ⟨(some 9), none, (.mov (.t 52))⟩])
     (.seq (.region true [[], [], [], [2], [1, 3], [0, 4], [5, 5, 0, 1, 2, 3, 4, 5]] [
        ⟨(some 53), none, (.load 3 true (.t 2))⟩,
        ⟨(some 54), none, (.mov (.t 1))⟩,
        ⟨(some 55), none, (.mov (.t 9))⟩,
        ⟨(some 56), none, (.bin .add 3 (.t 55) (.v (.int .i64 1)))⟩,
        ⟨(some 57), none, (.slc 1 (.t 54) none (some (.t 56)) none)⟩,
        ⟨(some 58), none, (.call 16 [(.t 53), (.t 57)])⟩,
        ⟨(some 10), none, (.mov (.t 58))⟩])
     (.seq (.region false [] [
        ⟨(some 59), none, (.mov (.t 10))⟩,
        ⟨(some 60), none, (.bin .neq 28 (.t 59) (.v (.int .i64 0)))⟩])
     (.cond (.t 60)
       (.seq (.region false [] [
          ⟨(some 61), none, (.mov (.t 10))⟩,
          ⟨(some 4), none, (.mov (.v (.int .i64 0)))⟩,
          ⟨(some 5), none, (.mov (.t 61))⟩])
       .ret)
       .skip)))))
    (.region false [] [
       ⟨(some 62), none, (.bin .add 3 (.t 50) (.v (.int .i64 1)))⟩,
       ⟨(some 50), none, (.mov (.t 62))⟩])))))))
  (.seq (.region false [] [
     ⟨(some 63), none, (.load 3 true (.t 2))⟩,
     ⟨(some 64), none, (.mov (.t 1))⟩,
     ⟨(some 65), none, (.call 14 [(.t 63), (.t 64)])⟩,
     ⟨(some 4), none, (.mov (.t 65))⟩,
     ⟨(some 5), none, (.mov (.v (.int .i64 0)))⟩])
  .ret))))))
theorem k9 : FnIs Try.prog 9 66 [.t 4, .t 5] a9 := ⟨_, _, Try.func9, rfl, by kernel_rfl, by kernel_rfl, rfl⟩
/- gridhall/gridhallref4.In -/
def a11 : ACode :=
  (.seq (.region false [] [
     ⟨(some 6), none, (.mov (.v (.bool false)))⟩])
  (.seq (.region false [] [
     ⟨(some 7), none, (.mov (.t 0))⟩,
     ⟨(some 8), none, (.mov (.t 1))⟩,
     ⟨(some 9), none, (.bin .geq 3 (.t 7) (.t 8))⟩,
     ⟨(some 10), none, (.mov (.t 9))⟩,
     ⟨(some 11), (some (10, true)), (.mov (.t 0))⟩,
     ⟨(some 12), (some (10, true)), (.mov (.t 2))⟩,
     ⟨(some 13), (some (10, true)), (.bin .leq 3 (.t 11) (.t 12))⟩,
     ⟨(some 14), none, (.pick (.t 10) (.t 13) (.v (.bool false)))⟩,
     ⟨(some 6), none, (.mov (.t 14))⟩])
  .ret))
theorem k11 : FnIs Try.prog 11 15 [.t 6] a11 := ⟨_, _, Try.func11, rfl, by kernel_rfl, by kernel_rfl, rfl⟩
/- gridhall/gridhallkeep4.small -/
def a6 : ACode :=
  (.seq (.region false [] [
     ⟨(some 1), none, (.box 25 (.t 0))⟩,
     ⟨(some 2), none, (.alloc 25 (.agg #[(.slice none 0 0), (.slice none 0 0), (.int .i64 0)]))⟩])
  (.seq (.region false [] [
     ⟨(some 5), none, (.fld 0 (.t 1))⟩,
     ⟨(some 6), none, (.load 1 false (.t 5))⟩,
     ⟨(some 7), none, (.fld 0 (.t 1))⟩,
     ⟨(some 8), none, (.load 1 false (.t 7))⟩,
     ⟨(some 9), none, (.len (.t 8))⟩,
     ⟨(some 10), none, (.mni (.t 9) (.v (.int .i64 4)))⟩,
     ⟨(some 11), none, (.slc 5 (.t 6) none (some (.t 10)) none)⟩,
     ⟨(some 12), none, (.call 10 [(.t 11)])⟩,
     ⟨(some 13), none, (.fld 0 (.t 1))⟩,
     ⟨none, none, (.store 1 (.t 13) (.t 12))⟩])
  (.seq (.seq (.region false [] [
     ⟨(some 14), none, (.fld 0 (.t 1))⟩,
     ⟨(some 15), none, (.load 1 false (.t 14))⟩,
     ⟨(some 16), none, (.len (.t 15))⟩,
     ⟨(some 17), none, (.mov (.v (.int .i64 0)))⟩])
  (.block 0 (.loop (.seq (.region false [] [
       ⟨(some 18), none, (.bin .lss 3 (.t 17) (.t 16))⟩])
    (.seq (.cond (.t 18)
      .skip
      (.exit 0))
    (.seq (.block 1 (.seq (.region false [] [
        ⟨(some 19), none, (.mov (.t 17))⟩,
        ⟨(some 3), none, (.mov (.t 19))⟩])
     (.seq (.region false [] [
        ⟨(some 20), none, (.fld 0 (.t 1))⟩,
        ⟨(some 21), none, (.load 1 false (.t 20))⟩,
        ⟨(some 22), none, (.mov (.t 3))⟩,
        ⟨(some 23), none, (.idx 5 (.t 21) (.t 22))⟩,
        ⟨(some 4), none, (.mov (.t 23))⟩])
     (.seq (.region false [] [
        ⟨(some 24), none, (.mov (.t 4))⟩,
        ⟨(some 25), none, (.nilc (.t 24))⟩,
        ⟨(some 26), none, (.fld 2 (.t 25))⟩,
        ⟨(some 27), none, (.load 1 false (.t 26))⟩,
        ⟨(some 28), none, (.call 11 [(.t 27), (.v (.int .i64 0)), (.v (.int .i64 60))])⟩,
        ⟨(some 29), none, (.mov (.t 28))⟩,
        ⟨(some 30), (some (29, true)), (.mov (.t 4))⟩,
        ⟨(some 31), (some (29, true)), (.nilc (.t 30))⟩,
        ⟨(some 32), (some (29, true)), (.fld 3 (.t 31))⟩,
        ⟨(some 33), (some (29, true)), (.load 1 false (.t 32))⟩,
        ⟨(some 34), (some (29, true)), (.call 11 [(.t 33), (.v (.int .i64 0)), (.v (.int .i64 60))])⟩,
        ⟨(some 35), none, (.pick (.t 29) (.t 34) (.v (.bool false)))⟩])
     (.cond (.t 35)
       (.region true [[], [], [1], [2], [3], [], [5], [6], [7], [8], [4, 9], [0, 0, 1, 2, 3, 4, 5, 6, 7, 8, 9, 10], [11, 0, 1, 2, 3, 4, 5, 6, 7, 8, 9, 10], [12, 10, 0, 1, 2, 3, 4, 5, 6, 7, 8, 9, 10]] [
          ⟨(some 36), none, (.mov (.t 4))⟩,
          ⟨(some 37), none, (.mov (.t 4))⟩,
          ⟨(some 38), none, (.nilc (.t 37))⟩,
          ⟨(some 39), none, (.fld 3 (.t 38))⟩,
          ⟨(some 40), none, (.load 1 false (.t 39))⟩,
          ⟨(some 41), none, (.mov (.t 4))⟩,
          ⟨(some 42), none, (.nilc (.t 41))⟩,
          ⟨(some 43), none, (.fld 2 (.t 42))⟩,
          ⟨(some 44), none, (.load 1 false (.t 43))⟩,
          ⟨(some 45), none, (.bin .add 3 (.t 44) (.v (.int .i64 4)))⟩,
          ⟨(some 46), none, (.mni (.t 40) (.t 45))⟩,
          ⟨(some 47), none, (.nilc (.t 36))⟩,
          ⟨(some 48), none, (.fld 3 (.t 47))⟩,
          ⟨none, none, (.store 1 (.t 48) (.t 46))⟩])
       .skip)))))
    (.region false [] [
       ⟨(some 49), none, (.bin .add 3 (.t 17) (.v (.int .i64 1)))⟩,
       ⟨(some 17), none, (.mov (.t 49))⟩])))))))
  (.seq (.region false [] [
     ⟨(some 50), none, (.load 3 true (.t 1))⟩,
     ⟨none, none, (.store 3 (.t 2) (.t 50))⟩])
  .ret))))
theorem k6 : FnIs Try.prog 6 51 [.c 2 3 true] a6 := ⟨_, _, Try.func6, rfl, by kernel_rfl, by kernel_rfl, rfl⟩
/- slices.Clone[[]gridhall/api.UpkeepJob,gridhall/api.UpkeepJob] -/
def a10 : ACode :=
  (.seq (.region false [] [
     ⟨(some 2), none, (.mov (.v (.slice none 0 0)))⟩])
  (.seq (.seq (.region false [] [
     ⟨(some 3), none, (.mov (.t 0))⟩,
     ⟨(some 4), none, (.nilS false (.t 3))⟩])
  (.cond (.t 4)
    (.seq (.region false [] [
       ⟨(some 2), none, (.mov (.v (.slice none 0 0)))⟩])
    .ret)
    .skip))
  (.seq (.region false [] [
     ⟨(some 5), none, (.bsl 38 5 0 [])⟩,
     ⟨(some 6), none, (.mov (.t 0))⟩,
     ⟨(some 7), none, (.app 38 5 48 (.agg #[(.string ⟨#[]⟩), (.int .i64 0), (.int .i64 0), (.int .i64 0), (.int .i64 0)]) (.t 5) (.t 6))⟩,
     ⟨(some 2), none, (.mov (.t 7))⟩])
  .ret)))
theorem k10 : FnIs Try.prog 10 8 [.t 2] a10 := ⟨_, _, Try.func10, rfl, by kernel_rfl, by kernel_rfl, rfl⟩

theorem o10 (nl full) (l : List (Job)) (hl : l.length ≤ 1000000) : Aw.Spec Try.prog 10 [] [.imm nl full 5 (l.map jc)] (fun rg x => rg = [.arr 38 5 (l.map jc)] ∧ x = .hnd 0 0 l.length l.length false) := by
  refine Aw.Spec.nil1 fun b _ hb => ?_
  refine Aw.Spec.regsD k10 mixed rfl rfl rfl fun E hn hnp hp => ?_
  unfold a10
  simp (config := { maxSteps := 2000000 }) only [go_sem, ↓reduceIte, Int.reduceToNat, Nat.reduceMul, Int.reduceBEq, Int.reduceBNe, Nat.reduceBEq, Nat.reduceAdd, Nat.reduceSub, Nat.reduceLeDiff, Nat.reduceEqDiff, Nat.reduceLT, reduceCtorEq]
  refine ⟨fun h => ?_, fun h => ?_⟩
  · have hl0 : l = [] := by simpa using hb h
    subst hl0
    refine Retn.weak (weak_nil 2 38 5 (by rfl)) _ (Retn.ret (π := [0]) hp hnp ⟨rfl, ?_⟩)
    simp (config := { maxSteps := 2000000 }) only [go_sem, ↓reduceIte, Int.reduceToNat, Nat.reduceMul, Int.reduceBEq, Int.reduceBNe, Nat.reduceBEq, Nat.reduceAdd, Nat.reduceSub, Nat.reduceLeDiff, Nat.reduceEqDiff, Nat.reduceLT, reduceCtorEq, Aw.resAVs, Aw.resAV, Aw.renR, Aw.pos]
    all_goals (try exact ⟨rfl, rfl⟩)
  · refine AWpL.app (r := 0) (els := []) rfl rfl rfl rfl (by rw [hn]; rfl) rfl (hp.none hnp (Nat.zero_le _)) trivial (fun el hm x hx => ?_) (by simp; omega) (by simp; omega) (AWpL.ofM hn rfl ?_)
    · obtain ⟨y, _, rfl⟩ := List.mem_map.1 hm
      simp only [List.mem_cons, List.not_mem_nil, or_false] at hx
      first | (subst hx; rfl) | (rcases hx with rfl | rfl; all_goals rfl) | (rcases hx with rfl | rfl | rfl; all_goals rfl) | (rcases hx with rfl | rfl | rfl | rfl; all_goals rfl) | (rcases hx with rfl | rfl | rfl | rfl | rfl; all_goals rfl) | (rcases hx with rfl | rfl | rfl | rfl | rfl | rfl; all_goals rfl)
    simp (config := { maxSteps := 2000000 }) only [go_sem, ↓reduceIte, Int.reduceToNat, Nat.reduceMul, Int.reduceBEq, Int.reduceBNe, Nat.reduceBEq, Nat.reduceAdd, Nat.reduceSub, Nat.reduceLeDiff, Nat.reduceEqDiff, Nat.reduceLT, reduceCtorEq, Aw.killS, Aw.mapT, Aw.mapR, Aw.killM]
    refine Retn.ret (π := [0]) hp hnp ⟨rfl, ?_⟩
    simp (config := { maxSteps := 2000000 }) only [go_sem, ↓reduceIte, Int.reduceToNat, Nat.reduceMul, Int.reduceBEq, Int.reduceBNe, Nat.reduceBEq, Nat.reduceAdd, Nat.reduceSub, Nat.reduceLeDiff, Nat.reduceEqDiff, Nat.reduceLT, reduceCtorEq, Aw.resAVs, Aw.resAV, Aw.renR, Aw.pos]
    all_goals (try exact ⟨rfl, rfl⟩)

def Named (t : Task) : Prop := ∀ j ∈ t.jobs, j.name.size ≤ 9223372036854775807
/-- The best plan, its cost, the error. -/
def bestF (t : Task) : List Int × Int × Int :=
  if upChk t ≠ 0 then ([], 0, upChk t) else if t.jobs.length = 0 then ([], 0, 0) else match searchF t t.jobs.length [] none with
    | none => ([], 0, 8)
    | some q => (q, costE t q, 0)
theorem s7 (t : Task) (hs : Named t) : Aw.Spec Try.prog 7 [] [ta t] (fun rg v => rg = [] ∧ v = .tup [il none false (bestF t).1, I (bestF t).2.1, I (bestF t).2.2] ∧ (upChk t = 0 → 0 < t.jobs.length → SPost t [] none (searchF t t.jobs.length [] none) All)) := by
  refine Aw.Spec.regsW k7 rfl rfl fun E hn hnp hp => ?_
  unfold a7
  refine AWp.ofD [] [] hn mixed rfl ?_
  simp (config := { maxSteps := 2000000 }) only [go_sem, ↓reduceIte, Int.reduceToNat, Nat.reduceMul, Int.reduceBEq, Int.reduceBNe, Nat.reduceBEq, Nat.reduceAdd, Nat.reduceSub, Nat.reduceLeDiff, Nat.reduceEqDiff, Nat.reduceLT, reduceCtorEq]
  (refine AWpL.calle (s12 t hs) rfl (by rw [hn]; rfl) (by simp (config := { maxSteps := 2000000 }) only [go_sem, ↓reduceIte, Int.reduceToNat, Nat.reduceMul, Int.reduceBEq, Int.reduceBNe, Nat.reduceBEq, Nat.reduceAdd, Nat.reduceSub, Nat.reduceLeDiff, Nat.reduceEqDiff, Nat.reduceLT, reduceCtorEq]) (AWpL.ofM hn rfl ?_); simp (config := { maxSteps := 2000000 }) only [go_sem, ↓reduceIte, Int.reduceToNat, Nat.reduceMul, Int.reduceBEq, Int.reduceBNe, Nat.reduceBEq, Nat.reduceAdd, Nat.reduceSub, Nat.reduceLeDiff, Nat.reduceEqDiff, Nat.reduceLT, reduceCtorEq])
  simp only [bne_iff_ne, ne_eq, bne_eq_false_iff_eq]
  by_cases hc : upChk t = 0
  case neg =>
    refine ⟨fun h => ?_, fun h => absurd h hc⟩
    refine Retn.weak (weak_ent 2 (by rfl) (Ent.ofnil0 1)) _ (Retn.ret (π := []) hp hnp ⟨rfl, ?_⟩)
    have hb : bestF t = ([], 0, upChk t) := by unfold bestF; rw [if_pos hc]
    simp (config := { maxSteps := 2000000 }) only [go_sem, ↓reduceIte, Int.reduceToNat, Nat.reduceMul, Int.reduceBEq, Int.reduceBNe, Nat.reduceBEq, Nat.reduceAdd, Nat.reduceSub, Nat.reduceLeDiff, Nat.reduceEqDiff, Nat.reduceLT, reduceCtorEq, hb]
    exact ⟨rfl, fun hk hz => absurd hk hc⟩
  have hok := up_ok hc
  refine ⟨fun h => absurd hc h, fun h => ⟨fun h2 => ?_, fun h2 => ?_⟩⟩
  · have hz : t.jobs.length = 0 := by simpa using h2
    refine Retn.weak (weak_ent 2 (by rfl) (Ent.ofnil0 1)) _ (Retn.ret (π := []) hp hnp ⟨rfl, ?_⟩)
    have hb : bestF t = ([], 0, 0) := by unfold bestF; rw [if_neg (by simp [hc]), if_pos hz]
    simp (config := { maxSteps := 2000000 }) only [go_sem, ↓reduceIte, Int.reduceToNat, Nat.reduceMul, Int.reduceBEq, Int.reduceBNe, Nat.reduceBEq, Nat.reduceAdd, Nat.reduceSub, Nat.reduceLeDiff, Nat.reduceEqDiff, Nat.reduceLT, reduceCtorEq, hb]
    exact ⟨rfl, fun _ h => by omega⟩
  · have hz : 0 < t.jobs.length := by have : t.jobs.length ≠ 0 := by simpa using h2
                                      omega
    have hsr := (s13 t hok t.jobs.length [] none (some true) true (by simp) (OkPlan.nil t) (fun b hb => by cases hb) hz).args (args' := [ta t, .val (.slice none 0 0), .val (.slice none 0 0)]) ⟨Ent.refl _, Ent.ofnil true 1, Ent.ofnil false 1, trivial⟩
    refine AWpL.callA [] hsr rfl rfl (by rw [hn]; rfl) rfl (fun r hr => by cases hr) fun rg v hv => ?_
    obtain ⟨rfl, r, rfl, hrf, hr⟩ := hv
    refine ⟨Nat.le_refl _, ?_⟩
    rw [retS_nil]
    refine AWpL.ofM hn rfl ?_
    cases r with
    | none =>
      simp (config := { maxSteps := 2000000 }) only [go_sem, ↓reduceIte, Int.reduceToNat, Nat.reduceMul, Int.reduceBEq, Int.reduceBNe, Nat.reduceBEq, Nat.reduceAdd, Nat.reduceSub, Nat.reduceLeDiff, Nat.reduceEqDiff, Nat.reduceLT, reduceCtorEq, optA]
      refine Retn.weak (weak_ent 2 (by rfl) (Ent.ofnil0 1)) _ (Retn.ret (π := []) hp hnp ⟨rfl, ?_⟩)
      have hb : bestF t = ([], 0, 8) := by unfold bestF; rw [if_neg (by simp [hc]), if_neg (by omega), ← hrf]
      simp (config := { maxSteps := 2000000 }) only [go_sem, ↓reduceIte, Int.reduceToNat, Nat.reduceMul, Int.reduceBEq, Int.reduceBNe, Nat.reduceBEq, Nat.reduceAdd, Nat.reduceSub, Nat.reduceLeDiff, Nat.reduceEqDiff, Nat.reduceLT, reduceCtorEq, hb]
      exact ⟨rfl, fun _ _ => by rw [← hrf]; exact hr⟩
    | some q =>
      simp (config := { maxSteps := 2000000 }) only [go_sem, ↓reduceIte, Int.reduceToNat, Nat.reduceMul, Int.reduceBEq, Int.reduceBNe, Nat.reduceBEq, Nat.reduceAdd, Nat.reduceSub, Nat.reduceLeDiff, Nat.reduceEqDiff, Nat.reduceLT, reduceCtorEq, optA]
      (refine AWpL.calle (s14 t (some false) false q hok (hr.full q rfl).1.1) rfl (by rw [hn]; rfl) (by simp (config := { maxSteps := 2000000 }) only [go_sem, ↓reduceIte, Int.reduceToNat, Nat.reduceMul, Int.reduceBEq, Int.reduceBNe, Nat.reduceBEq, Nat.reduceAdd, Nat.reduceSub, Nat.reduceLeDiff, Nat.reduceEqDiff, Nat.reduceLT, reduceCtorEq]) (AWpL.ofM hn rfl ?_); simp (config := { maxSteps := 2000000 }) only [go_sem, ↓reduceIte, Int.reduceToNat, Nat.reduceMul, Int.reduceBEq, Int.reduceBNe, Nat.reduceBEq, Nat.reduceAdd, Nat.reduceSub, Nat.reduceLeDiff, Nat.reduceEqDiff, Nat.reduceLT, reduceCtorEq])
      refine Retn.weak (weak_ent 2 (by rfl) (Ent.plain _ _ _ _)) _ (Retn.ret (π := []) hp hnp ⟨rfl, ?_⟩)
      have hb : bestF t = (q, costE t q, 0) := by unfold bestF; rw [if_neg (by simp [hc]), if_neg (by omega), ← hrf]
      simp (config := { maxSteps := 2000000 }) only [go_sem, ↓reduceIte, Int.reduceToNat, Nat.reduceMul, Int.reduceBEq, Int.reduceBNe, Nat.reduceBEq, Nat.reduceAdd, Nat.reduceSub, Nat.reduceLeDiff, Nat.reduceEqDiff, Nat.reduceLT, reduceCtorEq, hb]
      exact ⟨rfl, fun _ _ => by rw [← hrf]; exact hr⟩
/-- What Verify gives: the error; the cost. -/
def VerR (t : Task) (l : List Int) (c e : Int) : Prop := (e = 0 ↔ upChk t = 0 ∧ Full t l) ∧ (e = 0 → c = costE t l)
set_option maxHeartbeats 1000000 in
theorem s9 (t : Task) (nl fl) (l : List Int) (hs : Named t) (hl63 : l.length ≤ 9223372036854775807) : Aw.Spec Try.prog 9 [] [ta t, il nl fl l] (Gives fun v => ∃ c e, v = .tup [I c, I e] ∧ VerR t l c e) := by
  refine Aw.Spec.givesW k9 rfl rfl fun E hn hnp hp => ?_
  unfold a9
  refine AWp.ofD [] [] hn mixed rfl ?_
  simp (config := { maxSteps := 2000000 }) only [go_sem, ↓reduceIte, Int.reduceToNat, Nat.reduceMul, Int.reduceBEq, Int.reduceBNe, Nat.reduceBEq, Nat.reduceAdd, Nat.reduceSub, Nat.reduceLeDiff, Nat.reduceEqDiff, Nat.reduceLT, reduceCtorEq]
  (refine AWpL.calle (s12 t hs) rfl (by rw [hn]; rfl) (by simp (config := { maxSteps := 2000000 }) only [go_sem, ↓reduceIte, Int.reduceToNat, Nat.reduceMul, Int.reduceBEq, Int.reduceBNe, Nat.reduceBEq, Nat.reduceAdd, Nat.reduceSub, Nat.reduceLeDiff, Nat.reduceEqDiff, Nat.reduceLT, reduceCtorEq]) (AWpL.ofM hn rfl ?_); simp (config := { maxSteps := 2000000 }) only [go_sem, ↓reduceIte, Int.reduceToNat, Nat.reduceMul, Int.reduceBEq, Int.reduceBNe, Nat.reduceBEq, Nat.reduceAdd, Nat.reduceSub, Nat.reduceLeDiff, Nat.reduceEqDiff, Nat.reduceLT, reduceCtorEq])
  simp only [bne_iff_ne, ne_eq, bne_eq_false_iff_eq]
  refine ⟨fun h => ⟨0, _, rfl, ⟨fun h2 => absurd h2 h, fun h2 => absurd h2.1 h⟩, fun h2 => absurd h2 h⟩, fun hc => ⟨fun h => ?_, fun h => ?_⟩⟩
  · refine ⟨0, 3, rfl, ⟨fun h2 => (by cases h2), fun h2 => ?_⟩, fun h2 => (by cases h2)⟩
    have := h2.2.2
    omega
  have hok := up_ok hc
  have h6 := hok.len
  have hln : l.length = t.jobs.length := by omega
  refine AWp.loop (fun k s => ∃ i : Nat, i + k = l.length ∧ (∀ j, j < i → (job t j).first ≤ pat l j ∧ pat l j ≤ (job t j).last) ∧
      Weak E s ⟨[(1, il nl fl l), (2, .ptr 0 0 0), (22, il nl fl l), (23, I l.length), (24, I i)], [.box 25 (tc t)]⟩) (n := l.length)
    ⟨0, by omega, fun j hj => by omega, weak_to [0] hp hnp rfl (by simp (config := { maxSteps := 2000000 }) only [go_sem, ↓reduceIte, Int.reduceToNat, Nat.reduceMul, Int.reduceBEq, Int.reduceBNe, Nat.reduceBEq, Nat.reduceAdd, Nat.reduceSub, Nat.reduceLeDiff, Nat.reduceEqDiff, Nat.reduceLT, reduceCtorEq, Aw.pos]) (by simp (config := { maxSteps := 2000000 }) only [go_sem, ↓reduceIte, Int.reduceToNat, Nat.reduceMul, Int.reduceBEq, Int.reduceBNe, Nat.reduceBEq, Nat.reduceAdd, Nat.reduceSub, Nat.reduceLeDiff, Nat.reduceEqDiff, Nat.reduceLT, reduceCtorEq, Aw.renR, Aw.pos])⟩ ?_
  rintro k s ⟨i, hi, hwin, hw⟩
  refine AWp.weak hw (AWp.ofD [] [] hn mixed rfl ?_)
  rcases Nat.lt_or_ge i l.length with hlt | hge
  · have e0 : decide ((i : Int) < (l.length : Int)) = true := decide_eq_true (by omega)
    have e1 := pat_get hlt
    have e3 := job_get (by omega : i < t.jobs.length)
    have e2 : IntKind.i64.wrap ((i : Int) + 1) = ((i + 1 : Nat) : Int) := by rw [w64 (by omega) (by omega)]; omega
    simp (config := { maxSteps := 2000000 }) only [go_sem, ↓reduceIte, Int.reduceToNat, Nat.reduceMul, Int.reduceBEq, Int.reduceBNe, Nat.reduceBEq, Nat.reduceAdd, Nat.reduceSub, Nat.reduceLeDiff, Nat.reduceEqDiff, Nat.reduceLT, reduceCtorEq, e0, e1, e3, e2]
    (repeat (refine And.intro (by first | omega | (refine ⟨by omega, by omega⟩) | (refine ⟨by omega, by omega, by omega⟩) | (simp only [List.length_map, List.length_range, List.length_append, List.length_cons, List.length_nil, List.length_replicate, List.length_set]; omega) | (simp; omega) | (intro hgd; cases hgd) | (intro hgd; refine ⟨hgd, ?_⟩; first | omega | (refine ⟨by omega, by omega⟩) | (simp; omega))) ?_))
    simp only [Bool.or_eq_true, Bool.or_eq_false_iff, decide_eq_true_eq, decide_eq_false_iff_not]
    refine ⟨fun h7 => ?_, fun h7 => ?_⟩
    · refine ⟨0, 12, rfl, ⟨fun h2 => (by cases h2), fun h2 => ?_⟩, fun h2 => (by cases h2)⟩
      have := h2.2.1.1.2 i hlt
      omega
    · refine ⟨k - 1, by omega, i + 1, by omega, fun j hj => ?_, weak_to [0] hp hnp rfl (by simp (config := { maxSteps := 2000000 }) only [go_sem, ↓reduceIte, Int.reduceToNat, Nat.reduceMul, Int.reduceBEq, Int.reduceBNe, Nat.reduceBEq, Nat.reduceAdd, Nat.reduceSub, Nat.reduceLeDiff, Nat.reduceEqDiff, Nat.reduceLT, reduceCtorEq, Aw.pos]) (by simp (config := { maxSteps := 2000000 }) only [go_sem, ↓reduceIte, Int.reduceToNat, Nat.reduceMul, Int.reduceBEq, Int.reduceBNe, Nat.reduceBEq, Nat.reduceAdd, Nat.reduceSub, Nat.reduceLeDiff, Nat.reduceEqDiff, Nat.reduceLT, reduceCtorEq, Aw.renR, Aw.pos])⟩
      rcases Nat.lt_or_ge j i with h8 | h8
      · exact hwin j h8
      · obtain rfl : j = i := by omega
        omega
  have e0 : decide ((i : Int) < (l.length : Int)) = false := decide_eq_false (by omega)
  obtain rfl : i = l.length := by omega
  have hin : InWin t l := ⟨by omega, hwin⟩
  simp (config := { maxSteps := 2000000 }) only [go_sem, ↓reduceIte, Int.reduceToNat, Nat.reduceMul, Int.reduceBEq, Int.reduceBNe, Nat.reduceBEq, Nat.reduceAdd, Nat.reduceSub, Nat.reduceLeDiff, Nat.reduceEqDiff, Nat.reduceLT, reduceCtorEq, e0]
  refine AWp.loop (fun k s => ∃ i : Nat, i + k = l.length ∧ (∀ j, j < i → allowedE t (l.take (j + 1)) = 0) ∧
      Weak E s ⟨[(1, il nl fl l), (2, .ptr 0 0 0), (49, I l.length), (50, I i)], [.box 25 (tc t)]⟩) (n := l.length)
    ⟨0, by omega, fun j hj => by omega, weak_to [0] hp hnp rfl (by simp (config := { maxSteps := 2000000 }) only [go_sem, ↓reduceIte, Int.reduceToNat, Nat.reduceMul, Int.reduceBEq, Int.reduceBNe, Nat.reduceBEq, Nat.reduceAdd, Nat.reduceSub, Nat.reduceLeDiff, Nat.reduceEqDiff, Nat.reduceLT, reduceCtorEq, Aw.pos]) (by simp (config := { maxSteps := 2000000 }) only [go_sem, ↓reduceIte, Int.reduceToNat, Nat.reduceMul, Int.reduceBEq, Int.reduceBNe, Nat.reduceBEq, Nat.reduceAdd, Nat.reduceSub, Nat.reduceLeDiff, Nat.reduceEqDiff, Nat.reduceLT, reduceCtorEq, Aw.renR, Aw.pos])⟩ ?_
  clear hw hi hge e0
  rintro k s ⟨i, hi, hall, hw⟩
  refine AWp.weak hw (AWp.ofD [] [] hn mixed rfl ?_)
  rcases Nat.lt_or_ge i l.length with hlt | hge
  · have e0 : decide ((i : Int) < (l.length : Int)) = true := decide_eq_true (by omega)
    have e2 : IntKind.i64.wrap ((i : Int) + 1) = ((i + 1 : Nat) : Int) := by rw [w64 (by omega) (by omega)]; omega
    have hmt : ((l.map fun n => [I n]).take (i + 1)) = (l.take (i + 1)).map fun n => [I n] := List.map_take.symm
    simp (config := { maxSteps := 2000000 }) only [go_sem, ↓reduceIte, Int.reduceToNat, Nat.reduceMul, Int.reduceBEq, Int.reduceBNe, Nat.reduceBEq, Nat.reduceAdd, Nat.reduceSub, Nat.reduceLeDiff, Nat.reduceEqDiff, Nat.reduceLT, reduceCtorEq, e0, e2, hmt]
    (repeat (refine And.intro (by first | omega | (refine ⟨by omega, by omega⟩) | (refine ⟨by omega, by omega, by omega⟩) | (simp only [List.length_map, List.length_range, List.length_append, List.length_cons, List.length_nil, List.length_replicate, List.length_set]; omega) | (simp; omega) | (intro hgd; cases hgd) | (intro hgd; refine ⟨hgd, ?_⟩; first | omega | (refine ⟨by omega, by omega⟩) | (simp; omega))) ?_))
    have hdays : Days (l.take (i + 1)) := fun x hx => hin.days hok x (List.mem_of_mem_take hx)
    refine AWpQ.calle (s16 t nl false (l.take (i + 1)) (by simp; omega) (by simp; omega) hok hdays) (by rw [hn]; rfl) (by simp (config := { maxSteps := 2000000 }) only [go_sem, ↓reduceIte, Int.reduceToNat, Nat.reduceMul, Int.reduceBEq, Int.reduceBNe, Nat.reduceBEq, Nat.reduceAdd, Nat.reduceSub, Nat.reduceLeDiff, Nat.reduceEqDiff, Nat.reduceLT, reduceCtorEq]) (AWpQ.of hn rfl ?_)
    simp (config := { maxSteps := 2000000 }) only [go_sem, ↓reduceIte, Int.reduceToNat, Nat.reduceMul, Int.reduceBEq, Int.reduceBNe, Nat.reduceBEq, Nat.reduceAdd, Nat.reduceSub, Nat.reduceLeDiff, Nat.reduceEqDiff, Nat.reduceLT, reduceCtorEq, e2]
    simp only [bne_iff_ne, ne_eq, bne_eq_false_iff_eq]
    refine ⟨fun h7 => ?_, fun h7 => ?_⟩
    · exact ⟨0, _, rfl, ⟨fun h2 => absurd h2 h7, fun h2 => absurd (h2.2.1.2 i hlt) h7⟩, fun h2 => absurd h2 h7⟩
    · refine ⟨k - 1, by omega, i + 1, by omega, fun j hj => ?_, weak_to [0] hp hnp rfl (by simp (config := { maxSteps := 2000000 }) only [go_sem, ↓reduceIte, Int.reduceToNat, Nat.reduceMul, Int.reduceBEq, Int.reduceBNe, Nat.reduceBEq, Nat.reduceAdd, Nat.reduceSub, Nat.reduceLeDiff, Nat.reduceEqDiff, Nat.reduceLT, reduceCtorEq, Aw.pos]) (by simp (config := { maxSteps := 2000000 }) only [go_sem, ↓reduceIte, Int.reduceToNat, Nat.reduceMul, Int.reduceBEq, Int.reduceBNe, Nat.reduceBEq, Nat.reduceAdd, Nat.reduceSub, Nat.reduceLeDiff, Nat.reduceEqDiff, Nat.reduceLT, reduceCtorEq, Aw.renR, Aw.pos])⟩
      rcases Nat.lt_or_ge j i with h8 | h8
      · exact hall j h8
      · obtain rfl : j = i := by omega
        exact h7
  · have e0 : decide ((i : Int) < (l.length : Int)) = false := decide_eq_false (by omega)
    obtain rfl : i = l.length := by omega
    simp (config := { maxSteps := 2000000 }) only [go_sem, ↓reduceIte, Int.reduceToNat, Nat.reduceMul, Int.reduceBEq, Int.reduceBNe, Nat.reduceBEq, Nat.reduceAdd, Nat.reduceSub, Nat.reduceLeDiff, Nat.reduceEqDiff, Nat.reduceLT, reduceCtorEq, e0]
    (refine AWpL.calle (s14 t nl fl l hok hin) rfl (by rw [hn]; rfl) (by simp (config := { maxSteps := 2000000 }) only [go_sem, ↓reduceIte, Int.reduceToNat, Nat.reduceMul, Int.reduceBEq, Int.reduceBNe, Nat.reduceBEq, Nat.reduceAdd, Nat.reduceSub, Nat.reduceLeDiff, Nat.reduceEqDiff, Nat.reduceLT, reduceCtorEq]) (AWpL.ofM hn rfl ?_); simp (config := { maxSteps := 2000000 }) only [go_sem, ↓reduceIte, Int.reduceToNat, Nat.reduceMul, Int.reduceBEq, Int.reduceBNe, Nat.reduceBEq, Nat.reduceAdd, Nat.reduceSub, Nat.reduceLeDiff, Nat.reduceEqDiff, Nat.reduceLT, reduceCtorEq])
    exact ⟨costE t l, 0, rfl, ⟨fun _ => ⟨hc, ⟨hin, hall⟩, hln⟩, fun _ => rfl⟩, fun _ => rfl⟩
def inB (n a b : Int) : Bool := decide (a ≤ n) && decide (n ≤ b)
theorem s11 (n a b : Int) : Aw.Spec Try.prog 11 [] [I n, I a, I b] (Gives (· = B (inB n a b))) := by
  refine Aw.Spec.givesD k11 mixed rfl rfl rfl fun E hn hnp hp => ?_
  unfold a11
  simp (config := { maxSteps := 2000000 }) only [go_sem, ↓reduceIte, Int.reduceToNat, Nat.reduceMul, Int.reduceBEq, Int.reduceBNe, Nat.reduceBEq, Nat.reduceAdd, Nat.reduceSub, Nat.reduceLeDiff, Nat.reduceEqDiff, Nat.reduceLT, reduceCtorEq]
  rfl
end Go.Proofs.Ytncfffplnmlnfaa
