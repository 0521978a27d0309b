/- Swing: a run in two parts. -/
import Derived.Test.YtjaakbkneeojnaaDoorAwZl
import Derived.Test.YtjaakbkneeojnaaDoorSwiE
set_option linter.unusedVariables false
set_option linter.unusedSimpArgs false
namespace Go.Proofs.YtjaakbkneeojnaaDoor
open Go.Proofs.YtjaakbkneeojnaaDoor.Aw
attribute [local go_sem] Int.natCast_zero Int.natCast_one bne_self_eq_false beq_self_eq_true Bool.not_true Bool.not_false Option.isSome_none Option.isSome_some Aw.bkM_nil Option.getD_some Option.getD_none Nat.sub_zero Int.toNat_zero Aw.frzS Aw.frzT Aw.frzA Aw.frzL Aw.frzR Aw.frzO Aw.frzOL Aw.frzOT Aw.frzOR Aw.killS Aw.mapT Aw.mapR Aw.killM Aw.resAVs Aw.resAV Aw.quietOps Aw.wpP Aw.wpT Aw.wpS Aw.AOp.mild List.getElem?_cons_zero List.getElem?_cons_succ Bool.and_false Bool.and_self Bool.false_and Aw.opOb Aw.gdB Aw.Rnd Aw.subTm List.length_map Int.toNat_natCast and_self Aw.SeqC Aw.stops Aw.Ends Aw.looks Aw.renA Aw.renL Aw.renT Aw.renS Aw.wpO Aw.aop Aw.putTm Aw.St.ev Aw.St.put Aw.St.putO Aw.binAV Aw.intBin Aw.strBin Aw.pickAV Aw.optInt Aw.AV.strip Aw.AV.guard Aw.AV.cells Aw.gdOb Aw.AOp.opds Aw.AOp.still Aw.ptrCells Aw.St.reg Aw.fillAV Aw.fillOb Aw.elsOb Aw.splice Aw.firm Aw.cellish Aw.AV.shut Aw.shutAll Aw.Seq Aw.Blk Aw.retS_nil Aw.mapA Aw.mapL Aw.borA Aw.borOb Aw.allOb Aw.tupOf Aw.params Aw.Opd.of Array.toList Value.cells List.map_cons List.map_nil List.getD_cons_zero List.getD_cons_succ List.getD_nil List.length_cons List.length_nil List.take_succ_cons List.take_zero List.take_nil List.drop_zero List.drop_succ_cons List.drop_nil List.set_cons_zero List.set_cons_succ List.append_nil List.nil_append List.cons_append List.all_cons List.all_nil cond_false cond_true if_true if_false true_and and_true Bool.and_true Bool.true_and Option.map_some Option.map_none false_implies forall_const implies_true forall_eq imp_self Bool.cond_false_right Bool.cond_true_left beq_true beq_false Bool.not_eq_true' Bool.false_eq_true Nat.zero_add Nat.add_zero Aw.eqCells Aw.stopDraw Aw.skipS Aw.exactCap Aw.revealS Aw.srcEls Aw.srcSz
attribute [local go_sem ↓] Aw.look_nil Aw.look_ite Aw.wpL_nil Aw.wpL_op Aw.wpL_gd Aw.wpQ_nil Aw.wpQ_op Aw.wpQ_gd Aw.wpC_draw Aw.wpC_reg Aw.wpC_skip Aw.wpC_ret Aw.wpC_exit Aw.wpC_seq Aw.wpC_block Aw.wpC_loop Aw.wpC_cond Aw.stopAt_nil Aw.stopAt_cons Aw.wpD_skip Aw.wpD_ret Aw.wpD_exit Aw.wpD_region Aw.wpD_draw Aw.wpM_nil Aw.wpM_op Aw.wpM_gd Aw.wpD_seq Aw.wpD_block Aw.wpD_loop Aw.wpD_cond
/- slices.Grow[[]gridhall/api.Rat,gridhall/api.Rat] -/
def a58 : ACode :=
  (.seq (.region false [] [
     ⟨(some 4), none, (.mov (.v (.slice none 0 0)))⟩])
  (.seq (.seq (.region false [] [
     ⟨(some 5), none, (.mov (.t 1))⟩,
     ⟨(some 6), none, (.bin .lss 3 (.t 5) (.v (.int .i64 0)))⟩])
  (.cond (.t 6)
    (.region false [] [
       ⟨(some 7), none, (.bad none [])⟩,
       ⟨none, none, (.bad none [])⟩])
    .skip))
  (.seq (.seq (.region false [] [
     ⟨(some 8), none, (.mov (.t 1))⟩,
     ⟨(some 9), none, (.mov (.t 0))⟩,
     ⟨(some 10), none, (.cap (.t 9))⟩,
     ⟨(some 11), none, (.mov (.t 0))⟩,
     ⟨(some 12), none, (.len (.t 11))⟩,
     ⟨(some 13), none, (.bin .sub 3 (.t 10) (.t 12))⟩,
     ⟨(some 14), none, (.bin .sub 3 (.t 8) (.t 13))⟩,
     ⟨(some 1), none, (.mov (.t 14))⟩])
  (.seq (.region false [] [
     ⟨(some 15), none, (.mov (.t 1))⟩,
     ⟨(some 16), none, (.bin .gtr 3 (.t 15) (.v (.int .i64 0)))⟩])
  (.cond (.t 16)
    (.region false [] [
       ⟨(some 17), none, (.mov (.t 0))⟩,
       ⟨(some 18), none, (.mov (.t 0))⟩,
       ⟨(some 19), none, (.cap (.t 18))⟩,
       ⟨(some 20), none, (.slc 1 (.t 17) none (some (.t 19)) none)⟩,
       ⟨(some 21), none, (.mov (.t 1))⟩,
       ⟨(some 22), none, (.appz 22 1 16 (.string ⟨#[]⟩) (.t 20) (.t 21))⟩,
       ⟨(some 23), none, (.mov (.t 0))⟩,
       ⟨(some 24), none, (.len (.t 23))⟩,
       ⟨(some 25), none, (.slc 1 (.t 22) none (some (.t 24)) none)⟩,
       ⟨(some 0), none, (.mov (.t 25))⟩])
    .skip)))
  (.seq (.region false [] [
     ⟨(some 26), none, (.mov (.t 0))⟩,
     ⟨(some 4), none, (.mov (.t 26))⟩])
  .ret))))
theorem k58 : FnIs Tryd.prog 58 27 [.t 4] a58 := ⟨_, _, Tryd.func58, rfl, by kernel_rfl, by kernel_rfl, rfl⟩
/- slices.Concat[[]gridhall/api.Rat,gridhall/api.Rat] -/
def a29 : ACode :=
  (.seq (.region false [] [
     ⟨(some 2), none, (.mov (.v (.slice none 0 0)))⟩])
  (.seq (.region false [] [
     ⟨(some 3), none, (.mov (.v (.int .i64 0)))⟩])
  (.seq (.seq (.region false [] [
     ⟨(some 9), none, (.mov (.t 0))⟩,
     ⟨(some 10), none, (.len (.t 9))⟩,
     ⟨(some 11), none, (.mov (.v (.int .i64 0)))⟩])
  (.block 0 (.loop (.seq (.region false [] [
       ⟨(some 12), none, (.bin .lss 3 (.t 11) (.t 10))⟩])
    (.seq (.cond (.t 12)
      .skip
      (.exit 0))
    (.seq (.block 1 (.seq (.region false [] [
        ⟨(some 13), none, (.idx 1 (.t 9) (.t 11))⟩,
        ⟨(some 14), none, (.load 1 false (.t 13))⟩,
        ⟨(some 5), none, (.mov (.t 14))⟩])
     (.seq (.region false [] [
        ⟨(some 15), none, (.mov (.t 3))⟩,
        ⟨(some 16), none, (.mov (.t 5))⟩,
        ⟨(some 17), none, (.len (.t 16))⟩,
        ⟨(some 18), none, (.bin .add 3 (.t 15) (.t 17))⟩,
        ⟨(some 3), none, (.mov (.t 18))⟩])
     (.seq (.region false [] [
        ⟨(some 19), none, (.mov (.t 3))⟩,
        ⟨(some 20), none, (.bin .lss 3 (.t 19) (.v (.int .i64 0)))⟩])
     (.cond (.t 20)
       (.region false [] [
          ⟨(some 21), none, (.bad none [])⟩,
          ⟨none, none, (.bad none [])⟩])
       .skip)))))
    (.region false [] [
       ⟨(some 22), none, (.bin .add 3 (.t 11) (.v (.int .i64 1)))⟩,
       ⟨(some 11), none, (.mov (.t 22))⟩])))))))
  (.seq (.region false [] [
     ⟨(some 23), none, (.mov (.t 3))⟩,
     ⟨(some 24), none, (.call 58 [(.v (.slice none 0 0)), (.t 23)])⟩,
     ⟨(some 6), none, (.mov (.t 24))⟩])
  (.seq (.seq (.region false [] [
     ⟨(some 25), none, (.mov (.t 0))⟩,
     ⟨(some 26), none, (.len (.t 25))⟩,
     ⟨(some 27), none, (.mov (.v (.int .i64 0)))⟩])
  (.block 2 (.loop (.seq (.region false [] [
       ⟨(some 28), none, (.bin .lss 3 (.t 27) (.t 26))⟩])
    (.seq (.cond (.t 28)
      .skip
      (.exit 2))
    (.seq (.block 3 (.seq (.region false [] [
        ⟨(some 29), none, (.idx 1 (.t 25) (.t 27))⟩,
        ⟨(some 30), none, (.load 1 false (.t 29))⟩,
        ⟨(some 8), none, (.mov (.t 30))⟩])
     (.region false [] [
        ⟨(some 31), none, (.mov (.t 6))⟩,
        ⟨(some 32), none, (.mov (.t 8))⟩,
        ⟨(some 33), none, (.app 22 1 16 (.string ⟨#[]⟩) (.t 31) (.t 32))⟩,
        ⟨(some 6), none, (.mov (.t 33))⟩])))
    (.region false [] [
       ⟨(some 34), none, (.bin .add 3 (.t 27) (.v (.int .i64 1)))⟩,
       ⟨(some 27), none, (.mov (.t 34))⟩])))))))
  (.seq (.region false [] [
     ⟨(some 35), none, (.mov (.t 6))⟩,
     ⟨(some 2), none, (.mov (.t 35))⟩])
  .ret))))))
theorem k29 : FnIs Tryd.prog 29 36 [.t 2] a29 := ⟨_, _, Tryd.func29, rfl, by kernel_rfl, by kernel_rfl, rfl⟩
/- slices.Equal[[]gridhall/api.Rat,gridhall/api.Rat] -/
def a28 : ACode :=
  (.seq (.region false [] [
     ⟨(some 4), none, (.mov (.v (.bool false)))⟩])
  (.seq (.seq (.region false [] [
     ⟨(some 6), none, (.mov (.t 0))⟩,
     ⟨(some 7), none, (.len (.t 6))⟩,
     ⟨(some 8), none, (.mov (.t 1))⟩,
     ⟨(some 9), none, (.len (.t 8))⟩,
     ⟨(some 10), none, (.bin .neq 3 (.t 7) (.t 9))⟩])
  (.cond (.t 10)
    (.seq (.region false [] [
       ⟨(some 4), none, (.mov (.v (.bool false)))⟩])
    .ret)
    .skip))
  (.seq (.seq (.region false [] [
     ⟨(some 11), none, (.mov (.t 0))⟩,
     ⟨(some 12), none, (.len (.t 11))⟩,
     ⟨(some 13), none, (.mov (.v (.int .i64 0)))⟩])
  (.block 0 (.loop (.seq (.region false [] [
       ⟨(some 14), none, (.bin .lss 3 (.t 13) (.t 12))⟩])
    (.seq (.cond (.t 14)
      .skip
      (.exit 0))
    (.seq (.block 1 (.seq (.region false [] [
        ⟨(some 15), none, (.mov (.t 13))⟩,
        ⟨(some 5), none, (.mov (.t 15))⟩])
     (.seq (.region true [[], [], [0, 1], [2], [], [], [4, 5], [6], [3, 7]] [
        ⟨(some 16), none, (.mov (.t 0))⟩,
        ⟨(some 17), none, (.mov (.t 5))⟩,
        ⟨(some 18), none, (.idx 1 (.t 16) (.t 17))⟩,
        ⟨(some 19), none, (.load 1 false (.t 18))⟩,
        ⟨(some 20), none, (.mov (.t 1))⟩,
        ⟨(some 21), none, (.mov (.t 5))⟩,
        ⟨(some 22), none, (.idx 1 (.t 20) (.t 21))⟩,
        ⟨(some 23), none, (.load 1 false (.t 22))⟩,
        ⟨(some 24), none, (.bin .neq 22 (.t 19) (.t 23))⟩])
     (.cond (.t 24)
       (.seq (.region false [] [
          ⟨(some 4), none, (.mov (.v (.bool false)))⟩])
       .ret)
       .skip))))
    (.region false [] [
       ⟨(some 25), none, (.bin .add 3 (.t 13) (.v (.int .i64 1)))⟩,
       ⟨(some 13), none, (.mov (.t 25))⟩])))))))
  (.seq (.region false [] [
     ⟨(some 4), none, (.mov (.v (.bool true)))⟩])
  .ret))))
theorem k28 : FnIs Tryd.prog 28 26 [.t 4] a28 := ⟨_, _, Tryd.func28, rfl, by kernel_rfl, by kernel_rfl, rfl⟩
/- gridhall/gridhallkeep4.SwingParts -/
def a8 : ACode :=
  (.seq (.region false [] [
     ⟨(some 3), none, (.box 24 (.t 0))⟩,
     ⟨(some 6), none, (.mov (.v (.bool false)))⟩])
  (.seq (.region false [] [
     ⟨(some 13), none, (.mov (.t 1))⟩,
     ⟨(some 14), none, (.call 26 [(.t 13), (.v (.int .i64 1)), (.v (.int .i64 6))])⟩,
     ⟨(some 15), none, (.mov (.t 2))⟩,
     ⟨(some 16), none, (.call 26 [(.t 15), (.v (.int .i64 0)), (.v (.int .i64 6))])⟩,
     ⟨(some 1), none, (.mov (.t 14))⟩,
     ⟨(some 2), none, (.mov (.t 16))⟩])
  (.seq (.region false [] [
     ⟨(some 18), none, (.load 5 true (.t 3))⟩,
     ⟨(some 19), none, (.mov (.t 1))⟩,
     ⟨(some 20), none, (.mov (.t 2))⟩,
     ⟨(some 21), none, (.bin .add 3 (.t 19) (.t 20))⟩,
     ⟨(some 22), none, (.call 27 [(.t 18), (.t 21)])⟩,
     ⟨(some 17), none, (.mov (.t 22))⟩,
     ⟨(some 23), none, (.ext 0 (.t 17))⟩,
     ⟨(some 24), none, (.ext 1 (.t 17))⟩,
     ⟨(some 7), none, (.mov (.t 23))⟩,
     ⟨(some 8), none, (.mov (.t 24))⟩])
  (.seq (.seq (.region false [] [
     ⟨(some 25), none, (.mov (.t 8))⟩,
     ⟨(some 26), none, (.bin .neq 25 (.t 25) (.v (.int .i64 0)))⟩])
  (.cond (.t 26)
    (.seq (.region false [] [
       ⟨(some 27), none, (.call 13 [])⟩,
       ⟨(some 28), none, (.mov (.t 27))⟩,
       ⟨(some 29), (some (28, true)), (.mov (.t 7))⟩,
       ⟨(some 30), (some (28, true)), (.len (.t 29))⟩,
       ⟨(some 31), (some (28, true)), (.bin .eql 3 (.t 30) (.v (.int .i64 0)))⟩,
       ⟨(some 32), none, (.pick (.t 28) (.t 31) (.v (.bool false)))⟩,
       ⟨(some 6), none, (.mov (.t 32))⟩])
    .ret)
    .skip))
  (.seq (.region false [] [
     ⟨(some 34), none, (.load 5 true (.t 3))⟩,
     ⟨(some 35), none, (.mov (.t 1))⟩,
     ⟨(some 36), none, (.call 27 [(.t 34), (.t 35)])⟩,
     ⟨(some 33), none, (.mov (.t 36))⟩,
     ⟨(some 37), none, (.ext 0 (.t 33))⟩,
     ⟨(some 38), none, (.ext 1 (.t 33))⟩,
     ⟨(some 9), none, (.mov (.t 37))⟩,
     ⟨(some 10), none, (.mov (.t 38))⟩])
  (.seq (.seq (.region false [] [
     ⟨(some 39), none, (.mov (.t 10))⟩,
     ⟨(some 40), none, (.bin .neq 25 (.t 39) (.v (.int .i64 0)))⟩,
     ⟨(some 41), none, (.mov (.t 40))⟩,
     ⟨(some 42), (some (41, false)), (.mov (.t 9))⟩,
     ⟨(some 43), (some (41, false)), (.len (.t 42))⟩,
     ⟨(some 44), (some (41, false)), (.mov (.t 1))⟩,
     ⟨(some 45), (some (41, false)), (.bin .neq 3 (.t 43) (.t 44))⟩,
     ⟨(some 46), none, (.pick (.t 41) (.v (.bool true)) (.t 45))⟩,
     ⟨(some 47), none, (.mov (.t 46))⟩,
     ⟨(some 48), (some (47, false)), (.mov (.t 7))⟩,
     ⟨(some 49), (some (47, false)), (.len (.t 48))⟩,
     ⟨(some 50), (some (47, false)), (.mov (.t 1))⟩,
     ⟨(some 51), (some (47, false)), (.mov (.t 2))⟩,
     ⟨(some 52), (some (47, false)), (.bin .add 3 (.t 50) (.t 51))⟩,
     ⟨(some 53), (some (47, false)), (.bin .neq 3 (.t 49) (.t 52))⟩,
     ⟨(some 54), none, (.pick (.t 47) (.v (.bool true)) (.t 53))⟩])
  (.cond (.t 54)
    (.seq (.region false [] [
       ⟨(some 6), none, (.mov (.v (.bool false)))⟩])
    .ret)
    .skip))
  (.seq (.region false [] [
     ⟨(some 55), none, (.mov (.t 9))⟩,
     ⟨(some 56), none, (.mov (.t 1))⟩,
     ⟨(some 57), none, (.bin .sub 3 (.t 56) (.v (.int .i64 1)))⟩,
     ⟨(some 58), none, (.idx 1 (.t 55) (.t 57))⟩,
     ⟨(some 59), none, (.load 1 false (.t 58))⟩,
     ⟨(some 60), none, (.fld 4 (.t 3))⟩,
     ⟨none, none, (.store 1 (.t 60) (.t 59))⟩])
  (.seq (.region false [] [
     ⟨(some 62), none, (.load 5 true (.t 3))⟩,
     ⟨(some 63), none, (.mov (.t 2))⟩,
     ⟨(some 64), none, (.call 27 [(.t 62), (.t 63)])⟩,
     ⟨(some 61), none, (.mov (.t 64))⟩,
     ⟨(some 65), none, (.ext 0 (.t 61))⟩,
     ⟨(some 66), none, (.ext 1 (.t 61))⟩,
     ⟨(some 11), none, (.mov (.t 65))⟩,
     ⟨(some 12), none, (.mov (.t 66))⟩])
  (.seq (.region false [] [
     ⟨(some 67), none, (.call 13 [])⟩,
     ⟨(some 68), none, (.mov (.t 67))⟩,
     ⟨(some 69), (some (68, true)), (.mov (.t 12))⟩,
     ⟨(some 70), (some (68, true)), (.bin .eql 25 (.t 69) (.v (.int .i64 0)))⟩,
     ⟨(some 71), none, (.pick (.t 68) (.t 70) (.v (.bool false)))⟩,
     ⟨(some 72), none, (.mov (.t 71))⟩,
     ⟨(some 73), (some (72, true)), (.mov (.t 7))⟩,
     ⟨(some 74), (some (72, true)), (.mov (.t 9))⟩,
     ⟨(some 75), (some (72, true)), (.mov (.t 11))⟩,
     ⟨(some 76), (some (72, true)), (.bsl 38 1 2 [(0, (.t 74)), (1, (.t 75))])⟩,
     ⟨(some 77), (some (72, true)), (.call 29 [(.t 76)])⟩,
     ⟨(some 78), (some (72, true)), (.call 28 [(.t 73), (.t 77)])⟩,
     ⟨(some 79), none, (.pick (.t 72) (.t 78) (.v (.bool false)))⟩,
     ⟨(some 6), none, (.mov (.t 79))⟩])
  .ret)))))))))
theorem k8 : FnIs Tryd.prog 8 80 [.t 6] a8 := ⟨_, _, Tryd.func8, rfl, by kernel_rfl, by kernel_rfl, rfl⟩



theorem s58 (n : Nat) (hn63 : n * 16 ≤ 281474976710656) (hn64 : n ≤ 281474976710656) : Aw.Spec Tryd.prog 58 [] [.val (.slice none 0 0), I n] (fun rg v => (n = 0 → rg = [] ∧ v = .val (.slice none 0 0)) ∧ (0 < n → rg = [.arr 22 1 (List.replicate n [S ⟨#[]⟩])] ∧ v = .hnd 0 0 0 n false)) := by
  refine Aw.Spec.regsD k58 mixed rfl rfl rfl fun E hn hnp hp => ?_
  unfold a58
  have e1 : IntKind.i64.wrap ((n : Int) - IntKind.i64.wrap (0 - 0)) = n := by rw [w64 (n := 0 - 0) (by omega) (by omega), w64 (by omega) (by omega)]; omega
  simp (config := { maxSteps := 2000000 }) only [go_sem, ↓reduceIte, Int.reduceToNat, Nat.reduceMul, Int.reduceBEq, Int.reduceBNe, Nat.reduceBEq, Nat.reduceAdd, Nat.reduceSub, Nat.reduceLeDiff, Nat.reduceEqDiff, Nat.reduceLT, reduceCtorEq, e1, Int.natCast_zero]
  simp only [decide_eq_true_eq, decide_eq_false_iff_not]
  refine ⟨fun h => by omega, fun h => ⟨fun h2 => ?_, fun h2 => ?_⟩⟩
  · (repeat (refine And.intro (by first | omega | (refine ⟨by omega, by omega⟩) | (refine ⟨by omega, by omega, by omega⟩) | (simp only [List.length_map, List.length_range, List.length_append, List.length_cons, List.length_nil, List.length_replicate, List.length_set]; omega) | (simp; omega) | (intro hgd; cases hgd) | (intro hgd; refine ⟨hgd, ?_⟩; first | omega | (refine ⟨by omega, by omega⟩) | (simp; omega))) ?_))
    refine AWpL.appzZero (els := []) (m := n) rfl rfl trivial rfl rfl (by rw [hn]; rfl) (by omega) (by simp only [List.length_nil, Int.toNat_natCast]; omega) (by simp only [List.length_nil, Int.toNat_natCast]; omega) (AWpL.ofM hn rfl ?_)
    simp (config := { maxSteps := 2000000 }) only [go_sem, ↓reduceIte, Int.reduceToNat, Nat.reduceMul, Int.reduceBEq, Int.reduceBNe, Nat.reduceBEq, Nat.reduceAdd, Nat.reduceSub, Nat.reduceLeDiff, Nat.reduceEqDiff, Nat.reduceLT, reduceCtorEq, Int.natCast_zero]
    (repeat (refine And.intro (by first | omega | (refine ⟨by omega, by omega⟩) | (refine ⟨by omega, by omega, by omega⟩) | (simp only [List.length_map, List.length_range, List.length_append, List.length_cons, List.length_nil, List.length_replicate, List.length_set]; omega) | (simp; omega) | (intro hgd; cases hgd) | (intro hgd; refine ⟨hgd, ?_⟩; first | omega | (refine ⟨by omega, by omega⟩) | (simp; omega))) ?_))
    refine Retn.ret (π := [0]) hp hnp ⟨rfl, ?_⟩
    simp (config := { maxSteps := 2000000 }) only [go_sem, ↓reduceIte, Int.reduceToNat, Nat.reduceMul, Int.reduceBEq, Int.reduceBNe, Nat.reduceBEq, Nat.reduceAdd, Nat.reduceSub, Nat.reduceLeDiff, Nat.reduceEqDiff, Nat.reduceLT, reduceCtorEq, Aw.renR, Aw.pos]
    exact fun h0 => by omega
  · refine Retn.ret (π := []) hp hnp ⟨rfl, ?_⟩
    simp (config := { maxSteps := 2000000 }) only [go_sem, ↓reduceIte, Int.reduceToNat, Nat.reduceMul, Int.reduceBEq, Int.reduceBNe, Nat.reduceBEq, Nat.reduceAdd, Nat.reduceSub, Nat.reduceLeDiff, Nat.reduceEqDiff, Nat.reduceLT, reduceCtorEq, Aw.renR, Aw.pos]
    exact fun h0 => by omega

theorem over29 {done l : List (List UInt8)} {n : Nat} (h : done.length + l.length ≤ n) : overEls (done.map bl ++ List.replicate (n - done.length) [S ⟨#[]⟩]) done.length (l.map bl) = (done ++ l).map bl ++ List.replicate (n - (done ++ l).length) [S ⟨#[]⟩] := by
  unfold overEls
  rw [List.take_left' (by simp), List.length_map, List.drop_append, List.length_map, List.drop_of_length_le (by simp), List.nil_append, Nat.add_sub_cancel_left, List.drop_replicate, List.map_append, List.append_assoc, List.length_append]
  congr 3; omega
theorem s29 (nl fl) (L : List (List (List UInt8))) (hL : L.length ≤ 1000000) (hb : L.flatten.length * 16 ≤ 281474976710656) : Aw.Spec Tryd.prog 29 [] [.imm nl fl 1 (L.map fun l => [(fun l => .imm none false 1 (l.map bl)) l])] (fun rg v => rg = [] ∧ v = .imm none false 1 (L.flatten.map bl)) := by
  refine Aw.Spec.regsD k29 mixed rfl rfl rfl fun E hn hnp hp => ?_
  unfold a29
  have hsum : ∀ i, (L.take i).flatten.length ≤ L.flatten.length := by
    intro i
    have h4 : L = L.take i ++ L.drop i := (List.take_append_drop _ _).symm
    have h5 := congrArg (fun l => l.flatten.length) h4
    simp only [List.flatten_append, List.length_append] at h5
    omega
  simp (config := { maxSteps := 2000000 }) only [go_sem, ↓reduceIte, Int.reduceToNat, Nat.reduceMul, Int.reduceBEq, Int.reduceBNe, Nat.reduceBEq, Nat.reduceAdd, Nat.reduceSub, Nat.reduceLeDiff, Nat.reduceEqDiff, Nat.reduceLT, reduceCtorEq]
  refine AWp.loop (fun k s => ∃ i : Nat, i + k = L.length ∧ Weak E s ⟨[(0, .imm nl fl 1 (L.map fun l => [(fun l => .imm none false 1 (l.map bl)) l])), (3, I (L.take i).flatten.length), (9, .imm nl fl 1 (L.map fun l => [(fun l => .imm none false 1 (l.map bl)) l])), (10, I L.length), (11, I i)], []⟩) (n := L.length)
    ⟨0, by omega, weak_to [] hp hnp rfl (by simp (config := { maxSteps := 2000000 }) only [go_sem, ↓reduceIte, Int.reduceToNat, Nat.reduceMul, Int.reduceBEq, Int.reduceBNe, Nat.reduceBEq, Nat.reduceAdd, Nat.reduceSub, Nat.reduceLeDiff, Nat.reduceEqDiff, Nat.reduceLT, reduceCtorEq, Int.natCast_zero, List.flatten_nil]) rfl⟩ ?_
  rintro k s ⟨i, hi, hw⟩
  refine AWp.weak hw (AWp.ofD [] [] hn mixed rfl ?_)
  rcases Nat.lt_or_ge i L.length with hlt | hge
  · have e0 : decide ((i : Int) < (L.length : Int)) = true := by simp; omega
    have e1 := getD_map (fun l => [(fun l => .imm none false 1 (l.map bl)) l]) hlt
    have e2 : IntKind.i64.wrap ((i : Int) + 1) = ((i + 1 : Nat) : Int) := by rw [w64 (by omega) (by omega)]; omega
    have h1 := hsum i
    have h2 : (L.take i).flatten.length + L[i].length ≤ L.flatten.length := by
      have h3 := hsum (i + 1)
      rw [take_get hlt, List.flatten_append, List.length_append] at h3
      simp only [List.flatten_cons, List.flatten_nil, List.append_nil] at h3
      omega
    have e3 : IntKind.i64.wrap (((L.take i).flatten.length : Int) + (L[i].length : Int)) = ((L.take (i + 1)).flatten.length : Int) := by
      rw [w64 (by omega) (by omega), take_get hlt, List.flatten_append, List.length_append]; simp
    have e4 : decide (((L.take (i + 1)).flatten.length : Int) < 0) = false := by simp
    simp (config := { maxSteps := 2000000 }) only [go_sem, ↓reduceIte, Int.reduceToNat, Nat.reduceMul, Int.reduceBEq, Int.reduceBNe, Nat.reduceBEq, Nat.reduceAdd, Nat.reduceSub, Nat.reduceLeDiff, Nat.reduceEqDiff, Nat.reduceLT, reduceCtorEq, e0, e1, e2, e3, e4]
    (repeat (refine And.intro (by first | omega | (refine ⟨by omega, by omega⟩) | (refine ⟨by omega, by omega, by omega⟩) | (simp only [List.length_map, List.length_range, List.length_append, List.length_cons, List.length_nil, List.length_replicate, List.length_set]; omega) | (simp; omega) | (intro hgd; cases hgd) | (intro hgd; refine ⟨hgd, ?_⟩; first | omega | (refine ⟨by omega, by omega⟩) | (simp; omega))) ?_))
    exact ⟨k - 1, by omega, i + 1, by omega, weak_to [] hp hnp rfl (by simp (config := { maxSteps := 2000000 }) only [go_sem, ↓reduceIte, Int.reduceToNat, Nat.reduceMul, Int.reduceBEq, Int.reduceBNe, Nat.reduceBEq, Nat.reduceAdd, Nat.reduceSub, Nat.reduceLeDiff, Nat.reduceEqDiff, Nat.reduceLT, reduceCtorEq]) rfl⟩
  have e0 : decide ((i : Int) < (L.length : Int)) = false := by simp; omega
  have eL : L.take i = L := List.take_of_length_le hge
  simp (config := { maxSteps := 2000000 }) only [go_sem, ↓reduceIte, Int.reduceToNat, Nat.reduceMul, Int.reduceBEq, Int.reduceBNe, Nat.reduceBEq, Nat.reduceAdd, Nat.reduceSub, Nat.reduceLeDiff, Nat.reduceEqDiff, Nat.reduceLT, reduceCtorEq, e0, eL]
  generalize hN : L.flatten.length = N at *
  refine AWpL.callA [] (s58 N (by omega) (by omega)) rfl rfl (by rw [hn]; rfl) rfl (fun r hr => by cases hr) fun rg v hv => ?_
  refine ⟨Nat.zero_le _, ?_⟩
  rcases Nat.eq_zero_or_pos N with h0 | h0
  · obtain ⟨rfl, rfl⟩ := hv.1 h0
    have hnil : ∀ l ∈ L, l = [] := fun l hl => by
      have h3 : L.flatten = [] := List.eq_nil_of_length_eq_zero (by omega)
      rw [List.flatten_eq_nil_iff] at h3
      exact h3 l hl
    rw [retS_nil]
    refine AWpL.ofM hn rfl ?_
    simp (config := { maxSteps := 2000000 }) only [go_sem, ↓reduceIte, Int.reduceToNat, Nat.reduceMul, Int.reduceBEq, Int.reduceBNe, Nat.reduceBEq, Nat.reduceAdd, Nat.reduceSub, Nat.reduceLeDiff, Nat.reduceEqDiff, Nat.reduceLT, reduceCtorEq]
    refine AWp.loop (fun k s => ∃ i : Nat, i + k = L.length ∧ Weak E s ⟨[(6, .val (.slice none 0 0)), (25, .imm nl fl 1 (L.map fun l => [(fun l => .imm none false 1 (l.map bl)) l])), (26, I L.length), (27, I i)], []⟩) (n := L.length)
      ⟨0, by omega, weak_to [] hp hnp rfl (by simp (config := { maxSteps := 2000000 }) only [go_sem, ↓reduceIte, Int.reduceToNat, Nat.reduceMul, Int.reduceBEq, Int.reduceBNe, Nat.reduceBEq, Nat.reduceAdd, Nat.reduceSub, Nat.reduceLeDiff, Nat.reduceEqDiff, Nat.reduceLT, reduceCtorEq, Int.natCast_zero]) rfl⟩ ?_
    rintro k s ⟨i, hi, hw⟩
    refine AWp.weak hw (AWp.ofD [] [] hn mixed rfl ?_)
    rcases Nat.lt_or_ge i L.length with hlt | hge
    · have e0 : decide ((i : Int) < (L.length : Int)) = true := by simp; omega
      have e1 := getD_map (fun l => [(fun l => .imm none false 1 (l.map bl)) l]) hlt
      have e2 : IntKind.i64.wrap ((i : Int) + 1) = ((i + 1 : Nat) : Int) := by rw [w64 (by omega) (by omega)]; omega
      have h3 := hnil _ (List.getElem_mem hlt)
      simp (config := { maxSteps := 2000000 }) only [go_sem, ↓reduceIte, Int.reduceToNat, Nat.reduceMul, Int.reduceBEq, Int.reduceBNe, Nat.reduceBEq, Nat.reduceAdd, Nat.reduceSub, Nat.reduceLeDiff, Nat.reduceEqDiff, Nat.reduceLT, reduceCtorEq, e0, e1, h3, List.map_nil]
      (repeat (refine And.intro (by first | omega | (refine ⟨by omega, by omega⟩) | (refine ⟨by omega, by omega, by omega⟩) | (simp only [List.length_map, List.length_range, List.length_append, List.length_cons, List.length_nil, List.length_replicate, List.length_set]; omega) | (simp; omega) | (intro hgd; cases hgd) | (intro hgd; refine ⟨hgd, ?_⟩; first | omega | (refine ⟨by omega, by omega⟩) | (simp; omega))) ?_))
      refine AWpL.appNil (els := []) rfl rfl trivial rfl rfl (by rw [hn]; rfl) trivial (AWpL.ofM hn rfl ?_)
      simp (config := { maxSteps := 2000000 }) only [go_sem, ↓reduceIte, Int.reduceToNat, Nat.reduceMul, Int.reduceBEq, Int.reduceBNe, Nat.reduceBEq, Nat.reduceAdd, Nat.reduceSub, Nat.reduceLeDiff, Nat.reduceEqDiff, Nat.reduceLT, reduceCtorEq, e2]
      exact ⟨k - 1, by omega, i + 1, by omega, weak_to [] hp hnp rfl (by simp (config := { maxSteps := 2000000 }) only [go_sem, ↓reduceIte, Int.reduceToNat, Nat.reduceMul, Int.reduceBEq, Int.reduceBNe, Nat.reduceBEq, Nat.reduceAdd, Nat.reduceSub, Nat.reduceLeDiff, Nat.reduceEqDiff, Nat.reduceLT, reduceCtorEq]) rfl⟩
    · have e0 : decide ((i : Int) < (L.length : Int)) = false := by simp; omega
      simp (config := { maxSteps := 2000000 }) only [go_sem, ↓reduceIte, Int.reduceToNat, Nat.reduceMul, Int.reduceBEq, Int.reduceBNe, Nat.reduceBEq, Nat.reduceAdd, Nat.reduceSub, Nat.reduceLeDiff, Nat.reduceEqDiff, Nat.reduceLT, reduceCtorEq, e0]
      have h3 : L.flatten = [] := List.eq_nil_of_length_eq_zero (by omega)
      refine Retn.weak (weak_ent 2 (by rfl) (Ent.ofnil0 1)) _ (Retn.ret (π := []) hp hnp ⟨rfl, ?_⟩)
      simp (config := { maxSteps := 2000000 }) only [go_sem, ↓reduceIte, Int.reduceToNat, Nat.reduceMul, Int.reduceBEq, Int.reduceBNe, Nat.reduceBEq, Nat.reduceAdd, Nat.reduceSub, Nat.reduceLeDiff, Nat.reduceEqDiff, Nat.reduceLT, reduceCtorEq, h3]
  · obtain ⟨rfl, rfl⟩ := hv.2 h0
    rw [retS_new]
    refine AWpL.ofM hn rfl ?_
    simp (config := { maxSteps := 2000000 }) only [go_sem, ↓reduceIte, Int.reduceToNat, Nat.reduceMul, Int.reduceBEq, Int.reduceBNe, Nat.reduceBEq, Nat.reduceAdd, Nat.reduceSub, Nat.reduceLeDiff, Nat.reduceEqDiff, Nat.reduceLT, reduceCtorEq]
    refine AWp.loop (fun k s => ∃ i : Nat, i + k = L.length ∧ Weak E s ⟨[(6, .hnd 0 0 (L.take i).flatten.length N false), (25, .imm nl fl 1 (L.map fun l => [(fun l => .imm none false 1 (l.map bl)) l])), (26, I L.length), (27, I i)], [.arr 22 1 ((L.take i).flatten.map bl ++ List.replicate (N - (L.take i).flatten.length) [S ⟨#[]⟩])]⟩) (n := L.length)
      ⟨0, by omega, weak_to [0] hp hnp rfl (by simp (config := { maxSteps := 2000000 }) only [go_sem, ↓reduceIte, Int.reduceToNat, Nat.reduceMul, Int.reduceBEq, Int.reduceBNe, Nat.reduceBEq, Nat.reduceAdd, Nat.reduceSub, Nat.reduceLeDiff, Nat.reduceEqDiff, Nat.reduceLT, reduceCtorEq, Int.natCast_zero, Aw.pos, List.flatten_nil]) (by simp (config := { maxSteps := 2000000 }) only [go_sem, ↓reduceIte, Int.reduceToNat, Nat.reduceMul, Int.reduceBEq, Int.reduceBNe, Nat.reduceBEq, Nat.reduceAdd, Nat.reduceSub, Nat.reduceLeDiff, Nat.reduceEqDiff, Nat.reduceLT, reduceCtorEq, Aw.renR, Aw.pos, List.flatten_nil])⟩ ?_
    rintro k s ⟨i, hi, hw⟩
    refine AWp.weak hw (AWp.ofD [] [] hn mixed rfl ?_)
    rcases Nat.lt_or_ge i L.length with hlt | hge
    · have e0 : decide ((i : Int) < (L.length : Int)) = true := by simp; omega
      have e1 := getD_map (fun l => [(fun l => .imm none false 1 (l.map bl)) l]) hlt
      have e2 : IntKind.i64.wrap ((i : Int) + 1) = ((i + 1 : Nat) : Int) := by rw [w64 (by omega) (by omega)]; omega
      have h3 : (L.take i).flatten.length + L[i].length ≤ N := by
        have h4 : L = L.take (i + 1) ++ L.drop (i + 1) := (List.take_append_drop _ _).symm
        have h5 := congrArg (fun l => l.flatten.length) h4
        rw [take_get hlt] at h5
        simp only [List.flatten_append, List.length_append, List.flatten_cons, List.flatten_nil, List.append_nil] at h5
        omega
      have hfl : (L.take (i + 1)).flatten = (L.take i).flatten ++ L[i] := by rw [take_get hlt, List.flatten_append]; simp
      have hov := over29 (done := (L.take i).flatten) (l := L[i]) (n := N) h3
      simp (config := { maxSteps := 2000000 }) only [go_sem, ↓reduceIte, Int.reduceToNat, Nat.reduceMul, Int.reduceBEq, Int.reduceBNe, Nat.reduceBEq, Nat.reduceAdd, Nat.reduceSub, Nat.reduceLeDiff, Nat.reduceEqDiff, Nat.reduceLT, reduceCtorEq, e0, e1]
      (repeat (refine And.intro (by first | omega | (refine ⟨by omega, by omega⟩) | (refine ⟨by omega, by omega, by omega⟩) | (simp only [List.length_map, List.length_range, List.length_append, List.length_cons, List.length_nil, List.length_replicate, List.length_set]; omega) | (simp; omega) | (intro hgd; cases hgd) | (intro hgd; refine ⟨hgd, ?_⟩; first | omega | (refine ⟨by omega, by omega⟩) | (simp; omega))) ?_))
      refine AWpL.appIn (r := 0) (ys := L[i].map bl) rfl rfl rfl rfl (by rw [hn]; rfl) trivial (fun el hm y hy => ?_) (by simp only [List.length_map]; omega) (by simp only [List.length_map, List.length_append, List.length_replicate]; omega) h0 (AWpL.ofM hn rfl ?_)
      · obtain ⟨z, _, rfl⟩ := List.mem_map.1 hm
        simp only [List.mem_cons, List.not_mem_nil, or_false] at hy
        (try obtain rfl := hy); (try rcases hy with rfl | rfl | rfl); all_goals rfl
      rw [Nat.zero_add, hov]
      simp (config := { maxSteps := 2000000 }) only [go_sem, ↓reduceIte, Int.reduceToNat, Nat.reduceMul, Int.reduceBEq, Int.reduceBNe, Nat.reduceBEq, Nat.reduceAdd, Nat.reduceSub, Nat.reduceLeDiff, Nat.reduceEqDiff, Nat.reduceLT, reduceCtorEq, e2]
      exact ⟨k - 1, by omega, i + 1, by omega, weak_to [0] hp hnp rfl (by simp (config := { maxSteps := 2000000 }) only [go_sem, ↓reduceIte, Int.reduceToNat, Nat.reduceMul, Int.reduceBEq, Int.reduceBNe, Nat.reduceBEq, Nat.reduceAdd, Nat.reduceSub, Nat.reduceLeDiff, Nat.reduceEqDiff, Nat.reduceLT, reduceCtorEq, Aw.pos, hfl, List.length_append, List.length_map]) (by simp (config := { maxSteps := 2000000 }) only [go_sem, ↓reduceIte, Int.reduceToNat, Nat.reduceMul, Int.reduceBEq, Int.reduceBNe, Nat.reduceBEq, Nat.reduceAdd, Nat.reduceSub, Nat.reduceLeDiff, Nat.reduceEqDiff, Nat.reduceLT, reduceCtorEq, Aw.renR, Aw.pos, hfl])⟩
    · have e0 : decide ((i : Int) < (L.length : Int)) = false := by simp; omega
      have ht : L.take i = L := List.take_of_length_le hge
      have hz : N - L.flatten.length = 0 := by omega
      simp (config := { maxSteps := 2000000 }) only [go_sem, ↓reduceIte, Int.reduceToNat, Nat.reduceMul, Int.reduceBEq, Int.reduceBNe, Nat.reduceBEq, Nat.reduceAdd, Nat.reduceSub, Nat.reduceLeDiff, Nat.reduceEqDiff, Nat.reduceLT, reduceCtorEq, e0, ht, hN, Nat.sub_self, List.replicate_zero]
      refine Retn.weak (weak_freeze 0 rfl (hp.none hnp (Nat.zero_le _)) ?_) _ ?_
      · simp (config := { maxSteps := 2000000 }) only [go_sem, ↓reduceIte, Int.reduceToNat, Nat.reduceMul, Int.reduceBEq, Int.reduceBNe, Nat.reduceBEq, Nat.reduceAdd, Nat.reduceSub, Nat.reduceLeDiff, Nat.reduceEqDiff, Nat.reduceLT, reduceCtorEq, Nat.le_refl]
        omega
      refine Retn.weak (weak_ent 2 (by rfl) (Ent.plain _ _ _ _)) _ (Retn.ret (π := []) hp hnp ⟨rfl, ?_⟩)
      simp (config := { maxSteps := 2000000 }) only [go_sem, ↓reduceIte, Int.reduceToNat, Nat.reduceMul, Int.reduceBEq, Int.reduceBNe, Nat.reduceBEq, Nat.reduceAdd, Nat.reduceSub, Nat.reduceLeDiff, Nat.reduceEqDiff, Nat.reduceLT, reduceCtorEq]
      rw [List.take_of_length_le (by rw [List.length_map, hN]; exact Nat.le_refl _)]

theorem s28 (nl fl nm' fm) (l : List (List UInt8)) (hl : l.length ≤ 1000) : Aw.Spec Tryd.prog 28 [] [.imm nl fl 1 (l.map bl), .imm nm' fm 1 (l.map bl)] (Gives (· = B true)) := by
  refine Aw.Spec.givesD k28 mixed rfl rfl rfl fun E hn hnp hp => ?_
  unfold a28
  have e9 : ((l.length : Int) != (l.length : Int)) = false := by simp
  simp (config := { maxSteps := 2000000 }) only [go_sem, ↓reduceIte, Int.reduceToNat, Nat.reduceMul, Int.reduceBEq, Int.reduceBNe, Nat.reduceBEq, Nat.reduceAdd, Nat.reduceSub, Nat.reduceLeDiff, Nat.reduceEqDiff, Nat.reduceLT, reduceCtorEq, e9]
  refine AWp.loop (fun k s => ∃ i : Nat, i + k = l.length ∧ Weak E s ⟨[(0, .imm nl fl 1 (l.map bl)), (1, .imm nm' fm 1 (l.map bl)), (12, I l.length), (13, I i)], []⟩) (n := l.length)
    ⟨0, by omega, weak_to [] hp hnp rfl (by simp (config := { maxSteps := 2000000 }) only [go_sem, ↓reduceIte, Int.reduceToNat, Nat.reduceMul, Int.reduceBEq, Int.reduceBNe, Nat.reduceBEq, Nat.reduceAdd, Nat.reduceSub, Nat.reduceLeDiff, Nat.reduceEqDiff, Nat.reduceLT, reduceCtorEq, Int.natCast_zero]) rfl⟩ ?_
  rintro k s ⟨i, hi, hw⟩
  refine AWp.weak hw (AWp.ofD [] [] hn mixed rfl ?_)
  rcases Nat.lt_or_ge i l.length with hlt | hge
  · have e0 : decide ((i : Int) < (l.length : Int)) = true := by simp; omega
    have e1 := getD_map bl hlt
    have e2 : IntKind.i64.wrap ((i : Int) + 1) = ((i + 1 : Nat) : Int) := by rw [w64 (by omega) (by omega)]; omega
    simp (config := { maxSteps := 2000000 }) only [go_sem, ↓reduceIte, Int.reduceToNat, Nat.reduceMul, Int.reduceBEq, Int.reduceBNe, Nat.reduceBEq, Nat.reduceAdd, Nat.reduceSub, Nat.reduceLeDiff, Nat.reduceEqDiff, Nat.reduceLT, reduceCtorEq, e0, e1, e2]
    (repeat (refine And.intro (by first | omega | (refine ⟨by omega, by omega⟩) | (refine ⟨by omega, by omega, by omega⟩) | (simp only [List.length_map, List.length_range, List.length_append, List.length_cons, List.length_nil, List.length_replicate, List.length_set]; omega) | (simp; omega) | (intro hgd; cases hgd) | (intro hgd; refine ⟨hgd, ?_⟩; first | omega | (refine ⟨by omega, by omega⟩) | (simp; omega))) ?_))
    exact ⟨k - 1, by omega, i + 1, by omega, weak_to [] hp hnp rfl (by simp (config := { maxSteps := 2000000 }) only [go_sem, ↓reduceIte, Int.reduceToNat, Nat.reduceMul, Int.reduceBEq, Int.reduceBNe, Nat.reduceBEq, Nat.reduceAdd, Nat.reduceSub, Nat.reduceLeDiff, Nat.reduceEqDiff, Nat.reduceLT, reduceCtorEq]) rfl⟩
  · have e0 : decide ((i : Int) < (l.length : Int)) = false := by simp; omega
    simp (config := { maxSteps := 2000000 }) only [go_sem, ↓reduceIte, Int.reduceToNat, Nat.reduceMul, Int.reduceBEq, Int.reduceBNe, Nat.reduceBEq, Nat.reduceAdd, Nat.reduceSub, Nat.reduceLeDiff, Nat.reduceEqDiff, Nat.reduceLT, reduceCtorEq, e0]
theorem runR_withF (x : Isl) (r : Rat) : ∀ (n : Nat) (f : Rat), runR (x.withF r) n f = runR x n f
  | 0, _ => rfl
  | n + 1, f => by rw [runR_succ, runR_succ, withF_step, runR_withF x r n]
theorem runR_add (x : Isl) : ∀ (m n : Nat) (f : Rat), (runR x (m + n) f).2 = true → (runR x m f).2 = true ∧ ∀ l, (f :: (runR x m f).1).getLast? = some l → (runR x n l).2 = true ∧ (runR x (m + n) f).1 = (runR x m f).1 ++ (runR x n l).1
  | 0, n, f, h => by
    rw [Nat.zero_add] at h ⊢
    refine ⟨rfl, fun l hl => ?_⟩
    have : f = l := by simpa [runR] using hl
    subst this
    exact ⟨h, rfl⟩
  | m + 1, n, f, h => by
    rw [show m + 1 + n = (m + n) + 1 by omega] at h ⊢
    rw [runR_succ] at h ⊢
    by_cases hf : fitsR (stepR x f)
    · rw [if_pos hf] at h ⊢
      obtain ⟨h1, h2⟩ := runR_add x m n _ h
      rw [runR_succ, if_pos hf]
      refine ⟨h1, fun l hl => ?_⟩
      have hl' : (stepR x f :: (runR x m (stepR x f)).1).getLast? = some l := by
        simpa [List.getLast?_cons_cons] using hl
      obtain ⟨h3, h4⟩ := h2 l hl'
      exact ⟨h3, by rw [h4]; rfl⟩
    · rw [if_neg hf] at h; cases h
theorem runS_bad {x : Isl} {n : Int} (h : (runS x n).2 ≠ 0) : (runS x n).1 = [] := by
  unfold runS at h ⊢
  split
  · rfl
  · rename_i h1
    split
    · rfl
    · rename_i h2
      rw [if_neg h1, if_neg h2] at h
      split
      · rename_i h3
        rw [if_pos h3] at h
        exact absurd rfl h
      · rfl
theorem runS_of {x : Isl} {n : Int} (h0 : checkS x = 0) (h1 : 0 ≤ n) (h2 : n ≤ 200) (h3 : (runR x n.toNat (inR x.freq)).2 = true) : runS x n = ((runR x n.toNat (inR x.freq)).1, 0) := by
  unfold runS
  rw [if_neg (by simp [h0]), if_neg (by omega), if_pos h3]
theorem runS_ok {x : Isl} {n : Int} (h : (runS x n).2 = 0) : checkS x = 0 ∧ 0 ≤ n ∧ n ≤ 200 ∧ (runR x n.toNat (inR x.freq)).2 = true ∧ runS x n = ((runR x n.toNat (inR x.freq)).1, 0) := by
  unfold runS at h ⊢
  split at h
  · rename_i h1; exact absurd h h1
  · rename_i h1
    split at h
    · cases h
    · rename_i h2
      rw [if_neg h1, if_neg h2]
      split at h
      · rename_i h3
        rw [if_pos h3]
        exact ⟨by omega, by omega, by omega, h3, rfl⟩
      · cases h
set_option maxRecDepth 20000 in
set_option maxHeartbeats 1000000 in
theorem s8 (x : Isl) (m n : Int) (hx : Sz x) : Aw.Spec Tryd.prog 8 [] [ia x, I m, I n] (Gives (· = B true)) := by
  refine Spec.shut (Post := fun rg v => v = B true) ?_ fun rg v h => by subst h; exact ⟨rfl, rfl, rfl⟩
  refine Aw.Spec.regsW k8 rfl rfl fun E hn hnp hp => ?_
  unfold a8
  have pin : ∀ r, E.pin r = none := fun r => hp.none hnp (Nat.zero_le _)
  refine AWp.ofD [] [54] hn mixed rfl ?_
  simp (config := { maxSteps := 2000000 }) only [go_sem, ↓reduceIte, Int.reduceToNat, Nat.reduceMul, Int.reduceBEq, Int.reduceBNe, Nat.reduceBEq, Nat.reduceAdd, Nat.reduceSub, Nat.reduceLeDiff, Nat.reduceEqDiff, Nat.reduceLT, reduceCtorEq]
  (refine AWpL.calle (s26 m 1 6 (by decide) (by decide) (by decide)) rfl (by rw [hn]; rfl) (by simp (config := { maxSteps := 2000000 }) only [go_sem, ↓reduceIte, Int.reduceToNat, Nat.reduceMul, Int.reduceBEq, Int.reduceBNe, Nat.reduceBEq, Nat.reduceAdd, Nat.reduceSub, Nat.reduceLeDiff, Nat.reduceEqDiff, Nat.reduceLT, reduceCtorEq]) (AWpL.ofM hn rfl ?_); simp (config := { maxSteps := 2000000 }) only [go_sem, ↓reduceIte, Int.reduceToNat, Nat.reduceMul, Int.reduceBEq, Int.reduceBNe, Nat.reduceBEq, Nat.reduceAdd, Nat.reduceSub, Nat.reduceLeDiff, Nat.reduceEqDiff, Nat.reduceLT, reduceCtorEq])
  (refine AWpL.calle (s26 n 0 6 (by decide) (by decide) (by decide)) rfl (by rw [hn]; rfl) (by simp (config := { maxSteps := 2000000 }) only [go_sem, ↓reduceIte, Int.reduceToNat, Nat.reduceMul, Int.reduceBEq, Int.reduceBNe, Nat.reduceBEq, Nat.reduceAdd, Nat.reduceSub, Nat.reduceLeDiff, Nat.reduceEqDiff, Nat.reduceLT, reduceCtorEq]) (AWpL.ofM hn rfl ?_); simp (config := { maxSteps := 2000000 }) only [go_sem, ↓reduceIte, Int.reduceToNat, Nat.reduceMul, Int.reduceBEq, Int.reduceBNe, Nat.reduceBEq, Nat.reduceAdd, Nat.reduceSub, Nat.reduceLeDiff, Nat.reduceEqDiff, Nat.reduceLT, reduceCtorEq])
  have hm := cut_range m 1 6 (by decide)
  have hk := cut_range n 0 6 (by decide)
  generalize cut m 1 6 = M at *
  generalize cut n 0 6 = K at *
  have e1 : IntKind.i64.wrap (M + K) = M + K := w64 (by omega) (by omega)
  rw [e1]
  refine AWpL.callA [] (s27 x (M + K) hx) rfl rfl (by rw [hn]; rfl) rfl (fun r hr => by cases hr) fun rg v hv => ?_
  obtain ⟨rfl, rfl⟩ := hv
  refine ⟨Nat.le_refl _, AWpL.ofM hn rfl ?_⟩
  simp (config := { maxSteps := 2000000 }) only [go_sem, ↓reduceIte, Int.reduceToNat, Nat.reduceMul, Int.reduceBEq, Int.reduceBNe, Nat.reduceBEq, Nat.reduceAdd, Nat.reduceSub, Nat.reduceLeDiff, Nat.reduceEqDiff, Nat.reduceLT, reduceCtorEq, Aw.retS, Aw.retRg, Aw.kpM, Aw.bkM, Aw.pos, Aw.isBox]
  refine ⟨fun h => ?_, fun h => ?_⟩
  · have h1 := runS_bad (x := x) (n := M + K) (by simpa using h)
    rw [h1]
    (refine AWpL.calle (s13) rfl (by rw [hn]; rfl) (by simp (config := { maxSteps := 2000000 }) only [go_sem, ↓reduceIte, Int.reduceToNat, Nat.reduceMul, Int.reduceBEq, Int.reduceBNe, Nat.reduceBEq, Nat.reduceAdd, Nat.reduceSub, Nat.reduceLeDiff, Nat.reduceEqDiff, Nat.reduceLT, reduceCtorEq]) (AWpL.ofM hn rfl ?_); simp (config := { maxSteps := 2000000 }) only [go_sem, ↓reduceIte, Int.reduceToNat, Nat.reduceMul, Int.reduceBEq, Int.reduceBNe, Nat.reduceBEq, Nat.reduceAdd, Nat.reduceSub, Nat.reduceLeDiff, Nat.reduceEqDiff, Nat.reduceLT, reduceCtorEq])
    refine Retn.ret (π := []) hp hnp ⟨rfl, ?_⟩
    simp (config := { maxSteps := 2000000 }) only [go_sem, ↓reduceIte, Int.reduceToNat, Nat.reduceMul, Int.reduceBEq, Int.reduceBNe, Nat.reduceBEq, Nat.reduceAdd, Nat.reduceSub, Nat.reduceLeDiff, Nat.reduceEqDiff, Nat.reduceLT, reduceCtorEq]
  obtain ⟨h1, h2, h3, h4, h5⟩ := runS_ok (x := x) (n := M + K) (by simpa using h)
  rw [h5]
  have hsum : (M + K).toNat = M.toNat + K.toNat := by omega
  rw [hsum] at h4 h5 ⊢
  obtain ⟨g1, g2⟩ := runR_add x M.toNat K.toNat (inR x.freq) h4
  have hla := runR_len x _ _ g1
  have hlall := runR_len x _ _ h4
  have hfa := runR_fits x M.toNat (inR x.freq)
  generalize hA : (runR x M.toNat (inR x.freq)).1 = A at *
  generalize hAll : (runR x (M.toNat + K.toNat) (inR x.freq)).1 = All at *
  have hSa : runS x M = (A, 0) := by rw [runS_of h1 (by omega) (by omega) g1, hA]
  refine AWpL.callA [] (s27 x M hx) rfl rfl (by rw [hn]; rfl) rfl (fun r hr => by cases hr) fun rg v hv => ?_
  obtain ⟨rfl, rfl⟩ := hv
  refine ⟨Nat.le_refl _, AWpL.ofM hn rfl ?_⟩
  rw [hSa]
  simp (config := { maxSteps := 2000000 }) only [go_sem, ↓reduceIte, Int.reduceToNat, Nat.reduceMul, Int.reduceBEq, Int.reduceBNe, Nat.reduceBEq, Nat.reduceAdd, Nat.reduceSub, Nat.reduceLeDiff, Nat.reduceEqDiff, Nat.reduceLT, reduceCtorEq, Aw.retS, Aw.retRg, Aw.kpM, Aw.bkM, Aw.pos, Aw.isBox]
  have e2 : ((A.length : Int) != M) = false := by rw [bne_eq_false_iff_eq]; omega
  have e3 : ((All.length : Int) != M + K) = false := by rw [bne_eq_false_iff_eq]; omega
  simp (config := { maxSteps := 2000000 }) only [go_sem, ↓reduceIte, Int.reduceToNat, Nat.reduceMul, Int.reduceBEq, Int.reduceBNe, Nat.reduceBEq, Nat.reduceAdd, Nat.reduceSub, Nat.reduceLeDiff, Nat.reduceEqDiff, Nat.reduceLT, reduceCtorEq, e1, e2, e3]
  refine AWp.cond_false (by rfl) ?_
  obtain ⟨j, hj⟩ : ∃ j, M.toNat = j + 1 := ⟨M.toNat - 1, by omega⟩
  have hjl : j < A.length := by omega
  have e4 : IntKind.i64.wrap (M - 1) = (j : Int) := by rw [w64 (by omega) (by omega)]; omega
  have e5 := getD_map (fun r => bl (txtR r)) hjl
  refine AWp.ofD [] [] hn mixed rfl ?_
  simp (config := { maxSteps := 2000000 }) only [go_sem, ↓reduceIte, Int.reduceToNat, Nat.reduceMul, Int.reduceBEq, Int.reduceBNe, Nat.reduceBEq, Nat.reduceAdd, Nat.reduceSub, Nat.reduceLeDiff, Nat.reduceEqDiff, Nat.reduceLT, reduceCtorEq, e4, e5]
  (repeat (refine And.intro (by first | omega | (refine ⟨by omega, by omega⟩) | (refine ⟨by omega, by omega, by omega⟩) | (simp only [List.length_map, List.length_range, List.length_append, List.length_cons, List.length_nil, List.length_replicate, List.length_set]; omega) | (simp; omega) | (intro hgd; cases hgd) | (intro hgd; refine ⟨hgd, ?_⟩; first | omega | (refine ⟨by omega, by omega⟩) | (simp; omega))) ?_))
  generalize hlast : A[j] = q at *
  have hfq : fitsR q := hfa q (by rw [← hlast]; exact List.getElem_mem hjl)
  have hgl : (inR x.freq :: A).getLast? = some q := by
    rw [List.getLast?_cons, List.getLast?_eq_getElem?, show A.length - 1 = j by omega, List.getElem?_eq_getElem hjl, hlast]; rfl
  obtain ⟨g3, g4⟩ := g2 q hgl
  obtain ⟨hnum, hv⟩ := checkS_ok h1
  obtain ⟨k1, k2⟩ := withF_ok hnum hfq
  have hSb : runS (x.withF q) K = ((runR x K.toNat q).1, 0) := by
    rw [runS_of k1 (by omega) (by omega) (by rw [k2, runR_withF]; exact g3), k2, runR_withF]
  have hlb := runR_len x _ _ g3
  generalize hB : (runR x K.toNat q).1 = Bq at *
  refine AWpL.callA [] (s27 (x.withF q) K (txtR_len hfq)) rfl rfl (by rw [hn]; rfl) rfl (fun r hr => by cases hr) fun rg v hv => ?_
  obtain ⟨rfl, rfl⟩ := hv
  refine ⟨Nat.le_refl _, AWpL.ofM hn rfl ?_⟩
  rw [hSb]
  simp (config := { maxSteps := 2000000 }) only [go_sem, ↓reduceIte, Int.reduceToNat, Nat.reduceMul, Int.reduceBEq, Int.reduceBNe, Nat.reduceBEq, Nat.reduceAdd, Nat.reduceSub, Nat.reduceLeDiff, Nat.reduceEqDiff, Nat.reduceLT, reduceCtorEq, Aw.retS, Aw.retRg, Aw.kpM, Aw.bkM, Aw.pos, Aw.isBox]
  refine AWpL.calle s13 rfl (by rw [hn]; rfl) (by simp (config := { maxSteps := 2000000 }) only [go_sem, ↓reduceIte, Int.reduceToNat, Nat.reduceMul, Int.reduceBEq, Int.reduceBNe, Nat.reduceBEq, Nat.reduceAdd, Nat.reduceSub, Nat.reduceLeDiff, Nat.reduceEqDiff, Nat.reduceLT, reduceCtorEq]) (AWpL.upto 8 hn rfl ?_)
  simp (config := { maxSteps := 2000000 }) only [go_sem, ↓reduceIte, Int.reduceToNat, Nat.reduceMul, Int.reduceBEq, Int.reduceBNe, Nat.reduceBEq, Nat.reduceAdd, Nat.reduceSub, Nat.reduceLeDiff, Nat.reduceEqDiff, Nat.reduceLT, reduceCtorEq]
  refine AWpL.weak (weak_opt 74 (by rfl)) (AWpL.weak (weak_opt 75 (by rfl)) (AWpL.guardT (by rfl) (AWpL.ofM hn rfl ?_)))
  simp (config := { maxSteps := 2000000 }) only [go_sem, ↓reduceIte, Int.reduceToNat, Nat.reduceMul, Int.reduceBEq, Int.reduceBNe, Nat.reduceBEq, Nat.reduceAdd, Nat.reduceSub, Nat.reduceLeDiff, Nat.reduceEqDiff, Nat.reduceLT, reduceCtorEq]
  refine AWpL.weak (weak_freeze 1 rfl (pin 1) (by simp (config := { maxSteps := 2000000 }) only [go_sem, ↓reduceIte, Int.reduceToNat, Nat.reduceMul, Int.reduceBEq, Int.reduceBNe, Nat.reduceBEq, Nat.reduceAdd, Nat.reduceSub, Nat.reduceLeDiff, Nat.reduceEqDiff, Nat.reduceLT, reduceCtorEq, Nat.le_refl])) ?_
  have hmm : ∀ l : List Rat, l.map (fun r => bl (txtR r)) = (l.map txtR).map bl := fun l => by rw [List.map_map]; rfl
  have hfl : [A.map txtR, Bq.map txtR].flatten = All.map txtR := by rw [g4, List.map_append]; simp
  simp (config := { maxSteps := 2000000 }) only [go_sem, ↓reduceIte, Int.reduceToNat, Nat.reduceMul, Int.reduceBEq, Int.reduceBNe, Nat.reduceBEq, Nat.reduceAdd, Nat.reduceSub, Nat.reduceLeDiff, Nat.reduceEqDiff, Nat.reduceLT, reduceCtorEq, hmm]
  have hll : (All.map txtR).length ≤ 1000 := by rw [List.length_map]; omega
  refine AWpL.guardT (by rfl) ?_
  refine AWpL.callA [] (s29 none true [A.map txtR, Bq.map txtR] (by show 2 ≤ 1000000; decide) (by rw [hfl]; omega)) rfl rfl (by rw [hn]; rfl) rfl (fun r hr => by cases hr) fun rg v hv => ?_
  obtain ⟨rfl, rfl⟩ := hv
  refine ⟨Nat.le_refl _, AWpL.ofM hn rfl ?_⟩
  rw [hfl]
  simp (config := { maxSteps := 2000000 }) only [go_sem, ↓reduceIte, Int.reduceToNat, Nat.reduceMul, Int.reduceBEq, Int.reduceBNe, Nat.reduceBEq, Nat.reduceAdd, Nat.reduceSub, Nat.reduceLeDiff, Nat.reduceEqDiff, Nat.reduceLT, reduceCtorEq, Aw.retS, Aw.retRg, Aw.kpM, Aw.bkM, Aw.pos, Aw.isBox]
  refine AWpL.guardT (by rfl) (AWpL.weak (weak_opt 73 (by rfl)) ?_)
  refine AWpL.calle (s28 none false none false (All.map txtR) hll) rfl (by rw [hn]; rfl) (by simp (config := { maxSteps := 2000000 }) only [go_sem, ↓reduceIte, Int.reduceToNat, Nat.reduceMul, Int.reduceBEq, Int.reduceBNe, Nat.reduceBEq, Nat.reduceAdd, Nat.reduceSub, Nat.reduceLeDiff, Nat.reduceEqDiff, Nat.reduceLT, reduceCtorEq]) (AWpL.ofM hn rfl ?_)
  simp (config := { maxSteps := 2000000 }) only [go_sem, ↓reduceIte, Int.reduceToNat, Nat.reduceMul, Int.reduceBEq, Int.reduceBNe, Nat.reduceBEq, Nat.reduceAdd, Nat.reduceSub, Nat.reduceLeDiff, Nat.reduceEqDiff, Nat.reduceLT, reduceCtorEq]
  refine Retn.ret (π := []) hp hnp ⟨rfl, ?_⟩
  simp (config := { maxSteps := 2000000 }) only [go_sem, ↓reduceIte, Int.reduceToNat, Nat.reduceMul, Int.reduceBEq, Int.reduceBNe, Nat.reduceBEq, Nat.reduceAdd, Nat.reduceSub, Nat.reduceLeDiff, Nat.reduceEqDiff, Nat.reduceLT, reduceCtorEq]
end Go.Proofs.YtjaakbkneeojnaaDoor
