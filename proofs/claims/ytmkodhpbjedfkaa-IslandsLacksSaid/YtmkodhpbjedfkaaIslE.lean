/- Islands: the law of what islands lack. -/
import Derived.Test.YtmkodhpbjedfkaaAwZh
import Derived.Test.YtmkodhpbjedfkaaIslC
import Derived.Test.YtmkodhpbjedfkaaIslD
set_option linter.unusedVariables false
set_option linter.unusedSimpArgs false
namespace Go.Proofs.Ytmkodhpbjedfkaa
open Go.Proofs.Ytmkodhpbjedfkaa.Aw
attribute [local go_sem] Int.natCast_zero Int.natCast_one bne_self_eq_false beq_self_eq_true Bool.not_true Bool.not_false Option.isSome_none Option.isSome_some Aw.bkM_nil Option.getD_some Option.getD_none Nat.sub_zero Int.toNat_zero Aw.frzS Aw.frzT Aw.frzA Aw.frzL Aw.frzR Aw.frzO Aw.frzOL Aw.frzOT Aw.frzOR Aw.killS Aw.mapT Aw.mapR Aw.killM Aw.resAVs Aw.resAV Aw.quietOps Aw.wpP Aw.wpT Aw.wpS Aw.AOp.mild List.getElem?_cons_zero List.getElem?_cons_succ Bool.and_false Bool.and_self Bool.false_and Aw.opOb Aw.gdB Aw.Rnd Aw.subTm List.length_map Int.toNat_natCast and_self Aw.SeqC Aw.stops Aw.Ends Aw.looks Aw.renA Aw.renL Aw.renT Aw.renS Aw.wpO Aw.aop Aw.putTm Aw.St.ev Aw.St.put Aw.St.putO Aw.binAV Aw.intBin Aw.strBin Aw.pickAV Aw.optInt Aw.AV.strip Aw.AV.guard Aw.AV.cells Aw.gdOb Aw.AOp.opds Aw.AOp.still Aw.ptrCells Aw.St.reg Aw.fillAV Aw.fillOb Aw.elsOb Aw.splice Aw.firm Aw.cellish Aw.AV.shut Aw.shutAll Aw.Seq Aw.Blk Aw.retS_nil Aw.mapA Aw.mapL Aw.borA Aw.borOb Aw.allOb Aw.tupOf Aw.params Aw.Opd.of Array.toList Value.cells List.map_cons List.map_nil List.getD_cons_zero List.getD_cons_succ List.getD_nil List.length_cons List.length_nil List.take_succ_cons List.take_zero List.take_nil List.drop_zero List.drop_succ_cons List.drop_nil List.set_cons_zero List.set_cons_succ List.append_nil List.nil_append List.cons_append List.all_cons List.all_nil cond_false cond_true if_true if_false true_and and_true Bool.and_true Bool.true_and Option.map_some Option.map_none false_implies forall_const implies_true forall_eq imp_self Bool.cond_false_right Bool.cond_true_left beq_true beq_false Bool.not_eq_true' Bool.false_eq_true Nat.zero_add Nat.add_zero Aw.eqCells Aw.stopDraw Aw.skipS Aw.exactCap Aw.revealS Aw.srcEls Aw.srcSz
attribute [local go_sem ↓] Aw.look_nil Aw.look_ite Aw.wpL_nil Aw.wpL_op Aw.wpL_gd Aw.wpQ_nil Aw.wpQ_op Aw.wpQ_gd Aw.wpC_draw Aw.wpC_reg Aw.wpC_skip Aw.wpC_ret Aw.wpC_exit Aw.wpC_seq Aw.wpC_block Aw.wpC_loop Aw.wpC_cond Aw.stopAt_nil Aw.stopAt_cons Aw.wpD_skip Aw.wpD_ret Aw.wpD_exit Aw.wpD_region Aw.wpD_draw Aw.wpM_nil Aw.wpM_op Aw.wpM_gd Aw.wpD_seq Aw.wpD_block Aw.wpD_loop Aw.wpD_cond
/- gridhall/gridhallkeep4.IslandsLacks -/
def a4 : ACode :=
  (.seq (.region false [] [
     ⟨(some 1), none, (.box 29 (.t 0))⟩,
     ⟨(some 2), none, (.mov (.v (.bool false)))⟩])
  (.seq (.region false [] [
     ⟨(some 12), none, (.load 6 true (.t 1))⟩,
     ⟨(some 13), none, (.call 9 [(.t 12)])⟩,
     ⟨(some 11), none, (.mov (.t 13))⟩,
     ⟨(some 14), none, (.ext 0 (.t 11))⟩,
     ⟨(some 15), none, (.ext 1 (.t 11))⟩,
     ⟨(some 3), none, (.mov (.t 14))⟩,
     ⟨(some 4), none, (.mov (.t 15))⟩])
  (.seq (.region false [] [
     ⟨(some 17), none, (.load 6 true (.t 1))⟩,
     ⟨(some 18), none, (.call 6 [(.t 17)])⟩,
     ⟨(some 16), none, (.mov (.t 18))⟩,
     ⟨(some 19), none, (.ext 0 (.t 16))⟩,
     ⟨(some 20), none, (.ext 1 (.t 16))⟩,
     ⟨(some 5), none, (.mov (.t 19))⟩,
     ⟨(some 6), none, (.mov (.t 20))⟩])
  (.seq (.region false [] [
     ⟨(some 22), none, (.load 6 true (.t 1))⟩,
     ⟨(some 23), none, (.call 7 [(.t 22)])⟩,
     ⟨(some 21), none, (.mov (.t 23))⟩,
     ⟨(some 24), none, (.ext 0 (.t 21))⟩,
     ⟨(some 25), none, (.ext 1 (.t 21))⟩,
     ⟨(some 7), none, (.mov (.t 24))⟩,
     ⟨(some 8), none, (.mov (.t 25))⟩])
  (.seq (.seq (.region false [] [
     ⟨(some 26), none, (.mov (.t 4))⟩,
     ⟨(some 27), none, (.bin .neq 31 (.t 26) (.v (.int .i64 0)))⟩])
  (.cond (.t 27)
    (.seq (.region false [] [
       ⟨(some 28), none, (.call 8 [])⟩,
       ⟨(some 29), none, (.mov (.t 28))⟩,
       ⟨(some 30), (some (29, true)), (.mov (.t 3))⟩,
       ⟨(some 31), (some (29, true)), (.len (.t 30))⟩,
       ⟨(some 32), (some (29, true)), (.bin .eql 3 (.t 31) (.v (.int .i64 0)))⟩,
       ⟨(some 33), none, (.pick (.t 29) (.t 32) (.v (.bool false)))⟩,
       ⟨(some 34), none, (.mov (.t 33))⟩,
       ⟨(some 35), (some (34, true)), (.mov (.t 6))⟩,
       ⟨(some 36), (some (34, true)), (.mov (.t 4))⟩,
       ⟨(some 37), (some (34, true)), (.bin .eql 31 (.t 35) (.t 36))⟩,
       ⟨(some 38), none, (.pick (.t 34) (.t 37) (.v (.bool false)))⟩,
       ⟨(some 39), none, (.mov (.t 38))⟩,
       ⟨(some 40), (some (39, true)), (.mov (.t 8))⟩,
       ⟨(some 41), (some (39, true)), (.mov (.t 4))⟩,
       ⟨(some 42), (some (39, true)), (.bin .eql 31 (.t 40) (.t 41))⟩,
       ⟨(some 43), none, (.pick (.t 39) (.t 42) (.v (.bool false)))⟩,
       ⟨(some 2), none, (.mov (.t 43))⟩])
    .ret)
    .skip))
  (.seq (.seq (.region false [] [
     ⟨(some 44), none, (.mov (.t 8))⟩,
     ⟨(some 45), none, (.bin .neq 31 (.t 44) (.v (.int .i64 0)))⟩,
     ⟨(some 46), none, (.mov (.t 45))⟩,
     ⟨(some 47), (some (46, false)), (.mov (.t 7))⟩,
     ⟨(some 48), (some (46, false)), (.len (.t 47))⟩,
     ⟨(some 49), (some (46, false)), (.mov (.t 3))⟩,
     ⟨(some 50), (some (46, false)), (.len (.t 49))⟩,
     ⟨(some 51), (some (46, false)), (.bin .neq 3 (.t 48) (.t 50))⟩,
     ⟨(some 52), none, (.pick (.t 46) (.v (.bool true)) (.t 51))⟩])
  (.cond (.t 52)
    (.seq (.region false [] [
       ⟨(some 2), none, (.mov (.v (.bool false)))⟩])
    .ret)
    .skip))
  (.seq (.seq (.region false [] [
     ⟨(some 53), none, (.mov (.t 3))⟩,
     ⟨(some 54), none, (.len (.t 53))⟩,
     ⟨(some 55), none, (.mov (.v (.int .i64 0)))⟩])
  (.block 0 (.loop (.seq (.region false [] [
       ⟨(some 56), none, (.bin .lss 3 (.t 55) (.t 54))⟩])
    (.seq (.cond (.t 56)
      .skip
      (.exit 0))
    (.seq (.block 1 (.seq (.region false [] [
        ⟨(some 57), none, (.mov (.t 55))⟩,
        ⟨(some 58), none, (.idx 1 (.t 53) (.t 55))⟩,
        ⟨(some 59), none, (.load 1 false (.t 58))⟩,
        ⟨(some 9), none, (.mov (.t 57))⟩,
        ⟨(some 10), none, (.mov (.t 59))⟩])
     (.seq (.region true [[], [], [], [1, 2], [3], [4], [], [], [6, 7], [8], [9], [5, 10], [11], [0, 12], [13], [14], [15, 14], [16, 14, 14], [17], [18, 17], [17, 19, 14], [14, 20]] [
        ⟨(some 60), none, (.mov (.t 10))⟩,
        ⟨(some 61), none, (.mov (.t 7))⟩,
        ⟨(some 62), none, (.mov (.t 9))⟩,
        ⟨(some 63), none, (.idx 3 (.t 61) (.t 62))⟩,
        ⟨(some 64), none, (.fld 2 (.t 63))⟩,
        ⟨(some 65), none, (.load 1 false (.t 64))⟩,
        ⟨(some 66), none, (.mov (.t 7))⟩,
        ⟨(some 67), none, (.mov (.t 9))⟩,
        ⟨(some 68), none, (.idx 3 (.t 66) (.t 67))⟩,
        ⟨(some 69), none, (.fld 1 (.t 68))⟩,
        ⟨(some 70), none, (.load 1 false (.t 69))⟩,
        ⟨(some 71), none, (.bin .sub 3 (.t 65) (.t 70))⟩,
        ⟨(some 72), none, (.mxi (.v (.int .i64 0)) (.t 71))⟩,
        ⟨(some 73), none, (.bin .neq 3 (.t 60) (.t 72))⟩,
        ⟨(some 74), none, (.mov (.t 73))⟩,
        ⟨(some 75), (some (74, false)), (.mov (.t 10))⟩,
        ⟨(some 76), (some (74, false)), (.bin .gtr 3 (.t 75) (.v (.int .i64 0)))⟩,
        ⟨(some 77), (some (74, false)), (.mov (.t 76))⟩,
        ⟨(some 78), (some (77, true)), (.mov (.t 6))⟩,
        ⟨(some 79), (some (77, true)), (.bin .neq 31 (.t 78) (.v (.int .i64 14)))⟩,
        ⟨(some 80), (some (74, false)), (.pick (.t 77) (.t 79) (.v (.bool false)))⟩,
        ⟨(some 81), none, (.pick (.t 74) (.v (.bool true)) (.t 80))⟩])
     (.cond (.t 81)
       (.seq (.region false [] [
          ⟨(some 2), none, (.mov (.v (.bool false)))⟩])
       .ret)
       .skip))))
    (.region false [] [
       ⟨(some 82), none, (.bin .add 3 (.t 55) (.v (.int .i64 1)))⟩,
       ⟨(some 55), none, (.mov (.t 82))⟩])))))))
  (.seq (.region false [] [
     ⟨(some 83), none, (.call 8 [])⟩,
     ⟨(some 2), none, (.mov (.t 83))⟩])
  .ret))))))))
theorem k4 : FnIs Try.prog 4 84 [.t 2] a4 := ⟨_, _, Try.func4, rfl, by kernel_rfl, by kernel_rfl, rfl⟩

set_option maxRecDepth 20000 in
set_option maxHeartbeats 1000000 in
theorem s4 (n : Net) (hk : NetOk n) : Aw.Spec Try.prog 4 [] [neta n] (Gives (· = B true)) := by
  refine Aw.Spec.givesW k4 rfl rfl fun E hn hnp hp => ?_
  unfold a4
  have pin : ∀ r, E.pin r = none := fun r => hp.none hnp (Nat.zero_le _)
  refine AWp.ofD [] [] hn mixed rfl ?_
  simp (config := { maxSteps := 2000000 }) only [go_sem, ↓reduceIte, Int.reduceToNat, Nat.reduceMul, Int.reduceBEq, Int.reduceBNe, Nat.reduceBEq, Nat.reduceAdd, Nat.reduceSub, Nat.reduceLeDiff, Nat.reduceEqDiff, Nat.reduceLT, reduceCtorEq]
  refine AWpL.callA [] (s9 n hk) rfl rfl (by rw [hn]; rfl) rfl (fun r hr => by cases hr) fun rg v hv' => ?_
  obtain ⟨rfl, rfl⟩ := hv'
  refine ⟨Nat.zero_le _, ?_⟩
  rw [retS_nil]
  refine AWpL.ofM hn rfl ?_
  simp (config := { maxSteps := 2000000 }) only [go_sem, ↓reduceIte, Int.reduceToNat, Nat.reduceMul, Int.reduceBEq, Int.reduceBNe, Nat.reduceBEq, Nat.reduceAdd, Nat.reduceSub, Nat.reduceLeDiff, Nat.reduceEqDiff, Nat.reduceLT, reduceCtorEq]
  refine AWpL.callA [] (s6 n hk) rfl rfl (by rw [hn]; rfl) rfl (fun r hr => by cases hr) fun rg v hv' => ?_
  obtain ⟨rfl, rfl⟩ := hv'
  refine ⟨Nat.zero_le _, ?_⟩
  rw [retS_nil]
  refine AWpL.ofM hn rfl ?_
  simp (config := { maxSteps := 2000000 }) only [go_sem, ↓reduceIte, Int.reduceToNat, Nat.reduceMul, Int.reduceBEq, Int.reduceBNe, Nat.reduceBEq, Nat.reduceAdd, Nat.reduceSub, Nat.reduceLeDiff, Nat.reduceEqDiff, Nat.reduceLT, reduceCtorEq]
  refine AWpL.callA [] (s7 n hk) rfl rfl (by rw [hn]; rfl) rfl (fun r hr => by cases hr) fun rg v hv' => ?_
  refine ⟨Nat.zero_le _, ?_⟩
  by_cases h0 : netF n = 0
  · obtain ⟨rfl, rfl⟩ := hv'.2 h0
    have hv := netF_zero.1 h0
    have hml := many_le hv
    obtain ⟨hsl, hsb⟩ := sumsF_ok hv
    have hLL : lackL n = (sumsF n).map lackS := if_pos h0
    have hlack := fun k hk => lack_share (n := n) hv (k := k) hk
    clear hv'
    generalize hM : (manyF n).toNat = M at *
    rw [retS_new]
    refine AWpL.weak (weak_freeze 1 rfl (pin 1) ?_) (AWpL.ofM hn rfl ?_)
    · simp (config := { maxSteps := 2000000 }) only [go_sem, ↓reduceIte, Int.reduceToNat, Nat.reduceMul, Int.reduceBEq, Int.reduceBNe, Nat.reduceBEq, Nat.reduceAdd, Nat.reduceSub, Nat.reduceLeDiff, Nat.reduceEqDiff, Nat.reduceLT, reduceCtorEq, Nat.le_refl, List.length_map, hsl]
    have htk : ((sumsF n).map smc).take M = (sumsF n).map smc := List.take_of_length_le (by rw [List.length_map, hsl]; exact Nat.le_refl _)
    have e9 : ((M : Int) != (M : Int)) = false := by simp
    simp (config := { maxSteps := 2000000 }) only [go_sem, ↓reduceIte, Int.reduceToNat, Nat.reduceMul, Int.reduceBEq, Int.reduceBNe, Nat.reduceBEq, Nat.reduceAdd, Nat.reduceSub, Nat.reduceLeDiff, Nat.reduceEqDiff, Nat.reduceLT, reduceCtorEq, htk, h0, hsl, hLL, e9]
    refine AWp.loop (fun k s => ∃ i : Nat, i + k = M ∧ Weak E s ⟨[(6, I (shareE n)), (7, .imm none true 3 ((sumsF n).map smc)), (53, .imm none false 1 (((sumsF n).map lackS).map ic)), (54, I M), (55, I i)], []⟩) (n := M)
      ⟨0, by omega, weak_to [] hp hnp rfl (by simp (config := { maxSteps := 2000000 }) only [go_sem, ↓reduceIte, Int.reduceToNat, Nat.reduceMul, Int.reduceBEq, Int.reduceBNe, Nat.reduceBEq, Nat.reduceAdd, Nat.reduceSub, Nat.reduceLeDiff, Nat.reduceEqDiff, Nat.reduceLT, reduceCtorEq, Int.natCast_zero]) rfl⟩ ?_
    rintro k s ⟨i, hik, hw⟩
    refine AWp.weak hw (AWp.ofD [] [] hn mixed rfl ?_)
    rcases Nat.lt_or_ge i M with hlt | hge
    · have e0 : decide ((i : Int) < (M : Int)) = true := decide_eq_true (by omega)
      have e2 : IntKind.i64.wrap ((i : Int) + 1) = ((i + 1 : Nat) : Int) := by rw [w64 (by omega) (by omega)]; omega
      have e1 := getD_mapD default smc (l := sumsF n) (i := i) (by omega)
      have e3 : (((sumsF n).map lackS).map ic).getD i [] = ic (lackS ((sumsF n).getD i default)) := by
        rw [getD_mapD 0 ic (by rw [List.length_map]; omega), List.getD_eq_getElem?_getD, List.getElem?_map, List.getElem?_eq_getElem (by omega), List.getD_eq_getElem?_getD, List.getElem?_eq_getElem (by omega)]; rfl
      have hb := hsb i hlt
      have hl := hlack i hlt
      generalize (sumsF n).getD i default = x at *
      unfold SmB at hb
      have e4 : IntKind.i64.wrap (x.demand - x.most) = x.demand - x.most := w64 (by omega) (by omega)
      have e5 : (lackS x != max 0 (x.demand - x.most)) = false := by simp [lackS]
      simp (config := { maxSteps := 2000000 }) only [go_sem, ↓reduceIte, Int.reduceToNat, Nat.reduceMul, Int.reduceBEq, Int.reduceBNe, Nat.reduceBEq, Nat.reduceAdd, Nat.reduceSub, Nat.reduceLeDiff, Nat.reduceEqDiff, Nat.reduceLT, reduceCtorEq, e0, e1, e2, e3, e4, e5]
      refine ⟨⟨by omega, by omega⟩, ⟨by omega, by omega⟩, ⟨by omega, by omega⟩, fun h => ?_, fun _ => ?_⟩
      · rw [Bool.and_eq_true, decide_eq_true_eq, bne_iff_ne] at h
        exact absurd (hl h.1) h.2
      · exact ⟨k - 1, by omega, i + 1, by omega, weak_to [] hp hnp rfl (by simp (config := { maxSteps := 2000000 }) only [go_sem, ↓reduceIte, Int.reduceToNat, Nat.reduceMul, Int.reduceBEq, Int.reduceBNe, Nat.reduceBEq, Nat.reduceAdd, Nat.reduceSub, Nat.reduceLeDiff, Nat.reduceEqDiff, Nat.reduceLT, reduceCtorEq]) rfl⟩
    · have e0 : decide ((i : Int) < (M : Int)) = false := decide_eq_false (by omega)
      simp (config := { maxSteps := 2000000 }) only [go_sem, ↓reduceIte, Int.reduceToNat, Nat.reduceMul, Int.reduceBEq, Int.reduceBNe, Nat.reduceBEq, Nat.reduceAdd, Nat.reduceSub, Nat.reduceLeDiff, Nat.reduceEqDiff, Nat.reduceLT, reduceCtorEq, e0]
      (refine AWpL.calle (s8) rfl (by rw [hn]; rfl) (by simp (config := { maxSteps := 2000000 }) only [go_sem, ↓reduceIte, Int.reduceToNat, Nat.reduceMul, Int.reduceBEq, Int.reduceBNe, Nat.reduceBEq, Nat.reduceAdd, Nat.reduceSub, Nat.reduceLeDiff, Nat.reduceEqDiff, Nat.reduceLT, reduceCtorEq]) (AWpL.ofM hn rfl ?_); simp (config := { maxSteps := 2000000 }) only [go_sem, ↓reduceIte, Int.reduceToNat, Nat.reduceMul, Int.reduceBEq, Int.reduceBNe, Nat.reduceBEq, Nat.reduceAdd, Nat.reduceSub, Nat.reduceLeDiff, Nat.reduceEqDiff, Nat.reduceLT, reduceCtorEq])
  · obtain ⟨rfl, rfl⟩ := hv'.1 h0
    have h1 : (netF n != 0) = true := by simpa using h0
    have h2 : shareE n = netF n := if_pos h0
    have h3 : lackL n = [] := if_neg h0
    have e9 : (netF n == netF n) = true := by simp
    rw [retS_nil]
    refine AWpL.ofM hn rfl ?_
    simp (config := { maxSteps := 2000000 }) only [go_sem, ↓reduceIte, Int.reduceToNat, Nat.reduceMul, Int.reduceBEq, Int.reduceBNe, Nat.reduceBEq, Nat.reduceAdd, Nat.reduceSub, Nat.reduceLeDiff, Nat.reduceEqDiff, Nat.reduceLT, reduceCtorEq, h1, h2, h3]
    (refine AWpL.calle (s8) rfl (by rw [hn]; rfl) (by simp (config := { maxSteps := 2000000 }) only [go_sem, ↓reduceIte, Int.reduceToNat, Nat.reduceMul, Int.reduceBEq, Int.reduceBNe, Nat.reduceBEq, Nat.reduceAdd, Nat.reduceSub, Nat.reduceLeDiff, Nat.reduceEqDiff, Nat.reduceLT, reduceCtorEq]) (AWpL.ofM hn rfl ?_); simp (config := { maxSteps := 2000000 }) only [go_sem, ↓reduceIte, Int.reduceToNat, Nat.reduceMul, Int.reduceBEq, Int.reduceBNe, Nat.reduceBEq, Nat.reduceAdd, Nat.reduceSub, Nat.reduceLeDiff, Nat.reduceEqDiff, Nat.reduceLT, reduceCtorEq])
end Go.Proofs.Ytmkodhpbjedfkaa
