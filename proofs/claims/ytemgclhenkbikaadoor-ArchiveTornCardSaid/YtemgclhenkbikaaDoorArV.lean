/- Archives: the law of the torn text. -/
import Derived.Test.YtemgclhenkbikaaDoorAwZl
import Derived.Test.YtemgclhenkbikaaDoorArU
import Derived.Test.YtemgclhenkbikaaDoorArS
import Derived.Test.YtemgclhenkbikaaDoorPlnA
set_option linter.unusedVariables false
set_option linter.unusedSimpArgs false
namespace Go.Proofs.YtemgclhenkbikaaDoor
open Go.Proofs.YtemgclhenkbikaaDoor.Aw
attribute [local go_sem] Int.natCast_zero Int.natCast_one bne_self_eq_false beq_self_eq_true Bool.not_true Bool.not_false Option.isSome_none Option.isSome_some Aw.bkM_nil Option.getD_some Option.getD_none Nat.sub_zero Int.toNat_zero Aw.frzS Aw.frzT Aw.frzA Aw.frzL Aw.frzR Aw.frzO Aw.frzOL Aw.frzOT Aw.frzOR Aw.killS Aw.mapT Aw.mapR Aw.killM Aw.resAVs Aw.resAV Aw.quietOps Aw.wpP Aw.wpT Aw.wpS Aw.AOp.mild List.getElem?_cons_zero List.getElem?_cons_succ Bool.and_false Bool.and_self Bool.false_and Aw.opOb Aw.gdB Aw.Rnd Aw.subTm List.length_map Int.toNat_natCast and_self Aw.SeqC Aw.stops Aw.Ends Aw.looks Aw.renA Aw.renL Aw.renT Aw.renS Aw.wpO Aw.aop Aw.putTm Aw.St.ev Aw.St.put Aw.St.putO Aw.binAV Aw.intBin Aw.strBin Aw.pickAV Aw.optInt Aw.AV.strip Aw.AV.guard Aw.AV.cells Aw.gdOb Aw.AOp.opds Aw.AOp.still Aw.ptrCells Aw.St.reg Aw.fillAV Aw.fillOb Aw.elsOb Aw.splice Aw.firm Aw.cellish Aw.AV.shut Aw.shutAll Aw.Seq Aw.Blk Aw.retS_nil Aw.mapA Aw.mapL Aw.borA Aw.borOb Aw.allOb Aw.tupOf Aw.params Aw.Opd.of Array.toList Value.cells List.map_cons List.map_nil List.getD_cons_zero List.getD_cons_succ List.getD_nil List.length_cons List.length_nil List.take_succ_cons List.take_zero List.take_nil List.drop_zero List.drop_succ_cons List.drop_nil List.set_cons_zero List.set_cons_succ List.append_nil List.nil_append List.cons_append List.all_cons List.all_nil cond_false cond_true if_true if_false true_and and_true Bool.and_true Bool.true_and Option.map_some Option.map_none false_implies forall_const implies_true forall_eq imp_self Bool.cond_false_right Bool.cond_true_left beq_true beq_false Bool.not_eq_true' Bool.false_eq_true Nat.zero_add Nat.add_zero Aw.eqCells Aw.stopDraw Aw.skipS Aw.exactCap Aw.revealS Aw.srcEls Aw.srcSz
attribute [local go_sem ↓] Aw.look_nil Aw.look_ite Aw.wpL_nil Aw.wpL_op Aw.wpL_gd Aw.wpQ_nil Aw.wpQ_op Aw.wpQ_gd Aw.wpC_draw Aw.wpC_reg Aw.wpC_skip Aw.wpC_ret Aw.wpC_exit Aw.wpC_seq Aw.wpC_block Aw.wpC_loop Aw.wpC_cond Aw.stopAt_nil Aw.stopAt_cons Aw.wpD_skip Aw.wpD_ret Aw.wpD_exit Aw.wpD_region Aw.wpD_draw Aw.wpM_nil Aw.wpM_op Aw.wpM_gd Aw.wpD_seq Aw.wpD_block Aw.wpD_loop Aw.wpD_cond
/- gridhall/gridhallkeep4.ArchiveTorn -/
def a6 : ACode :=
  (.seq (.region false [] [
     ⟨(some 4), none, (.mov (.v (.bool false)))⟩])
  (.seq (.region false [] [
     ⟨(some 11), none, (.mov (.t 0))⟩,
     ⟨(some 12), none, (.call 7 [(.t 11)])⟩,
     ⟨(some 5), none, (.mov (.t 12))⟩])
  (.seq (.seq (.region false [] [
     ⟨(some 13), none, (.mov (.t 5))⟩,
     ⟨(some 14), none, (.nilP false (.t 13))⟩,
     ⟨(some 15), none, (.mov (.t 14))⟩,
     ⟨(some 16), (some (15, false)), (.call 8 [])⟩,
     ⟨(some 17), (some (15, false)), (.un .not (.t 16))⟩,
     ⟨(some 18), none, (.pick (.t 15) (.v (.bool true)) (.t 17))⟩])
  (.cond (.t 18)
    (.seq (.region false [] [
       ⟨(some 4), none, (.mov (.v (.bool false)))⟩])
    .ret)
    .skip))
  (.seq (.region false [] [
     ⟨(some 19), none, (.mov (.t 5))⟩,
     ⟨(some 20), none, (.call 17 [(.t 19)])⟩,
     ⟨(some 6), none, (.mov (.t 20))⟩])
  (.seq (.region false [] [
     ⟨(some 21), none, (.mov (.t 1))⟩,
     ⟨(some 22), none, (.mov (.t 6))⟩,
     ⟨(some 23), none, (.lens (.t 22))⟩,
     ⟨(some 24), none, (.call 9 [(.t 21), (.v (.int .i64 0)), (.t 23)])⟩,
     ⟨(some 1), none, (.mov (.t 24))⟩])
  (.seq (.region false [] [
     ⟨(some 26), none, (.mov (.t 6))⟩,
     ⟨(some 27), none, (.mov (.t 1))⟩,
     ⟨(some 28), none, (.slcs (.t 26) none (some (.t 27)))⟩,
     ⟨(some 29), none, (.call 16 [(.t 28)])⟩,
     ⟨(some 25), none, (.mov (.t 29))⟩,
     ⟨(some 30), none, (.ext 0 (.t 25))⟩,
     ⟨(some 31), none, (.ext 1 (.t 25))⟩,
     ⟨(some 32), none, (.ext 2 (.t 25))⟩,
     ⟨(some 7), none, (.mov (.t 30))⟩,
     ⟨(some 8), none, (.mov (.t 31))⟩,
     ⟨(some 9), none, (.mov (.t 32))⟩])
  (.seq (.seq (.region false [] [
     ⟨(some 33), none, (.mov (.t 9))⟩,
     ⟨(some 34), none, (.bin .neq 36 (.t 33) (.v (.int .i64 0)))⟩,
     ⟨(some 35), none, (.mov (.t 34))⟩,
     ⟨(some 36), (some (35, false)), (.mov (.t 7))⟩,
     ⟨(some 37), (some (35, false)), (.nilP false (.t 36))⟩,
     ⟨(some 38), none, (.pick (.t 35) (.v (.bool true)) (.t 37))⟩,
     ⟨(some 39), none, (.mov (.t 38))⟩,
     ⟨(some 40), (some (39, false)), (.mov (.t 8))⟩,
     ⟨(some 41), (some (39, false)), (.mov (.t 1))⟩,
     ⟨(some 42), (some (39, false)), (.bin .gtr 3 (.t 40) (.t 41))⟩,
     ⟨(some 43), none, (.pick (.t 39) (.v (.bool true)) (.t 42))⟩])
  (.cond (.t 43)
    (.seq (.region false [] [
       ⟨(some 4), none, (.mov (.v (.bool false)))⟩])
    .ret)
    .skip))
  (.seq (.region false [] [
     ⟨(some 44), none, (.mov (.t 6))⟩,
     ⟨(some 45), none, (.mov (.t 1))⟩,
     ⟨(some 46), none, (.slcs (.t 44) none (some (.t 45)))⟩,
     ⟨(some 47), none, (.call 20 [(.t 46), (.v (.string ⟨#[10]⟩))])⟩,
     ⟨(some 10), none, (.mov (.t 47))⟩])
  (.seq (.region true [[], [0], [], [2, 1], [], [3, 4], [1, 5, 3], [6, 6], [7], [8, 7, 7], [7], [7], [10, 11, 7], [9, 12, 7], [7, 13], [14, 9], [15], [15], [15], [17, 18, 15], [19, 15, 15], [20, 15], [16, 21, 15], [15, 22], [23, 20], [24], [24], [26, 24, 24], [27, 24], [25, 28, 24], [29, 27, 24], [30], [31, 30, 30], [30], [33, 32, 30], [32, 34, 30], [30, 35, 24], [24, 36], [37, 34, 0, 1, 2, 3, 4, 5, 6, 7, 8, 9, 10, 11, 12, 13, 14, 15, 16, 17, 18, 19, 20, 21, 22, 23, 24, 25, 26, 27, 28, 29, 30, 31, 32, 33, 34, 35, 36, 37]] [
     ⟨(some 48), none, (.mov (.t 7))⟩,
     ⟨(some 49), none, (.call 13 [(.t 48)])⟩,
     ⟨(some 50), none, (.mov (.t 5))⟩,
     ⟨(some 51), none, (.call 13 [(.t 50)])⟩,
     ⟨(some 52), none, (.mov (.t 10))⟩,
     ⟨(some 53), none, (.slc 4 (.t 51) none (some (.t 52)) none)⟩,
     ⟨(some 54), none, (.call 11 [(.t 49), (.t 53)])⟩,
     ⟨(some 55), none, (.mov (.t 54))⟩,
     ⟨(some 56), (some (55, true)), (.mov (.t 7))⟩,
     ⟨(some 57), (some (55, true)), (.call 17 [(.t 56)])⟩,
     ⟨(some 58), (some (55, true)), (.mov (.t 6))⟩,
     ⟨(some 59), (some (55, true)), (.mov (.t 8))⟩,
     ⟨(some 60), (some (55, true)), (.slcs (.t 58) none (some (.t 59)))⟩,
     ⟨(some 61), (some (55, true)), (.bin .eql 9 (.t 57) (.t 60))⟩,
     ⟨(some 62), none, (.pick (.t 55) (.t 61) (.v (.bool false)))⟩,
     ⟨(some 63), none, (.mov (.t 62))⟩,
     ⟨(some 64), (some (63, true)), (.mov (.t 8))⟩,
     ⟨(some 65), (some (63, true)), (.mov (.t 6))⟩,
     ⟨(some 66), (some (63, true)), (.mov (.t 1))⟩,
     ⟨(some 67), (some (63, true)), (.slcs (.t 65) none (some (.t 66)))⟩,
     ⟨(some 68), (some (63, true)), (.call 21 [(.t 67), (.v (.string ⟨#[10]⟩))])⟩,
     ⟨(some 69), (some (63, true)), (.bin .add 3 (.t 68) (.v (.int .i64 1)))⟩,
     ⟨(some 70), (some (63, true)), (.bin .eql 3 (.t 64) (.t 69))⟩,
     ⟨(some 71), none, (.pick (.t 63) (.t 70) (.v (.bool false)))⟩,
     ⟨(some 72), none, (.mov (.t 71))⟩,
     ⟨(some 73), (some (72, true)), (.mov (.t 10))⟩,
     ⟨(some 74), (some (72, true)), (.mov (.t 5))⟩,
     ⟨(some 75), (some (72, true)), (.call 13 [(.t 74)])⟩,
     ⟨(some 76), (some (72, true)), (.len (.t 75))⟩,
     ⟨(some 77), (some (72, true)), (.bin .lss 3 (.t 73) (.t 76))⟩,
     ⟨(some 78), (some (72, true)), (.mov (.t 77))⟩,
     ⟨(some 79), (some (78, false)), (.mov (.t 7))⟩,
     ⟨(some 80), (some (78, false)), (.call 19 [(.t 79)])⟩,
     ⟨(some 81), (some (78, false)), (.mov (.t 5))⟩,
     ⟨(some 82), (some (78, false)), (.call 19 [(.t 81)])⟩,
     ⟨(some 83), (some (78, false)), (.bin .eql 42 (.t 80) (.t 82))⟩,
     ⟨(some 84), (some (72, true)), (.pick (.t 78) (.v (.bool true)) (.t 83))⟩,
     ⟨(some 85), none, (.pick (.t 72) (.t 84) (.v (.bool false)))⟩,
     ⟨(some 4), none, (.mov (.t 85))⟩])
  .ret)))))))))
theorem k6 : FnIs Tryd.prog 6 86 [.t 4] a6 := ⟨_, _, Tryd.func6, rfl, by kernel_rfl, by kernel_rfl, rfl⟩

set_option maxRecDepth 20000 in
set_option maxHeartbeats 1000000 in
theorem s6 {Γ : List (Nat × Array Value)} {e1 e2 : Value} (hP : powT ∈ Γ) (hD : debT ∈ Γ) (hE : Errs Γ e1 e2) (nl' fl) (l : List Ev) (n : Int) (hs : ∀ e ∈ l, EvW e) (hl : l.length ≤ 9223372036854775807) :
    Aw.SpecG Γ Tryd.prog 6 [] [.imm nl' fl 4 (l.map ec), I n] (Gives (· = B true)) := by
  refine SpecG.shut (Post := fun rg v => v = B true) ?_ fun rg v h => by subst h; exact ⟨rfl, rfl, rfl⟩
  refine Aw.SpecG.regsW k6 rfl rfl fun E hn hnp hp hT => ?_
  unfold a6
  have pin : ∀ r, E.pin r = none := fun r => hp.none hnp (Nat.zero_le _)
  refine AWp.ofD [999] [] hn mixed rfl ?_
  simp (config := { maxSteps := 2000000 }) only [go_sem, ↓reduceIte, Int.reduceToNat, Nat.reduceMul, Int.reduceBEq, Int.reduceBNe, Nat.reduceBEq, Nat.reduceAdd, Nat.reduceSub, Nat.reduceLeDiff, Nat.reduceEqDiff, Nat.reduceLT, reduceCtorEq]
  refine AWpL.callAT [] (SpecG.at (s7 hP hD nl' fl l hs hl) hT) rfl rfl (by rw [hn]; rfl) rfl (fun r hr => .inr (pin r)) fun rg v hv => ?_
  obtain ⟨rfl, rfl⟩ := hv
  refine ⟨Nat.zero_le _, ?_⟩
  have hok := ofN_ok l
  have htx := ofN_txt l
  have hgd := ofN_good (l.take 12) _ (Nat.le_refl _)
  generalize (ofN (List.take 12 l) (List.take 12 l).length).fst = A at *
  rw [retS_new]
  refine AWpL.ofM hn rfl ?_
  simp (config := { maxSteps := 2000000 }) only [go_sem, ↓reduceIte, Int.reduceToNat, Nat.reduceMul, Int.reduceBEq, Int.reduceBNe, Nat.reduceBEq, Nat.reduceAdd, Nat.reduceSub, Nat.reduceLeDiff, Nat.reduceEqDiff, Nat.reduceLT, reduceCtorEq, Aw.pos, arR]
  refine AWpL.gcalleT (y := B true) rfl (fun _ => SpecG.at (s8 hP hD) hT) rfl (by rw [hn]; rfl) (fun _ => by simp (config := { maxSteps := 2000000 }) only [go_sem, ↓reduceIte, Int.reduceToNat, Nat.reduceMul, Int.reduceBEq, Int.reduceBNe, Nat.reduceBEq, Nat.reduceAdd, Nat.reduceSub, Nat.reduceLeDiff, Nat.reduceEqDiff, Nat.reduceLT, reduceCtorEq]) (AWpL.ofM hn rfl ?_)
  simp (config := { maxSteps := 2000000 }) only [go_sem, ↓reduceIte, Int.reduceToNat, Nat.reduceMul, Int.reduceBEq, Int.reduceBNe, Nat.reduceBEq, Nat.reduceAdd, Nat.reduceSub, Nat.reduceLeDiff, Nat.reduceEqDiff, Nat.reduceLT, reduceCtorEq]
  have htk : (A.list.map ec).take A.list.length = A.list.map ec := List.take_of_length_le (by rw [List.length_map]; exact Nat.le_refl _)
  refine AWpL.calle (y := S A.text) (by simp (config := { maxSteps := 2000000 }) only [go_sem, ↓reduceIte, Int.reduceToNat, Nat.reduceMul, Int.reduceBEq, Int.reduceBNe, Nat.reduceBEq, Nat.reduceAdd, Nat.reduceSub, Nat.reduceLeDiff, Nat.reduceEqDiff, Nat.reduceLT, reduceCtorEq, htk]; exact s17 A) rfl (by rw [hn]; rfl) (by simp (config := { maxSteps := 2000000 }) only [go_sem, ↓reduceIte, Int.reduceToNat, Nat.reduceMul, Int.reduceBEq, Int.reduceBNe, Nat.reduceBEq, Nat.reduceAdd, Nat.reduceSub, Nat.reduceLeDiff, Nat.reduceEqDiff, Nat.reduceLT, reduceCtorEq, List.length_map, Nat.le_refl]) (AWpL.ofM hn rfl ?_)
  simp (config := { maxSteps := 2000000 }) only [go_sem, ↓reduceIte, Int.reduceToNat, Nat.reduceMul, Int.reduceBEq, Int.reduceBNe, Nat.reduceBEq, Nat.reduceAdd, Nat.reduceSub, Nat.reduceLeDiff, Nat.reduceEqDiff, Nat.reduceLT, reduceCtorEq]
  (refine AWpL.calle (s9 n 0 A.text.size (by omega) (by omega) (by omega)) rfl (by rw [hn]; rfl) (by simp (config := { maxSteps := 2000000 }) only [go_sem, ↓reduceIte, Int.reduceToNat, Nat.reduceMul, Int.reduceBEq, Int.reduceBNe, Nat.reduceBEq, Nat.reduceAdd, Nat.reduceSub, Nat.reduceLeDiff, Nat.reduceEqDiff, Nat.reduceLT, reduceCtorEq]) (AWpL.ofM hn rfl ?_); simp (config := { maxSteps := 2000000 }) only [go_sem, ↓reduceIte, Int.reduceToNat, Nat.reduceMul, Int.reduceBEq, Int.reduceBNe, Nat.reduceBEq, Nat.reduceAdd, Nat.reduceSub, Nat.reduceLeDiff, Nat.reduceEqDiff, Nat.reduceLT, reduceCtorEq])
  have hcr := cut_range n 0 A.text.size (by omega)
  obtain ⟨N, hN⟩ : ∃ N : Nat, cut n 0 A.text.size = N := ⟨(cut n 0 A.text.size).toNat, by omega⟩
  rw [hN] at hcr ⊢
  have hNs : N ≤ A.text.size := by omega
  simp (config := { maxSteps := 2000000 }) only [go_sem, ↓reduceIte, Int.reduceToNat, Nat.reduceMul, Int.reduceBEq, Int.reduceBNe, Nat.reduceBEq, Nat.reduceAdd, Nat.reduceSub, Nat.reduceLeDiff, Nat.reduceEqDiff, Nat.reduceLT, reduceCtorEq]
  refine ⟨⟨by omega, by omega, by omega⟩, ?_⟩
  have hxs : (A.text.extract 0 N).size = N := by rw [ByteArray.size_extract]; omega
  refine AWpL.callAT [] (SpecG.at (s16 hP hD hE (A.text.extract 0 N) (by omega)) hT) rfl rfl (by rw [hn]; rfl) rfl (fun r hr => .inr (pin r)) fun rg v hv => ?_
  obtain ⟨b, rest, hrec, rfl, rfl⟩ := hv
  obtain ⟨t1, t2, t3, t4, t5, t6, t7⟩ := torn hgd hNs hrec
  refine ⟨Nat.zero_le _, ?_⟩
  rw [retS_new]
  refine AWpL.ofM hn rfl ?_
  have g1 : decide ((b.text.size : Int) > (N : Int)) = false := decide_eq_false (by omega)
  simp (config := { maxSteps := 2000000 }) only [go_sem, ↓reduceIte, Int.reduceToNat, Nat.reduceMul, Int.reduceBEq, Int.reduceBNe, Nat.reduceBEq, Nat.reduceAdd, Nat.reduceSub, Nat.reduceLeDiff, Nat.reduceEqDiff, Nat.reduceLT, reduceCtorEq, Aw.pos, arR, g1]
  refine ⟨⟨by omega, by omega, by omega⟩, ?_⟩
  refine AWpL.calle (s20 (A.text.extract 0 N) 10) rfl (by rw [hn]; rfl) (by simp (config := { maxSteps := 2000000 }) only [go_sem, ↓reduceIte, Int.reduceToNat, Nat.reduceMul, Int.reduceBEq, Int.reduceBNe, Nat.reduceBEq, Nat.reduceAdd, Nat.reduceSub, Nat.reduceLeDiff, Nat.reduceEqDiff, Nat.reduceLT, reduceCtorEq]) (AWpL.ofM hn rfl ?_)
  rw [t2]
  simp (config := { maxSteps := 2000000 }) only [go_sem, ↓reduceIte, Int.reduceToNat, Nat.reduceMul, Int.reduceBEq, Int.reduceBNe, Nat.reduceBEq, Nat.reduceAdd, Nat.reduceSub, Nat.reduceLeDiff, Nat.reduceEqDiff, Nat.reduceLT, reduceCtorEq]
  have htk2 : (b.list.map ec).take b.list.length = b.list.map ec := List.take_of_length_le (by rw [List.length_map]; exact Nat.le_refl _)
  refine AWp.weak (weak_freeze 1 rfl (pin 1) (by simp (config := { maxSteps := 2000000 }) only [go_sem, ↓reduceIte, Int.reduceToNat, Nat.reduceMul, Int.reduceBEq, Int.reduceBNe, Nat.reduceBEq, Nat.reduceAdd, Nat.reduceSub, Nat.reduceLeDiff, Nat.reduceEqDiff, Nat.reduceLT, reduceCtorEq, Nat.le_refl, List.length_map])) ?_
  simp (config := { maxSteps := 2000000 }) only [go_sem, ↓reduceIte, Int.reduceToNat, Nat.reduceMul, Int.reduceBEq, Int.reduceBNe, Nat.reduceBEq, Nat.reduceAdd, Nat.reduceSub, Nat.reduceLeDiff, Nat.reduceEqDiff, Nat.reduceLT, reduceCtorEq, htk]
  refine AWp.weak (weak_pim 5 0 rfl rfl rfl (pin 0)) ?_
  simp (config := { maxSteps := 2000000 }) only [go_sem, ↓reduceIte, Int.reduceToNat, Nat.reduceMul, Int.reduceBEq, Int.reduceBNe, Nat.reduceBEq, Nat.reduceAdd, Nat.reduceSub, Nat.reduceLeDiff, Nat.reduceEqDiff, Nat.reduceLT, reduceCtorEq]
  refine AWp.weak (weak_freeze 3 rfl (pin 3) (by simp (config := { maxSteps := 2000000 }) only [go_sem, ↓reduceIte, Int.reduceToNat, Nat.reduceMul, Int.reduceBEq, Int.reduceBNe, Nat.reduceBEq, Nat.reduceAdd, Nat.reduceSub, Nat.reduceLeDiff, Nat.reduceEqDiff, Nat.reduceLT, reduceCtorEq, Nat.le_refl, List.length_map])) ?_
  simp (config := { maxSteps := 2000000 }) only [go_sem, ↓reduceIte, Int.reduceToNat, Nat.reduceMul, Int.reduceBEq, Int.reduceBNe, Nat.reduceBEq, Nat.reduceAdd, Nat.reduceSub, Nat.reduceLeDiff, Nat.reduceEqDiff, Nat.reduceLT, reduceCtorEq, htk2]
  refine AWp.weak (weak_pim 7 2 rfl rfl rfl (pin 2)) ?_
  simp (config := { maxSteps := 2000000 }) only [go_sem, ↓reduceIte, Int.reduceToNat, Nat.reduceMul, Int.reduceBEq, Int.reduceBNe, Nat.reduceBEq, Nat.reduceAdd, Nat.reduceSub, Nat.reduceLeDiff, Nat.reduceEqDiff, Nat.reduceLT, reduceCtorEq]
  refine AWp.cut ⟨[(4, B true)], [.dead, .dead, .dead, .dead]⟩ ?_ ?_
  · refine AWp.plan (.take 0 [false, false, true, false, true, false, false, false, false, false, false, false, false, false, false, false, false, false, false, false, false, false, false, false, false, false, false, false, false, false, false, false, false, false, false, false, false, false, false] (.take 2 [true, true, false, false, true, false, false, false, false, false, false, false, false, false, false, false, false, false, false, false, false, false, false, false, false, false, false, false, false, false, false, false, false, false, false, false, false, false, false] (.take 4 [true, true, true, true, false, false, false, false, false, false, false, false, false, false, false, false, false, false, false, false, false, false, false, false, false, false, false, false, false, false, false, false, false, false, false, false, false, false, false] (.one 1 (.one 3 (.take 5 [true, true, true, true, true, false, false, false, false, false, false, false, false, false, false, false, false, false, false, false, false, false, false, false, false, false, false, false, false, false, false, false, false, false, false, false, false, false, false] (.one 6 (.take 7 [true, true, true, true, true, true, true, false, false, false, false, false, false, false, false, false, false, false, false, false, false, false, false, false, false, false, false, false, false, false, false, false, false, false, false, false, false, false, false] (.take 8 [true, true, true, true, true, true, true, true, false, false, true, true, true, false, false, false, false, false, false, false, false, false, false, false, false, false, false, false, false, false, false, false, false, false, false, false, false, false, false] (.take 10 [true, true, true, true, true, true, true, true, true, true, false, true, false, false, false, false, false, false, false, false, false, false, false, false, false, false, false, false, false, false, false, false, false, false, false, false, false, false, false] (.take 11 [true, true, true, true, true, true, true, true, true, true, true, false, false, false, false, false, false, false, false, false, false, false, false, false, false, false, false, false, false, false, false, false, false, false, false, false, false, false, false] (.take 12 [true, true, true, true, true, true, true, true, true, true, true, true, false, false, false, false, false, false, false, false, false, false, false, false, false, false, false, false, false, false, false, false, false, false, false, false, false, false, false] (.one 9 (.take 13 [true, true, true, true, true, true, true, true, true, true, true, true, true, false, false, false, false, false, false, false, false, false, false, false, false, false, false, false, false, false, false, false, false, false, false, false, false, false, false] (.take 14 [true, true, true, true, true, true, true, true, true, true, true, true, true, true, false, false, false, false, false, false, false, false, false, false, false, false, false, false, false, false, false, false, false, false, false, false, false, false, false] (.take 15 [true, true, true, true, true, true, true, true, true, true, true, true, true, true, true, false, false, false, false, false, false, false, false, false, false, false, false, false, false, false, false, false, false, false, false, false, false, false, false] (.take 16 [true, true, true, true, true, true, true, true, true, true, true, true, true, true, true, true, false, true, true, true, true, true, false, false, false, false, false, false, false, false, false, false, false, false, false, false, false, false, false] (.take 17 [true, true, true, true, true, true, true, true, true, true, true, true, true, true, true, true, true, false, true, false, false, false, false, false, false, false, false, false, false, false, false, false, false, false, false, false, false, false, false] (.take 18 [true, true, true, true, true, true, true, true, true, true, true, true, true, true, true, true, true, true, false, false, false, false, false, false, false, false, false, false, false, false, false, false, false, false, false, false, false, false, false] (.take 19 [true, true, true, true, true, true, true, true, true, true, true, true, true, true, true, true, true, true, true, false, false, false, false, false, false, false, false, false, false, false, false, false, false, false, false, false, false, false, false] (.one 20 (.take 21 [true, true, true, true, true, true, true, true, true, true, true, true, true, true, true, true, true, true, true, true, true, false, false, false, false, false, false, false, false, false, false, false, false, false, false, false, false, false, false] (.take 22 [true, true, true, true, true, true, true, true, true, true, true, true, true, true, true, true, true, true, true, true, true, true, false, false, false, false, false, false, false, false, false, false, false, false, false, false, false, false, false] (.take 23 [true, true, true, true, true, true, true, true, true, true, true, true, true, true, true, true, true, true, true, true, true, true, true, false, false, false, false, false, false, false, false, false, false, false, false, false, false, false, false] (.take 24 [true, true, true, true, true, true, true, true, true, true, true, true, true, true, true, true, true, true, true, true, true, true, true, true, false, false, false, false, false, false, false, false, false, false, false, false, false, false, false] (.take 25 [true, true, true, true, true, true, true, true, true, true, true, true, true, true, true, true, true, true, true, true, true, true, true, true, true, false, true, true, true, false, false, false, false, false, false, false, false, false, false] (.take 26 [true, true, true, true, true, true, true, true, true, true, true, true, true, true, true, true, true, true, true, true, true, true, true, true, true, true, false, false, false, false, false, false, false, false, false, false, false, false, false] (.one 27 (.take 28 [true, true, true, true, true, true, true, true, true, true, true, true, true, true, true, true, true, true, true, true, true, true, true, true, true, true, true, true, false, false, false, false, false, false, false, false, false, false, false] (.take 29 [true, true, true, true, true, true, true, true, true, true, true, true, true, true, true, true, true, true, true, true, true, true, true, true, true, true, true, true, true, false, false, false, false, false, false, false, false, false, false] (.take 30 [true, true, true, true, true, true, true, true, true, true, true, true, true, true, true, true, true, true, true, true, true, true, true, true, true, true, true, true, true, true, false, false, false, false, false, false, false, false, false] (.take 31 [true, true, true, true, true, true, true, true, true, true, true, true, true, true, true, true, true, true, true, true, true, true, true, true, true, true, true, true, true, true, true, false, false, true, false, false, false, false, false] (.take 33 [true, true, true, true, true, true, true, true, true, true, true, true, true, true, true, true, true, true, true, true, true, true, true, true, true, true, true, true, true, true, true, true, true, false, false, false, false, false, false] (.one 32 (.one 34 (.take 35 [true, true, true, true, true, true, true, true, true, true, true, true, true, true, true, true, true, true, true, true, true, true, true, true, true, true, true, true, true, true, true, true, true, true, true, false, false, false, false] (.take 36 [true, true, true, true, true, true, true, true, true, true, true, true, true, true, true, true, true, true, true, true, true, true, true, true, true, true, true, true, true, true, true, true, true, true, true, true, false, false, false] (.take 37 [true, true, true, true, true, true, true, true, true, true, true, true, true, true, true, true, true, true, true, true, true, true, true, true, true, true, true, true, true, true, true, true, true, true, true, true, true, false, false] (.take 38 [true, true, true, true, true, true, true, true, true, true, true, true, true, true, true, true, true, true, true, true, true, true, true, true, true, true, true, true, true, true, true, true, true, true, true, true, true, true, false] .done))))))))))))))))))))))))))))))))))))))) [true, true, true, true, true, true, true, true, true, true, true, true, true, true, true, true, true, true, true, true, true, true, true, true, true, true, true, true, true, true, true, true, true, true, true, true, true, true, true] mixed hn rfl rfl (wpP_gen fun W w0 w1 w2 w3 w4 => ?_)
    simp (config := { maxSteps := 2000000 }) only [go_sem, ↓reduceIte, Int.reduceToNat, Nat.reduceMul, Int.reduceBEq, Int.reduceBNe, Nat.reduceBEq, Nat.reduceAdd, Nat.reduceSub, Nat.reduceLeDiff, Nat.reduceEqDiff, Nat.reduceLT, reduceCtorEq, w0, w1, w2, w3, w4, t5, beq_self_eq_true, Option.toList_none, Option.toList_some, List.nil_append]
    refine AOne.callA (b13 b (by omega)) rfl (by rw [hn]; rfl) fun rg v hv => ?_
    obtain ⟨rfl, rfl⟩ := hv
    rw [retS_nil]
    simp (config := { maxSteps := 2000000 }) only [go_sem, ↓reduceIte, Int.reduceToNat, Nat.reduceMul, Int.reduceBEq, Int.reduceBNe, Nat.reduceBEq, Nat.reduceAdd, Nat.reduceSub, Nat.reduceLeDiff, Nat.reduceEqDiff, Nat.reduceLT, reduceCtorEq, w0, w1, w2, w3, w4, t5, beq_self_eq_true, Option.toList_none, Option.toList_some, List.nil_append]
    refine AOne.callA (b13 A (by omega)) rfl (by rw [hn]; rfl) fun rg v hv => ?_
    obtain ⟨rfl, rfl⟩ := hv
    rw [retS_nil]
    simp (config := { maxSteps := 2000000 }) only [go_sem, ↓reduceIte, Int.reduceToNat, Nat.reduceMul, Int.reduceBEq, Int.reduceBNe, Nat.reduceBEq, Nat.reduceAdd, Nat.reduceSub, Nat.reduceLeDiff, Nat.reduceEqDiff, Nat.reduceLT, reduceCtorEq, w0, w1, w2, w3, w4, t5, beq_self_eq_true, Option.toList_none, Option.toList_some, List.nil_append]
    refine ⟨⟨by omega, by omega, by omega⟩, ?_⟩
    rw [show List.take b.list.length (A.list.map ec) = b.list.map ec by rw [← List.map_take, t4]]
    refine AOne.calle (s11 none false none false b.list (by omega)) rfl (by rw [hn]; rfl) (by simp (config := { maxSteps := 2000000 }) only [go_sem, ↓reduceIte, Int.reduceToNat, Nat.reduceMul, Int.reduceBEq, Int.reduceBNe, Nat.reduceBEq, Nat.reduceAdd, Nat.reduceSub, Nat.reduceLeDiff, Nat.reduceEqDiff, Nat.reduceLT, reduceCtorEq]) ?_
    simp (config := { maxSteps := 2000000 }) only [go_sem, ↓reduceIte, Int.reduceToNat, Nat.reduceMul, Int.reduceBEq, Int.reduceBNe, Nat.reduceBEq, Nat.reduceAdd, Nat.reduceSub, Nat.reduceLeDiff, Nat.reduceEqDiff, Nat.reduceLT, reduceCtorEq, w0, w1, w2, w3, w4, t5, beq_self_eq_true, Option.toList_none, Option.toList_some, List.nil_append]
    refine ⟨⟨by omega, by omega, by omega⟩, ?_⟩
    refine AOne.gcalleT (b := true) (y := S b.text) rfl (fun _ => by simp (config := { maxSteps := 2000000 }) only [go_sem, ↓reduceIte, Int.reduceToNat, Nat.reduceMul, Int.reduceBEq, Int.reduceBNe, Nat.reduceBEq, Nat.reduceAdd, Nat.reduceSub, Nat.reduceLeDiff, Nat.reduceEqDiff, Nat.reduceLT, reduceCtorEq]; exact SpecG.at (Spec.g (Γ := Γ) (s17 b)) hT) rfl (by rw [hn]; rfl) (fun _ => by simp (config := { maxSteps := 2000000 }) only [go_sem, ↓reduceIte, Int.reduceToNat, Nat.reduceMul, Int.reduceBEq, Int.reduceBNe, Nat.reduceBEq, Nat.reduceAdd, Nat.reduceSub, Nat.reduceLeDiff, Nat.reduceEqDiff, Nat.reduceLT, reduceCtorEq]) ?_
    simp (config := { maxSteps := 2000000 }) only [go_sem, ↓reduceIte, Int.reduceToNat, Nat.reduceMul, Int.reduceBEq, Int.reduceBNe, Nat.reduceBEq, Nat.reduceAdd, Nat.reduceSub, Nat.reduceLeDiff, Nat.reduceEqDiff, Nat.reduceLT, reduceCtorEq, w0, w1, w2, w3, w4, t5, beq_self_eq_true, Option.toList_none, Option.toList_some, List.nil_append]
    refine ⟨⟨by omega, by omega, by omega⟩, ?_⟩
    have k6 : IntKind.i64.wrap (Lib.lastIndexByte (A.text.extract 0 N) 10 + 1) = (b.text.size : Int) := by rw [t6]; exact w64 (by omega) (by omega)
    have hli : Aw.Spec Tryd.prog 21 [] [S (A.text.extract 0 N), S ⟨#[10]⟩] (Gives (· = I (Lib.lastIndexByte (A.text.extract 0 N) 10))) := s21 (A.text.extract 0 N) 10 (by omega)
    generalize Lib.lastIndexByte (A.text.extract 0 N) 10 = li at *
    refine AOne.gcalleT (b := true) (y := I li) rfl (fun _ => by simp (config := { maxSteps := 2000000 }) only [go_sem, ↓reduceIte, Int.reduceToNat, Nat.reduceMul, Int.reduceBEq, Int.reduceBNe, Nat.reduceBEq, Nat.reduceAdd, Nat.reduceSub, Nat.reduceLeDiff, Nat.reduceEqDiff, Nat.reduceLT, reduceCtorEq]; exact SpecG.at (Spec.g (Γ := Γ) hli) hT) rfl (by rw [hn]; rfl) (fun _ => by simp (config := { maxSteps := 2000000 }) only [go_sem, ↓reduceIte, Int.reduceToNat, Nat.reduceMul, Int.reduceBEq, Int.reduceBNe, Nat.reduceBEq, Nat.reduceAdd, Nat.reduceSub, Nat.reduceLeDiff, Nat.reduceEqDiff, Nat.reduceLT, reduceCtorEq]) ?_
    simp (config := { maxSteps := 2000000 }) only [go_sem, ↓reduceIte, Int.reduceToNat, Nat.reduceMul, Int.reduceBEq, Int.reduceBNe, Nat.reduceBEq, Nat.reduceAdd, Nat.reduceSub, Nat.reduceLeDiff, Nat.reduceEqDiff, Nat.reduceLT, reduceCtorEq, w0, w1, w2, w3, w4, k6, beq_self_eq_true]
    refine AOne.weak (weak_opt 74 rfl) (AOne.guardT rfl (AOne.callA (b13 A (by omega)) rfl (by rw [hn]; rfl) fun rg v hv => ?_))
    obtain ⟨rfl, rfl⟩ := hv
    rw [retS_nil]
    simp (config := { maxSteps := 2000000 }) only [go_sem, ↓reduceIte, Int.reduceToNat, Nat.reduceMul, Int.reduceBEq, Int.reduceBNe, Nat.reduceBEq, Nat.reduceAdd, Nat.reduceSub, Nat.reduceLeDiff, Nat.reduceEqDiff, Nat.reduceLT, reduceCtorEq, w0, w1, w2, w3, w4, k6, beq_self_eq_true]
    cases hc : decide ((b.list.length : Int) < (A.list.length : Int)) with
    | true =>
      simp (config := { maxSteps := 2000000 }) only [go_sem, ↓reduceIte, Int.reduceToNat, Nat.reduceMul, Int.reduceBEq, Int.reduceBNe, Nat.reduceBEq, Nat.reduceAdd, Nat.reduceSub, Nat.reduceLeDiff, Nat.reduceEqDiff, Nat.reduceLT, reduceCtorEq, w0, w1, w2, w3, w4, hc]
      repeat' first
        | (refine And.intro ?_ ?_)
        | (refine AOne.gcalleT (b := false) (y := .val (.int .u64 b.dig)) rfl (fun hb => by cases hb) rfl (by rw [hn]; rfl) (fun hb => by cases hb) ?_; simp (config := { maxSteps := 2000000 }) only [go_sem, ↓reduceIte, Int.reduceToNat, Nat.reduceMul, Int.reduceBEq, Int.reduceBNe, Nat.reduceBEq, Nat.reduceAdd, Nat.reduceSub, Nat.reduceLeDiff, Nat.reduceEqDiff, Nat.reduceLT, reduceCtorEq, w0, w1, w2, w3, w4])
      all_goals exact weak_tm (by simp (config := { maxSteps := 2000000 }) only [go_sem, ↓reduceIte, Int.reduceToNat, Nat.reduceMul, Int.reduceBEq, Int.reduceBNe, Nat.reduceBEq, Nat.reduceAdd, Nat.reduceSub, Nat.reduceLeDiff, Nat.reduceEqDiff, Nat.reduceLT, reduceCtorEq])
    | false =>
      have hd := t7 (by have := of_decide_eq_false hc; omega)
      simp (config := { maxSteps := 2000000 }) only [go_sem, ↓reduceIte, Int.reduceToNat, Nat.reduceMul, Int.reduceBEq, Int.reduceBNe, Nat.reduceBEq, Nat.reduceAdd, Nat.reduceSub, Nat.reduceLeDiff, Nat.reduceEqDiff, Nat.reduceLT, reduceCtorEq, w0, w1, w2, w3, w4, hc]
      repeat' first
        | (refine And.intro ?_ ?_)
        | (refine AOne.gcalleT (b := true) (y := .val (.int .u64 b.dig)) rfl (fun _ => by simp (config := { maxSteps := 2000000 }) only [go_sem, ↓reduceIte, Int.reduceToNat, Nat.reduceMul, Int.reduceBEq, Int.reduceBNe, Nat.reduceBEq, Nat.reduceAdd, Nat.reduceSub, Nat.reduceLeDiff, Nat.reduceEqDiff, Nat.reduceLT, reduceCtorEq]; exact SpecG.at (Spec.g (Γ := Γ) (s19 b)) hT) rfl (by rw [hn]; rfl) (fun _ => by simp (config := { maxSteps := 2000000 }) only [go_sem, ↓reduceIte, Int.reduceToNat, Nat.reduceMul, Int.reduceBEq, Int.reduceBNe, Nat.reduceBEq, Nat.reduceAdd, Nat.reduceSub, Nat.reduceLeDiff, Nat.reduceEqDiff, Nat.reduceLT, reduceCtorEq]) ?_; simp (config := { maxSteps := 2000000 }) only [go_sem, ↓reduceIte, Int.reduceToNat, Nat.reduceMul, Int.reduceBEq, Int.reduceBNe, Nat.reduceBEq, Nat.reduceAdd, Nat.reduceSub, Nat.reduceLeDiff, Nat.reduceEqDiff, Nat.reduceLT, reduceCtorEq, w0, w1, w2, w3, w4, hd, beq_self_eq_true])
        | (refine AOne.gcalleT (b := true) (y := .val (.int .u64 A.dig)) rfl (fun _ => by simp (config := { maxSteps := 2000000 }) only [go_sem, ↓reduceIte, Int.reduceToNat, Nat.reduceMul, Int.reduceBEq, Int.reduceBNe, Nat.reduceBEq, Nat.reduceAdd, Nat.reduceSub, Nat.reduceLeDiff, Nat.reduceEqDiff, Nat.reduceLT, reduceCtorEq]; exact SpecG.at (Spec.g (Γ := Γ) (s19 A)) hT) rfl (by rw [hn]; rfl) (fun _ => by simp (config := { maxSteps := 2000000 }) only [go_sem, ↓reduceIte, Int.reduceToNat, Nat.reduceMul, Int.reduceBEq, Int.reduceBNe, Nat.reduceBEq, Nat.reduceAdd, Nat.reduceSub, Nat.reduceLeDiff, Nat.reduceEqDiff, Nat.reduceLT, reduceCtorEq]) ?_; simp (config := { maxSteps := 2000000 }) only [go_sem, ↓reduceIte, Int.reduceToNat, Nat.reduceMul, Int.reduceBEq, Int.reduceBNe, Nat.reduceBEq, Nat.reduceAdd, Nat.reduceSub, Nat.reduceLeDiff, Nat.reduceEqDiff, Nat.reduceLT, reduceCtorEq, w0, w1, w2, w3, w4, hd, beq_self_eq_true])
      all_goals exact weak_tm (by simp (config := { maxSteps := 2000000 }) only [go_sem, ↓reduceIte, Int.reduceToNat, Nat.reduceMul, Int.reduceBEq, Int.reduceBNe, Nat.reduceBEq, Nat.reduceAdd, Nat.reduceSub, Nat.reduceLeDiff, Nat.reduceEqDiff, Nat.reduceLT, reduceCtorEq])
  · simp (config := { maxSteps := 2000000 }) only [go_sem, ↓reduceIte, Int.reduceToNat, Nat.reduceMul, Int.reduceBEq, Int.reduceBNe, Nat.reduceBEq, Nat.reduceAdd, Nat.reduceSub, Nat.reduceLeDiff, Nat.reduceEqDiff, Nat.reduceLT, reduceCtorEq]
    refine Retn.ret (π := []) hp hnp ⟨rfl, ?_⟩
    simp (config := { maxSteps := 2000000 }) only [go_sem, ↓reduceIte, Int.reduceToNat, Nat.reduceMul, Int.reduceBEq, Int.reduceBNe, Nat.reduceBEq, Nat.reduceAdd, Nat.reduceSub, Nat.reduceLeDiff, Nat.reduceEqDiff, Nat.reduceLT, reduceCtorEq, Aw.renR, Aw.pos]
end Go.Proofs.YtemgclhenkbikaaDoor
