/- Archives: the law of the two parts. -/
import Derived.Test.YtemgclhenkbikaaDoorAwZl
import Derived.Test.YtemgclhenkbikaaDoorArJ
set_option linter.unusedVariables false
set_option linter.unusedSimpArgs false
namespace Go.Proofs.YtemgclhenkbikaaDoor
open Go.Proofs.YtemgclhenkbikaaDoor.Aw
attribute [local go_sem] Int.natCast_zero Int.natCast_one bne_self_eq_false beq_self_eq_true Bool.not_true Bool.not_false Option.isSome_none Option.isSome_some Aw.bkM_nil Option.getD_some Option.getD_none Nat.sub_zero Int.toNat_zero Aw.frzS Aw.frzT Aw.frzA Aw.frzL Aw.frzR Aw.frzO Aw.frzOL Aw.frzOT Aw.frzOR Aw.killS Aw.mapT Aw.mapR Aw.killM Aw.resAVs Aw.resAV Aw.quietOps Aw.wpP Aw.wpT Aw.wpS Aw.AOp.mild List.getElem?_cons_zero List.getElem?_cons_succ Bool.and_false Bool.and_self Bool.false_and Aw.opOb Aw.gdB Aw.Rnd Aw.subTm List.length_map Int.toNat_natCast and_self Aw.SeqC Aw.stops Aw.Ends Aw.looks Aw.renA Aw.renL Aw.renT Aw.renS Aw.wpO Aw.aop Aw.putTm Aw.St.ev Aw.St.put Aw.St.putO Aw.binAV Aw.intBin Aw.strBin Aw.pickAV Aw.optInt Aw.AV.strip Aw.AV.guard Aw.AV.cells Aw.gdOb Aw.AOp.opds Aw.AOp.still Aw.ptrCells Aw.St.reg Aw.fillAV Aw.fillOb Aw.elsOb Aw.splice Aw.firm Aw.cellish Aw.AV.shut Aw.shutAll Aw.Seq Aw.Blk Aw.retS_nil Aw.mapA Aw.mapL Aw.borA Aw.borOb Aw.allOb Aw.tupOf Aw.params Aw.Opd.of Array.toList Value.cells List.map_cons List.map_nil List.getD_cons_zero List.getD_cons_succ List.getD_nil List.length_cons List.length_nil List.take_succ_cons List.take_zero List.take_nil List.drop_zero List.drop_succ_cons List.drop_nil List.set_cons_zero List.set_cons_succ List.append_nil List.nil_append List.cons_append List.all_cons List.all_nil cond_false cond_true if_true if_false true_and and_true Bool.and_true Bool.true_and Option.map_some Option.map_none false_implies forall_const implies_true forall_eq imp_self Bool.cond_false_right Bool.cond_true_left beq_true beq_false Bool.not_eq_true' Bool.false_eq_true Nat.zero_add Nat.add_zero Aw.eqCells Aw.stopDraw Aw.skipS Aw.exactCap Aw.revealS Aw.srcEls Aw.srcSz
attribute [local go_sem ↓] Aw.look_nil Aw.look_ite Aw.wpL_nil Aw.wpL_op Aw.wpL_gd Aw.wpQ_nil Aw.wpQ_op Aw.wpQ_gd Aw.wpC_draw Aw.wpC_reg Aw.wpC_skip Aw.wpC_ret Aw.wpC_exit Aw.wpC_seq Aw.wpC_block Aw.wpC_loop Aw.wpC_cond Aw.stopAt_nil Aw.stopAt_cons Aw.wpD_skip Aw.wpD_ret Aw.wpD_exit Aw.wpD_region Aw.wpD_draw Aw.wpM_nil Aw.wpM_op Aw.wpM_gd Aw.wpD_seq Aw.wpD_block Aw.wpD_loop Aw.wpD_cond
/- gridhall/gridhallkeep4.ArchiveParts -/
def a3 : ACode :=
  (.seq (.region false [] [
     ⟨(some 3), none, (.box 3 (.t 1))⟩,
     ⟨(some 4), none, (.mov (.v (.bool false)))⟩])
  (.seq (.region false [] [
     ⟨(some 8), none, (.mov (.t 0))⟩,
     ⟨(some 9), none, (.call 7 [(.t 8)])⟩,
     ⟨(some 5), none, (.mov (.t 9))⟩])
  (.seq (.seq (.region false [] [
     ⟨(some 10), none, (.mov (.t 5))⟩,
     ⟨(some 11), none, (.nilP false (.t 10))⟩,
     ⟨(some 12), none, (.mov (.t 11))⟩,
     ⟨(some 13), (some (12, false)), (.call 8 [])⟩,
     ⟨(some 14), (some (12, false)), (.un .not (.t 13))⟩,
     ⟨(some 15), none, (.pick (.t 12) (.v (.bool true)) (.t 14))⟩])
  (.cond (.t 15)
    (.seq (.region false [] [
       ⟨(some 4), none, (.mov (.v (.bool false)))⟩])
    .ret)
    .skip))
  (.seq (.region false [] [
     ⟨(some 16), none, (.load 1 false (.t 3))⟩,
     ⟨(some 17), none, (.call 9 [(.t 16), (.v (.int .i64 0)), (.v (.int .i64 700))])⟩,
     ⟨none, none, (.store 1 (.t 3) (.t 17))⟩])
  (.seq (.region true [[], [], [0, 1], [], [], [3, 4, 2], [2, 5, 0, 1, 2], [5, 6, 0, 1, 2, 3, 4, 5, 6]] [
     ⟨(some 18), none, (.mov (.t 5))⟩,
     ⟨(some 19), none, (.load 1 false (.t 3))⟩,
     ⟨(some 20), none, (.call 10 [(.t 18), (.v (.int .i64 0)), (.t 19)])⟩,
     ⟨(some 21), none, (.mov (.t 5))⟩,
     ⟨(some 22), none, (.load 1 false (.t 3))⟩,
     ⟨(some 23), none, (.call 10 [(.t 21), (.t 22), (.v (.int .i64 200001))])⟩,
     ⟨(some 6), none, (.mov (.t 20))⟩,
     ⟨(some 7), none, (.mov (.t 23))⟩])
  (.seq (.region false [] [
     ⟨(some 24), none, (.mov (.t 6))⟩,
     ⟨(some 25), none, (.mov (.t 7))⟩,
     ⟨(some 26), none, (.bsl 22 1 2 [(0, (.t 24)), (1, (.t 25))])⟩,
     ⟨(some 27), none, (.call 12 [(.t 26)])⟩,
     ⟨(some 28), none, (.mov (.t 5))⟩,
     ⟨(some 29), none, (.call 13 [(.t 28)])⟩,
     ⟨(some 30), none, (.call 11 [(.t 27), (.t 29)])⟩,
     ⟨(some 31), none, (.mov (.t 30))⟩,
     ⟨(some 32), (some (31, true)), (.mov (.t 7))⟩,
     ⟨(some 33), (some (31, true)), (.mkfn 15 [(.t 3)])⟩,
     ⟨(some 34), (some (31, true)), (.call 14 [(.t 32), (.t 33)])⟩,
     ⟨(some 35), (some (31, true)), (.un .not (.t 34))⟩,
     ⟨(some 36), none, (.pick (.t 31) (.t 35) (.v (.bool false)))⟩,
     ⟨(some 4), none, (.mov (.t 36))⟩])
  .ret))))))
theorem k3 : FnIs Tryd.prog 3 37 [.t 4] a3 := ⟨_, _, Tryd.func3, rfl, by kernel_rfl, by kernel_rfl, rfl⟩

theorem ofN_len (l : List Ev) : ∀ i, i ≤ l.length → ArOk i (ofN l i)
  | 0, _ => ⟨Nat.le_refl 0, Nat.le_refl 0, by show begin0 < 18446744073709551616; decide, Int.le_refl 0, Int.le_refl 0⟩
  | i + 1, h => by
    rw [ofN_succ (by omega)]
    exact stepA_ok (ofN_len l i (by omega)) _
theorem ofN_ok (l : List Ev) : (ofN (l.take 12) (l.take 12).length).1.list.length ≤ 12 := by
  have h := (ofN_len (l.take 12) _ (Nat.le_refl _)).len
  have h2 : (l.take 12).length ≤ 12 := by rw [List.length_take]; omega
  omega
set_option maxRecDepth 20000 in
set_option maxHeartbeats 1000000 in
theorem s3 {Γ : List (Nat × Array Value)} (hP : powT ∈ Γ) (hD : debT ∈ Γ) (nl' fl) (l : List Ev) (t : Int) (hs : ∀ e ∈ l, EvW e) (hl : l.length ≤ 9223372036854775807) :
    Aw.SpecG Γ Tryd.prog 3 [] [.imm nl' fl 4 (l.map ec), I t] (Gives (· = B true)) := by
  refine SpecG.shut (Post := fun rg v => v = B true) ?_ fun rg v h => by subst h; exact ⟨rfl, rfl, rfl⟩
  refine Aw.SpecG.regsW k3 rfl rfl fun E hn hnp hp hT => ?_
  unfold a3
  have pin : ∀ r, E.pin r = none := fun r => hp.none hnp (Nat.zero_le _)
  refine AWp.ofD [999] [] hn mixed rfl ?_
  simp (config := { maxSteps := 2000000 }) only [go_sem, ↓reduceIte, Int.reduceToNat, Nat.reduceMul, Int.reduceBEq, Int.reduceBNe, Nat.reduceBEq, Nat.reduceAdd, Nat.reduceSub, Nat.reduceLeDiff, Nat.reduceEqDiff, Nat.reduceLT, reduceCtorEq]
  refine AWpL.callAT [] (SpecG.at (s7 hP hD nl' fl l hs hl) hT) rfl rfl (by rw [hn]; rfl) rfl (fun r hr => .inr (pin r)) fun rg v hv => ?_
  obtain ⟨rfl, rfl⟩ := hv
  refine ⟨Nat.zero_le _, ?_⟩
  have hok := ofN_ok l
  have hsrt := ofN_sort (l.take 12) _ (Nat.le_refl _)
  have hprt := fun t' => parts hsrt t'
  generalize (ofN (List.take 12 l) (List.take 12 l).length).fst = A at *
  rw [retS_new]
  refine AWpL.ofM hn rfl ?_
  simp (config := { maxSteps := 2000000 }) only [go_sem, ↓reduceIte, Int.reduceToNat, Nat.reduceMul, Int.reduceBEq, Int.reduceBNe, Nat.reduceBEq, Nat.reduceAdd, Nat.reduceSub, Nat.reduceLeDiff, Nat.reduceEqDiff, Nat.reduceLT, reduceCtorEq, Aw.pos, arR]
  refine AWpL.gcalleT (y := B true) rfl (fun _ => SpecG.at (s8 hP hD) hT) rfl (by rw [hn]; rfl) (fun _ => by simp (config := { maxSteps := 2000000 }) only [go_sem, ↓reduceIte, Int.reduceToNat, Nat.reduceMul, Int.reduceBEq, Int.reduceBNe, Nat.reduceBEq, Nat.reduceAdd, Nat.reduceSub, Nat.reduceLeDiff, Nat.reduceEqDiff, Nat.reduceLT, reduceCtorEq]) (AWpL.ofM hn rfl ?_)
  simp (config := { maxSteps := 2000000 }) only [go_sem, ↓reduceIte, Int.reduceToNat, Nat.reduceMul, Int.reduceBEq, Int.reduceBNe, Nat.reduceBEq, Nat.reduceAdd, Nat.reduceSub, Nat.reduceLeDiff, Nat.reduceEqDiff, Nat.reduceLT, reduceCtorEq]
  (refine AWpL.calle (s9 t 0 700 (by decide) (by decide) (by decide)) rfl (by rw [hn]; rfl) (by simp (config := { maxSteps := 2000000 }) only [go_sem, ↓reduceIte, Int.reduceToNat, Nat.reduceMul, Int.reduceBEq, Int.reduceBNe, Nat.reduceBEq, Nat.reduceAdd, Nat.reduceSub, Nat.reduceLeDiff, Nat.reduceEqDiff, Nat.reduceLT, reduceCtorEq]) (AWpL.ofM hn rfl ?_); simp (config := { maxSteps := 2000000 }) only [go_sem, ↓reduceIte, Int.reduceToNat, Nat.reduceMul, Int.reduceBEq, Int.reduceBNe, Nat.reduceBEq, Nat.reduceAdd, Nat.reduceSub, Nat.reduceLeDiff, Nat.reduceEqDiff, Nat.reduceLT, reduceCtorEq])
  have htk : (A.list.map ec).take A.list.length = A.list.map ec := List.take_of_length_le (by rw [List.length_map]; exact Nat.le_refl _)
  refine AWp.weak (weak_freeze 2 rfl (pin 2) (by simp (config := { maxSteps := 2000000 }) only [go_sem, ↓reduceIte, Int.reduceToNat, Nat.reduceMul, Int.reduceBEq, Int.reduceBNe, Nat.reduceBEq, Nat.reduceAdd, Nat.reduceSub, Nat.reduceLeDiff, Nat.reduceEqDiff, Nat.reduceLT, reduceCtorEq, Nat.le_refl, List.length_map])) ?_
  simp (config := { maxSteps := 2000000 }) only [go_sem, ↓reduceIte, Int.reduceToNat, Nat.reduceMul, Int.reduceBEq, Int.reduceBNe, Nat.reduceBEq, Nat.reduceAdd, Nat.reduceSub, Nat.reduceLeDiff, Nat.reduceEqDiff, Nat.reduceLT, reduceCtorEq, htk]
  refine AWp.weak (weak_pim 5 1 rfl rfl rfl (pin 1)) ?_
  simp (config := { maxSteps := 2000000 }) only [go_sem, ↓reduceIte, Int.reduceToNat, Nat.reduceMul, Int.reduceBEq, Int.reduceBNe, Nat.reduceBEq, Nat.reduceAdd, Nat.reduceSub, Nat.reduceLeDiff, Nat.reduceEqDiff, Nat.reduceLT, reduceCtorEq]
  have hp0 := hprt (cut t 0 700)
  have l1 : (betL A 0 (cut t 0 700)).length ≤ 12 := Nat.le_trans (List.length_filter_le _ _) hok
  have l2 : (betL A (cut t 0 700) 200001).length ≤ 12 := Nat.le_trans (List.length_filter_le _ _) hok
  have hin : ∀ e ∈ betL A (cut t 0 700) 200001, decide (e.time < cut t 0 700) = false := fun e he => by
    have := (List.mem_filter.1 he).2
    simp only [betP, Bool.and_eq_true, decide_eq_true_eq] at this
    exact decide_eq_false (by omega)
  have hp1 : [betL A 0 (cut t 0 700), betL A (cut t 0 700) 200001].flatten = A.list := by
    simpa [betL] using hp0
  refine AWp.plan (.take 0 [false, true, false, true, true, false, false, false] (.take 1 [true, false, false, true, true, false, false, false] (.take 3 [true, true, true, false, true, false, false, false] (.take 4 [true, true, true, true, false, false, false, false] (.one 2 (.one 5 (.take 6 [true, true, true, true, true, true, false, false] (.take 7 [true, true, true, true, true, true, true, false] .done)))))))) [true, true, true, true, true, true, true, true] mixed hn rfl rfl ?_
  simp (config := { maxSteps := 2000000 }) only [go_sem, ↓reduceIte, Int.reduceToNat, Nat.reduceMul, Int.reduceBEq, Int.reduceBNe, Nat.reduceBEq, Nat.reduceAdd, Nat.reduceSub, Nat.reduceLeDiff, Nat.reduceEqDiff, Nat.reduceLT, reduceCtorEq]
  refine AOne.callA (b10 A 0 (cut t 0 700) (by omega)) rfl (by rw [hn]; rfl) fun rg v hv => ?_
  obtain ⟨rfl, rfl⟩ := hv
  rw [retS_nil]
  simp (config := { maxSteps := 2000000 }) only [go_sem, ↓reduceIte, Int.reduceToNat, Nat.reduceMul, Int.reduceBEq, Int.reduceBNe, Nat.reduceBEq, Nat.reduceAdd, Nat.reduceSub, Nat.reduceLeDiff, Nat.reduceEqDiff, Nat.reduceLT, reduceCtorEq]
  refine AOne.callA (b10 A (cut t 0 700) 200001 (by omega)) rfl (by rw [hn]; rfl) fun rg v hv => ?_
  obtain ⟨rfl, rfl⟩ := hv
  rw [retS_nil]
  simp (config := { maxSteps := 2000000 }) only [go_sem, ↓reduceIte, Int.reduceToNat, Nat.reduceMul, Int.reduceBEq, Int.reduceBNe, Nat.reduceBEq, Nat.reduceAdd, Nat.reduceSub, Nat.reduceLeDiff, Nat.reduceEqDiff, Nat.reduceLT, reduceCtorEq]
  generalize betL A 0 (cut t 0 700) = L1 at *
  generalize betL A (cut t 0 700) 200001 = L2 at *
  refine AWpL.weak (weak_freeze 3 rfl (pin 3) (by simp (config := { maxSteps := 2000000 }) only [go_sem, ↓reduceIte, Int.reduceToNat, Nat.reduceMul, Int.reduceBEq, Int.reduceBNe, Nat.reduceBEq, Nat.reduceAdd, Nat.reduceSub, Nat.reduceLeDiff, Nat.reduceEqDiff, Nat.reduceLT, reduceCtorEq, Nat.le_refl])) ?_
  simp (config := { maxSteps := 2000000 }) only [go_sem, ↓reduceIte, Int.reduceToNat, Nat.reduceMul, Int.reduceBEq, Int.reduceBNe, Nat.reduceBEq, Nat.reduceAdd, Nat.reduceSub, Nat.reduceLeDiff, Nat.reduceEqDiff, Nat.reduceLT, reduceCtorEq]
  refine AWpL.callA [] (s12 none true [L1, L2] (by show 2 ≤ 1000000; decide) (by rw [hp1]; omega)) rfl rfl (by rw [hn]; rfl) rfl (fun r hr => by cases hr) fun rg v hv => ?_
  obtain ⟨rfl, rfl⟩ := hv
  refine ⟨Nat.le_refl _, AWpL.ofM hn rfl ?_⟩
  rw [hp1]
  simp (config := { maxSteps := 2000000 }) only [go_sem, ↓reduceIte, Int.reduceToNat, Nat.reduceMul, Int.reduceBEq, Int.reduceBNe, Nat.reduceBEq, Nat.reduceAdd, Nat.reduceSub, Nat.reduceLeDiff, Nat.reduceEqDiff, Nat.reduceLT, reduceCtorEq, Aw.retS, Aw.retRg, Aw.kpM, Aw.bkM, Aw.pos, Aw.isBox]
  refine AWpL.callA [] (b13 A (by omega)) rfl rfl (by rw [hn]; rfl) rfl (fun r hr => by cases hr) fun rg v hv => ?_
  obtain ⟨rfl, rfl⟩ := hv
  refine ⟨Nat.le_refl _, AWpL.ofM hn rfl ?_⟩
  simp (config := { maxSteps := 2000000 }) only [go_sem, ↓reduceIte, Int.reduceToNat, Nat.reduceMul, Int.reduceBEq, Int.reduceBNe, Nat.reduceBEq, Nat.reduceAdd, Nat.reduceSub, Nat.reduceLeDiff, Nat.reduceEqDiff, Nat.reduceLT, reduceCtorEq, Aw.retS, Aw.retRg, Aw.kpM, Aw.bkM, Aw.pos, Aw.isBox]
  (refine AWpL.calle (s11 none false none false A.list (by omega)) rfl (by rw [hn]; rfl) (by simp (config := { maxSteps := 2000000 }) only [go_sem, ↓reduceIte, Int.reduceToNat, Nat.reduceMul, Int.reduceBEq, Int.reduceBNe, Nat.reduceBEq, Nat.reduceAdd, Nat.reduceSub, Nat.reduceLeDiff, Nat.reduceEqDiff, Nat.reduceLT, reduceCtorEq]) (AWpL.ofM hn rfl ?_); simp (config := { maxSteps := 2000000 }) only [go_sem, ↓reduceIte, Int.reduceToNat, Nat.reduceMul, Int.reduceBEq, Int.reduceBNe, Nat.reduceBEq, Nat.reduceAdd, Nat.reduceSub, Nat.reduceLeDiff, Nat.reduceEqDiff, Nat.reduceLT, reduceCtorEq])
  have hany : L2.any (fun e => decide (e.time < cut t 0 700)) = false := by
    rw [List.any_eq_false]
    intro e he
    rw [hin e he]
    decide
  have hcf := s14 none false L2 15 [.pim [I (cut t 0 700)]] (fun e => decide (e.time < cut t 0 700)) (by kernel_rfl) rfl rfl (fun e he => s15 e (cut t 0 700)) (by omega)
  rw [hany] at hcf
  refine AWpL.weak (weak_opt 32 (by rfl)) (AWpL.weak (weak_opt 33 (by rfl)) (AWpL.guardT (by rfl) ?_))
  refine AWpL.calle (y := B false) hcf rfl (by rw [hn]; rfl) (by simp (config := { maxSteps := 2000000 }) only [go_sem, ↓reduceIte, Int.reduceToNat, Nat.reduceMul, Int.reduceBEq, Int.reduceBNe, Nat.reduceBEq, Nat.reduceAdd, Nat.reduceSub, Nat.reduceLeDiff, Nat.reduceEqDiff, Nat.reduceLT, reduceCtorEq]) (AWpL.ofM hn rfl ?_)
  simp (config := { maxSteps := 2000000 }) only [go_sem, ↓reduceIte, Int.reduceToNat, Nat.reduceMul, Int.reduceBEq, Int.reduceBNe, Nat.reduceBEq, Nat.reduceAdd, Nat.reduceSub, Nat.reduceLeDiff, Nat.reduceEqDiff, Nat.reduceLT, reduceCtorEq]
  refine Retn.ret (π := []) hp hnp ⟨rfl, ?_⟩
  simp (config := { maxSteps := 2000000 }) only [go_sem, ↓reduceIte, Int.reduceToNat, Nat.reduceMul, Int.reduceBEq, Int.reduceBNe, Nat.reduceBEq, Nat.reduceAdd, Nat.reduceSub, Nat.reduceLeDiff, Nat.reduceEqDiff, Nat.reduceLT, reduceCtorEq, Aw.renR, Aw.pos]
end Go.Proofs.YtemgclhenkbikaaDoor
