/- Black starts: steps are verified. -/
import Derived.Test.YtmginfhlohenhaaAwZk
import Derived.Test.YtmginfhlohenhaaBlaN
set_option linter.unusedVariables false
set_option linter.unusedSimpArgs false
namespace Go.Proofs.Ytmginfhlohenhaa
open Go.Proofs.Ytmginfhlohenhaa.Aw
attribute [local go_sem] Int.natCast_zero Int.natCast_one bne_self_eq_false beq_self_eq_true Bool.not_true Bool.not_false Option.isSome_none Option.isSome_some Aw.bkM_nil Option.getD_some Option.getD_none Nat.sub_zero Int.toNat_zero Aw.frzS Aw.frzT Aw.frzA Aw.frzL Aw.frzR Aw.frzO Aw.frzOL Aw.frzOT Aw.frzOR Aw.killS Aw.mapT Aw.mapR Aw.killM Aw.resAVs Aw.resAV Aw.quietOps Aw.wpP Aw.wpT Aw.wpS Aw.AOp.mild List.getElem?_cons_zero List.getElem?_cons_succ Bool.and_false Bool.and_self Bool.false_and Aw.opOb Aw.gdB Aw.Rnd Aw.subTm List.length_map Int.toNat_natCast and_self Aw.SeqC Aw.stops Aw.Ends Aw.looks Aw.renA Aw.renL Aw.renT Aw.renS Aw.wpO Aw.aop Aw.putTm Aw.St.ev Aw.St.put Aw.St.putO Aw.binAV Aw.intBin Aw.strBin Aw.pickAV Aw.optInt Aw.AV.strip Aw.AV.guard Aw.AV.cells Aw.gdOb Aw.AOp.opds Aw.AOp.still Aw.ptrCells Aw.St.reg Aw.fillAV Aw.fillOb Aw.elsOb Aw.splice Aw.firm Aw.cellish Aw.AV.shut Aw.shutAll Aw.Seq Aw.Blk Aw.retS_nil Aw.mapA Aw.mapL Aw.borA Aw.borOb Aw.allOb Aw.tupOf Aw.params Aw.Opd.of Array.toList Value.cells List.map_cons List.map_nil List.getD_cons_zero List.getD_cons_succ List.getD_nil List.length_cons List.length_nil List.take_succ_cons List.take_zero List.take_nil List.drop_zero List.drop_succ_cons List.drop_nil List.set_cons_zero List.set_cons_succ List.append_nil List.nil_append List.cons_append List.all_cons List.all_nil cond_false cond_true if_true if_false true_and and_true Bool.and_true Bool.true_and Option.map_some Option.map_none false_implies forall_const implies_true forall_eq imp_self Bool.cond_false_right Bool.cond_true_left beq_true beq_false Bool.not_eq_true' Bool.false_eq_true Nat.zero_add Nat.add_zero Aw.eqCells Aw.stopDraw Aw.skipS Aw.exactCap Aw.revealS Aw.srcEls Aw.srcSz
attribute [local go_sem ↓] Aw.look_nil Aw.look_ite Aw.wpL_nil Aw.wpL_op Aw.wpL_gd Aw.wpQ_nil Aw.wpQ_op Aw.wpQ_gd Aw.wpC_draw Aw.wpC_reg Aw.wpC_skip Aw.wpC_ret Aw.wpC_exit Aw.wpC_seq Aw.wpC_block Aw.wpC_loop Aw.wpC_cond Aw.stopAt_nil Aw.stopAt_cons Aw.wpD_skip Aw.wpD_ret Aw.wpD_exit Aw.wpD_region Aw.wpD_draw Aw.wpM_nil Aw.wpM_op Aw.wpM_gd Aw.wpD_seq Aw.wpD_block Aw.wpD_loop Aw.wpD_cond
/- gridhall/blackstart.Verify -/
def a17 : ACode :=
  (.seq (.region false [] [
     ⟨(some 3), none, (.box 29 (.t 0))⟩,
     ⟨(some 6), none, (.alloc 29 (.agg #[(.slice none 0 0), (.slice none 0 0), (.slice none 0 0), (.slice none 0 0), (.slice none 0 0), (.slice none 0 0)]))⟩,
     ⟨(some 7), none, (.mov (.v (.int .i64 0)))⟩,
     ⟨(some 8), none, (.mov (.v (.int .i64 0)))⟩])
  (.seq (.seq (.region false [] [
     ⟨(some 15), none, (.load 6 true (.t 3))⟩,
     ⟨(some 16), none, (.mov (.t 1))⟩,
     ⟨(some 17), none, (.call 32 [(.t 15), (.t 16)])⟩,
     ⟨(some 9), none, (.mov (.t 17))⟩])
  (.seq (.region false [] [
     ⟨(some 18), none, (.mov (.t 9))⟩,
     ⟨(some 19), none, (.bin .neq 30 (.t 18) (.v (.int .i64 0)))⟩])
  (.cond (.t 19)
    (.seq (.region false [] [
       ⟨(some 20), none, (.build (.agg #[(.slice none 0 0), (.slice none 0 0), (.slice none 0 0), (.slice none 0 0), (.slice none 0 0), (.slice none 0 0)]) [])⟩,
       ⟨(some 21), none, (.mov (.t 9))⟩,
       ⟨none, none, (.store 6 (.t 6) (.t 20))⟩,
       ⟨(some 7), none, (.mov (.v (.int .i64 0)))⟩,
       ⟨(some 8), none, (.mov (.t 21))⟩])
    .ret)
    .skip)))
  (.seq (.seq (.region false [] [
     ⟨(some 22), none, (.mov (.t 2))⟩,
     ⟨(some 23), none, (.len (.t 22))⟩,
     ⟨(some 24), none, (.bin .gtr 3 (.t 23) (.v (.int .i64 10)))⟩])
  (.cond (.t 24)
    (.seq (.region false [] [
       ⟨(some 25), none, (.build (.agg #[(.slice none 0 0), (.slice none 0 0), (.slice none 0 0), (.slice none 0 0), (.slice none 0 0), (.slice none 0 0)]) [])⟩,
       ⟨none, none, (.store 6 (.t 6) (.t 25))⟩,
       ⟨(some 7), none, (.mov (.v (.int .i64 0)))⟩,
       ⟨(some 8), none, (.mov (.v (.int .i64 2)))⟩])
    .ret)
    .skip))
  (.seq (.region false [] [
     ⟨(some 26), none, (.mov (.t 1))⟩,
     ⟨(some 27), none, (.call 14 [(.t 26)])⟩,
     ⟨(some 10), none, (.mov (.t 27))⟩])
  (.seq (.region false [] [
     ⟨(some 28), none, (.load 6 true (.t 3))⟩,
     ⟨(some 29), none, (.call 30 [(.t 28)])⟩,
     ⟨none, none, (.store 6 (.t 3) (.t 29))⟩])
  (.seq (.seq (.region false [] [
     ⟨(some 30), none, (.mov (.t 2))⟩,
     ⟨(some 31), none, (.len (.t 30))⟩,
     ⟨(some 32), none, (.mov (.v (.int .i64 0)))⟩])
  (.block 0 (.loop (.seq (.region false [] [
       ⟨(some 33), none, (.bin .lss 3 (.t 32) (.t 31))⟩])
    (.seq (.cond (.t 33)
      .skip
      (.exit 0))
    (.seq (.block 1 (.seq (.region false [] [
        ⟨(some 34), none, (.mov (.t 32))⟩,
        ⟨(some 35), none, (.idx 2 (.t 30) (.t 32))⟩,
        ⟨(some 36), none, (.load 2 true (.t 35))⟩,
        ⟨(some 12), none, (.alloc 50 (.agg #[(.string ⟨#[]⟩), (.slice none 0 0)]))⟩,
        ⟨(some 11), none, (.mov (.t 34))⟩,
        ⟨none, none, (.store 2 (.t 12) (.t 36))⟩])
     (.seq (.region false [] [
        ⟨(some 38), none, (.load 6 true (.t 3))⟩,
        ⟨(some 39), none, (.mov (.t 10))⟩,
        ⟨(some 40), none, (.load 2 true (.t 12))⟩,
        ⟨(some 41), none, (.call 35 [(.t 38), (.t 39), (.t 40)])⟩,
        ⟨(some 37), none, (.mov (.t 41))⟩,
        ⟨(some 42), none, (.ext 0 (.t 37))⟩,
        ⟨(some 43), none, (.ext 1 (.t 37))⟩,
        ⟨(some 13), none, (.alloc 29 (.agg #[(.slice none 0 0), (.slice none 0 0), (.slice none 0 0), (.slice none 0 0), (.slice none 0 0), (.slice none 0 0)]))⟩,
        ⟨none, none, (.store 6 (.t 13) (.t 42))⟩,
        ⟨(some 14), none, (.mov (.t 43))⟩])
     (.seq (.seq (.region false [] [
        ⟨(some 44), none, (.mov (.t 14))⟩,
        ⟨(some 45), none, (.bin .neq 30 (.t 44) (.v (.int .i64 0)))⟩])
     (.cond (.t 45)
       (.seq (.region false [] [
          ⟨(some 46), none, (.build (.agg #[(.slice none 0 0), (.slice none 0 0), (.slice none 0 0), (.slice none 0 0), (.slice none 0 0), (.slice none 0 0)]) [])⟩,
          ⟨(some 47), none, (.mov (.t 11))⟩,
          ⟨(some 48), none, (.mov (.t 14))⟩,
          ⟨none, none, (.store 6 (.t 6) (.t 46))⟩,
          ⟨(some 7), none, (.mov (.t 47))⟩,
          ⟨(some 8), none, (.mov (.t 48))⟩])
       .ret)
       .skip))
     (.region true [[], [], [], [2], [3], [1, 4], [0, 5, 0], [5, 6, 0, 1, 2, 3, 4, 5, 6]] [
        ⟨(some 49), none, (.load 6 true (.t 13))⟩,
        ⟨(some 50), none, (.mov (.t 10))⟩,
        ⟨(some 51), none, (.fld 0 (.t 12))⟩,
        ⟨(some 52), none, (.load 1 false (.t 51))⟩,
        ⟨(some 53), none, (.bsl 9 1 1 [(0, (.t 52))])⟩,
        ⟨(some 54), none, (.app 9 1 16 (.string ⟨#[]⟩) (.t 50) (.t 53))⟩,
        ⟨none, none, (.store 6 (.t 3) (.t 49))⟩,
        ⟨(some 10), none, (.mov (.t 54))⟩])))))
    (.region false [] [
       ⟨(some 55), none, (.bin .add 3 (.t 32) (.v (.int .i64 1)))⟩,
       ⟨(some 32), none, (.mov (.t 55))⟩])))))))
  (.seq (.region false [] [
     ⟨(some 56), none, (.load 6 true (.t 3))⟩,
     ⟨none, none, (.store 6 (.t 6) (.t 56))⟩,
     ⟨(some 7), none, (.mov (.v (.int .i64 0)))⟩,
     ⟨(some 8), none, (.mov (.v (.int .i64 0)))⟩])
  .ret)))))))
theorem k17 : FnIs Try.prog 17 57 [.c 6 6 true, .t 7, .t 8] a17 := ⟨_, _, Try.func17, rfl, by kernel_rfl, by kernel_rfl, rfl⟩

set_option maxRecDepth 20000 in
set_option maxHeartbeats 4000000 in
theorem s17 (n : Net) (hk : NetOk n) (nl fl) (src : List ByteArray) (nl2 fl2) (l : List Stp) (hck : checkE n src = 0) (hl10 : l.length ≤ 10) (hpre : VPre (netO n) src l) :
    Aw.Spec Try.prog 17 [] [neta n, ss nl fl src, .imm nl2 fl2 2 (l.map stc)] (fun rg v => rg = [.box 29 (cellsN (verF 0 (netO n) src l).1)] ∧ v = .tup [.agg (cellsN (verF 0 (netO n) src l).1), I (verF 0 (netO n) src l).2.1, I (verF 0 (netO n) src l).2.2]) := by
  refine Aw.Spec.regsW k17 rfl rfl fun E hn hnp hp => ?_
  unfold a17
  have pin : ∀ r, E.pin r = none := fun r => hp.none hnp (Nat.zero_le _)
  obtain ⟨hv, hgs⟩ := check_gens hck
  have hsl := src_len hck
  have h10 := hv.nge
  have c0 : decide ((l.length : Int) > 10) = false := decide_eq_false (by omega)
  refine AWp.ofD [] [] hn mixed rfl ?_
  simp (config := { maxSteps := 2000000 }) only [go_sem, ↓reduceIte, Int.reduceToNat, Nat.reduceMul, Int.reduceBEq, Int.reduceBNe, Nat.reduceBEq, Nat.reduceAdd, Nat.reduceSub, Nat.reduceLeDiff, Nat.reduceEqDiff, Nat.reduceLT, reduceCtorEq]
  (refine AWpL.calle (s32 n hk nl fl src (by omega)) rfl (by rw [hn]; rfl) (by simp (config := { maxSteps := 2000000 }) only [go_sem, ↓reduceIte, Int.reduceToNat, Nat.reduceMul, Int.reduceBEq, Int.reduceBNe, Nat.reduceBEq, Nat.reduceAdd, Nat.reduceSub, Nat.reduceLeDiff, Nat.reduceEqDiff, Nat.reduceLT, reduceCtorEq]) (AWpL.ofM hn rfl ?_); simp (config := { maxSteps := 2000000 }) only [go_sem, ↓reduceIte, Int.reduceToNat, Nat.reduceMul, Int.reduceBEq, Int.reduceBNe, Nat.reduceBEq, Nat.reduceAdd, Nat.reduceSub, Nat.reduceLeDiff, Nat.reduceEqDiff, Nat.reduceLT, reduceCtorEq])
  simp (config := { maxSteps := 2000000 }) only [go_sem, ↓reduceIte, Int.reduceToNat, Nat.reduceMul, Int.reduceBEq, Int.reduceBNe, Nat.reduceBEq, Nat.reduceAdd, Nat.reduceSub, Nat.reduceLeDiff, Nat.reduceEqDiff, Nat.reduceLT, reduceCtorEq, hck, c0]
  refine AWpL.callA [] (o14 nl fl src (by omega)) rfl rfl (by rw [hn]; rfl) rfl (fun r hr => by cases hr) fun rg v hv' => ?_
  obtain ⟨rfl, rfl⟩ := hv'
  refine ⟨Nat.zero_le _, ?_⟩
  rw [retS_new]
  refine AWpL.ofM hn rfl ?_
  simp (config := { maxSteps := 2000000 }) only [go_sem, ↓reduceIte, Int.reduceToNat, Nat.reduceMul, Int.reduceBEq, Int.reduceBNe, Nat.reduceBEq, Nat.reduceAdd, Nat.reduceSub, Nat.reduceLeDiff, Nat.reduceEqDiff, Nat.reduceLT, reduceCtorEq]
  refine AWpL.callA [] (s30 n hv) rfl rfl (by rw [hn]; rfl) rfl (fun r hr => by cases hr) fun rg v hv' => ?_
  obtain ⟨rfl, rfl⟩ := hv'
  refine ⟨Nat.zero_le _, ?_⟩
  rw [retS_new]
  refine AWpL.ofM hn rfl ?_
  simp (config := { maxSteps := 2000000 }) only [go_sem, ↓reduceIte, Int.reduceToNat, Nat.reduceMul, Int.reduceBEq, Int.reduceBNe, Nat.reduceBEq, Nat.reduceAdd, Nat.reduceSub, Nat.reduceLeDiff, Nat.reduceEqDiff, Nat.reduceLT, reduceCtorEq]
  have tk : ∀ {α : Type} (c : α → List AV) (l : List α), (l.map c).take l.length = l.map c := fun c l => List.take_of_length_le (by rw [List.length_map]; exact Nat.le_refl _)
  refine AWp.weak (weak_freeze 4 rfl (pin 4) (by simp (config := { maxSteps := 2000000 }) only [go_sem, ↓reduceIte, Int.reduceToNat, Nat.reduceMul, Int.reduceBEq, Int.reduceBNe, Nat.reduceBEq, Nat.reduceAdd, Nat.reduceSub, Nat.reduceLeDiff, Nat.reduceEqDiff, Nat.reduceLT, reduceCtorEq, Nat.le_refl, List.length_map])) ?_
  simp (config := { maxSteps := 2000000 }) only [go_sem, ↓reduceIte, Int.reduceToNat, Nat.reduceMul, Int.reduceBEq, Int.reduceBNe, Nat.reduceBEq, Nat.reduceAdd, Nat.reduceSub, Nat.reduceLeDiff, Nat.reduceEqDiff, Nat.reduceLT, reduceCtorEq, tk]
  refine AWp.weak (weak_freeze 5 rfl (pin 5) (by simp (config := { maxSteps := 2000000 }) only [go_sem, ↓reduceIte, Int.reduceToNat, Nat.reduceMul, Int.reduceBEq, Int.reduceBNe, Nat.reduceBEq, Nat.reduceAdd, Nat.reduceSub, Nat.reduceLeDiff, Nat.reduceEqDiff, Nat.reduceLT, reduceCtorEq, Nat.le_refl, List.length_map])) ?_
  simp (config := { maxSteps := 2000000 }) only [go_sem, ↓reduceIte, Int.reduceToNat, Nat.reduceMul, Int.reduceBEq, Int.reduceBNe, Nat.reduceBEq, Nat.reduceAdd, Nat.reduceSub, Nat.reduceLeDiff, Nat.reduceEqDiff, Nat.reduceLT, reduceCtorEq, tk]
  refine AWp.weak (weak_freeze 6 rfl (pin 6) (by simp (config := { maxSteps := 2000000 }) only [go_sem, ↓reduceIte, Int.reduceToNat, Nat.reduceMul, Int.reduceBEq, Int.reduceBNe, Nat.reduceBEq, Nat.reduceAdd, Nat.reduceSub, Nat.reduceLeDiff, Nat.reduceEqDiff, Nat.reduceLT, reduceCtorEq, Nat.le_refl, List.length_map])) ?_
  simp (config := { maxSteps := 2000000 }) only [go_sem, ↓reduceIte, Int.reduceToNat, Nat.reduceMul, Int.reduceBEq, Int.reduceBNe, Nat.reduceBEq, Nat.reduceAdd, Nat.reduceSub, Nat.reduceLeDiff, Nat.reduceEqDiff, Nat.reduceLT, reduceCtorEq, tk]
  refine AWp.weak (weak_freeze 7 rfl (pin 7) (by simp (config := { maxSteps := 2000000 }) only [go_sem, ↓reduceIte, Int.reduceToNat, Nat.reduceMul, Int.reduceBEq, Int.reduceBNe, Nat.reduceBEq, Nat.reduceAdd, Nat.reduceSub, Nat.reduceLeDiff, Nat.reduceEqDiff, Nat.reduceLT, reduceCtorEq, Nat.le_refl, List.length_map])) ?_
  simp (config := { maxSteps := 2000000 }) only [go_sem, ↓reduceIte, Int.reduceToNat, Nat.reduceMul, Int.reduceBEq, Int.reduceBNe, Nat.reduceBEq, Nat.reduceAdd, Nat.reduceSub, Nat.reduceLeDiff, Nat.reduceEqDiff, Nat.reduceLT, reduceCtorEq, tk]
  refine AWp.weak (weak_freeze 8 rfl (pin 8) (by simp (config := { maxSteps := 2000000 }) only [go_sem, ↓reduceIte, Int.reduceToNat, Nat.reduceMul, Int.reduceBEq, Int.reduceBNe, Nat.reduceBEq, Nat.reduceAdd, Nat.reduceSub, Nat.reduceLeDiff, Nat.reduceEqDiff, Nat.reduceLT, reduceCtorEq, Nat.le_refl, List.length_map])) ?_
  simp (config := { maxSteps := 2000000 }) only [go_sem, ↓reduceIte, Int.reduceToNat, Nat.reduceMul, Int.reduceBEq, Int.reduceBNe, Nat.reduceBEq, Nat.reduceAdd, Nat.reduceSub, Nat.reduceLeDiff, Nat.reduceEqDiff, Nat.reduceLT, reduceCtorEq, tk]
  refine AWp.weak (weak_freeze 9 rfl (pin 9) (by simp (config := { maxSteps := 2000000 }) only [go_sem, ↓reduceIte, Int.reduceToNat, Nat.reduceMul, Int.reduceBEq, Int.reduceBNe, Nat.reduceBEq, Nat.reduceAdd, Nat.reduceSub, Nat.reduceLeDiff, Nat.reduceEqDiff, Nat.reduceLT, reduceCtorEq, Nat.le_refl, List.length_map])) ?_
  simp (config := { maxSteps := 2000000 }) only [go_sem, ↓reduceIte, Int.reduceToNat, Nat.reduceMul, Int.reduceBEq, Int.reduceBNe, Nat.reduceBEq, Nat.reduceAdd, Nat.reduceSub, Nat.reduceLeDiff, Nat.reduceEqDiff, Nat.reduceLT, reduceCtorEq, tk]
  refine AWp.loop (fun k s => ∃ (i : Nat) (m : Net) (run : List ByteArray), i + k = l.length ∧ NetOk m ∧ NetV m ∧ (∀ r ∈ run, GenName m r) ∧ VPre m run (l.drop i) ∧ run.length ≤ 10 + i ∧ verF 0 (netO n) src l = verF i m run (l.drop i) ∧ Weak E s ⟨[(3, .ptr 0 0 0), (6, .ptr 1 0 0), (10, .hnd 2 0 run.length run.length false), (30, .imm nl2 fl2 2 (l.map stc)), (31, I l.length), (32, I i)], [.box 29 (netc m), .box 29 nil6, .arr 9 1 (run.map sc)]⟩) (n := l.length)
    ⟨0, netO n, src, by omega, netO_ok hk, netO_v hv, hgs, hpre, by omega, rfl, weak_to [0, 1, 2] hp hnp rfl (by simp (config := { maxSteps := 2000000 }) only [go_sem, ↓reduceIte, Int.reduceToNat, Nat.reduceMul, Int.reduceBEq, Int.reduceBNe, Nat.reduceBEq, Nat.reduceAdd, Nat.reduceSub, Nat.reduceLeDiff, Nat.reduceEqDiff, Nat.reduceLT, reduceCtorEq, Int.natCast_zero, Aw.pos] <;> rfl) (by simp (config := { maxSteps := 2000000 }) only [go_sem, ↓reduceIte, Int.reduceToNat, Nat.reduceMul, Int.reduceBEq, Int.reduceBNe, Nat.reduceBEq, Nat.reduceAdd, Nat.reduceSub, Nat.reduceLeDiff, Nat.reduceEqDiff, Nat.reduceLT, reduceCtorEq, Aw.renR, Aw.pos] <;> rfl)⟩ ?_
  rintro k s ⟨i, m, run, hik, hmk, hmv, hmr, hvp, hrl, hvf, hw⟩
  refine AWp.weak hw (AWp.ofD [] [] hn mixed rfl ?_)
  rcases Nat.lt_or_ge i l.length with hlt | hge
  · have e0 : decide ((i : Int) < (l.length : Int)) = true := decide_eq_true (by omega)
    have e1 := getD_mapD default stc hlt
    have e2 : IntKind.i64.wrap ((i : Int) + 1) = ((i + 1 : Nat) : Int) := by rw [w64 (by omega) (by omega)]; omega
    rw [List.drop_eq_getElem_cons hlt] at hvp hvf
    have hd : l[i] = l.getD i default := by rw [List.getD_eq_getElem?_getD, List.getElem?_eq_getElem hlt]; rfl
    rw [hd] at hvp hvf
    generalize l.getD i default = x at *
    obtain ⟨p1, p2, p3, p4, p5, p6⟩ := hvp
    have hrun0 : 0 < run.length := List.length_pos_iff.2 p5
    simp (config := { maxSteps := 2000000 }) only [go_sem, ↓reduceIte, Int.reduceToNat, Nat.reduceMul, Int.reduceBEq, Int.reduceBNe, Nat.reduceBEq, Nat.reduceAdd, Nat.reduceSub, Nat.reduceLeDiff, Nat.reduceEqDiff, Nat.reduceLT, reduceCtorEq, e0, e1]
    (repeat (refine And.intro (by first | omega | (refine ⟨by omega, by omega⟩) | (refine ⟨by omega, by omega, by omega⟩) | (simp only [List.length_map, List.length_range, List.length_append, List.length_cons, List.length_nil, List.length_replicate, List.length_set]; omega) | (simp; omega) | (intro hgd; cases hgd) | (intro hgd; refine ⟨hgd, ?_⟩; first | omega | (refine ⟨by omega, by omega⟩) | (simp; omega))) ?_))
    refine AWpL_callK [2] 10 (s35 m hmk hmv run x hmr p1 p2 p3 p4 (by omega)) rfl rfl (by rw [hn]; rfl) rfl (fun r hr => .inr (pin r)) (by rfl) (by rfl) hrun0 (by decide) fun rg v hv' => ?_
    obtain ⟨rfl, rfl⟩ := hv'
    refine ⟨by simp, AWpL.ofM hn rfl ?_⟩
    have hF : perfF m run x = if run.any (fun r => joinR (closeL m x.2) r x.1) = true then some (closeL m x.2) else none := rfl
    have hE : perfE m run x = if run.any (fun r => joinR (closeL m x.2) r x.1) = true then 0 else 15 := rfl
    rw [verF] at hvf
    cases hany : run.any (fun r => joinR (closeL m x.2) r x.1) with
    | false =>
      rw [hany, if_neg (by decide)] at hF hE hvf
      rw [hF, hE, hvf]
      have cn : cellsN none = nil6 := rfl
      rw [cn]
      simp (config := { maxSteps := 2000000 }) only [go_sem, ↓reduceIte, Int.reduceToNat, Nat.reduceMul, Int.reduceBEq, Int.reduceBNe, Nat.reduceBEq, Nat.reduceAdd, Nat.reduceSub, Nat.reduceLeDiff, Nat.reduceEqDiff, Nat.reduceLT, reduceCtorEq, Aw.retS, Aw.retRg, Aw.kpM, Aw.bkM, Aw.pos, Aw.isBox]
      refine Retn.ret (π := [1]) hp hnp ⟨rfl, ?_⟩
      simp (config := { maxSteps := 2000000 }) only [go_sem, ↓reduceIte, Int.reduceToNat, Nat.reduceMul, Int.reduceBEq, Int.reduceBNe, Nat.reduceBEq, Nat.reduceAdd, Nat.reduceSub, Nat.reduceLeDiff, Nat.reduceEqDiff, Nat.reduceLT, reduceCtorEq, Aw.renR, Aw.pos]
    | true =>
      rw [hany, if_pos rfl] at hF hE hvf
      rw [hF, hE]
      have cn : cellsN (some (closeL m x.2)) = netc (closeL m x.2) := rfl
      rw [cn]
      obtain ⟨q1, q2, _⟩ := close_ok hmk hmv (OpenL.names hmv p3)
      have q3 : ∀ r ∈ run ++ [x.1], GenName (closeL m x.2) r := fun r hr' => GenName.close.2 (by
        rcases List.mem_append.1 hr' with hr' | hr'
        · exact hmr r hr'
        · rw [List.mem_singleton.1 hr']; exact p1)
      have q4 := p6 hany
      generalize closeL m x.2 = m' at *
      have hap2 : run.map sc ++ [sc x.1] = (run ++ [x.1]).map sc := by rw [List.map_append]; rfl
      have hl3 : run.length + 1 = (run ++ [x.1]).length := by rw [List.length_append]; rfl
      simp (config := { maxSteps := 2000000 }) only [go_sem, ↓reduceIte, Int.reduceToNat, Nat.reduceMul, Int.reduceBEq, Int.reduceBNe, Nat.reduceBEq, Nat.reduceAdd, Nat.reduceSub, Nat.reduceLeDiff, Nat.reduceEqDiff, Nat.reduceLT, reduceCtorEq, Aw.retS, Aw.retRg, Aw.kpM, Aw.bkM, Aw.pos, Aw.isBox]
      refine AWp.plan (.take 1 [true, false, true, true, true, false, false, false] (.take 2 [true, true, false, false, false, false, false, false] (.take 3 [true, true, true, false, false, false, false, false] (.two 0 (.one 4 (.one 5 (.one 6 (.take 7 [true, true, true, true, true, true, true, false] .done)))) 4 (.two 0 (.one 5 (.one 6 (.take 7 [true, true, true, true, true, true, true, false] .done))) 5 (.take 0 [false, true, true, true, true, true, false, false] (.one 6 (.take 7 [true, true, true, true, true, true, true, false] .done)))))))) [true, true, true, true, true, false, false, true] mixed hn rfl rfl ?_
      simp (config := { maxSteps := 2000000 }) only [go_sem, ↓reduceIte, Int.reduceToNat, Nat.reduceMul, Int.reduceBEq, Int.reduceBNe, Nat.reduceBEq, Nat.reduceAdd, Nat.reduceSub, Nat.reduceLeDiff, Nat.reduceEqDiff, Nat.reduceLT, reduceCtorEq]
      refine ⟨?_, ?_, ?_⟩
      all_goals
        refine AOne.rule (AWpL.app (r := 2) (els := run.map sc) (ys := [sc x.1]) rfl rfl rfl rfl (by rw [hn]; rfl) (by rw [List.length_map]) (pin 2) (by simp (config := { maxSteps := 2000000 }) only [go_sem, ↓reduceIte, Int.reduceToNat, Nat.reduceMul, Int.reduceBEq, Int.reduceBNe, Nat.reduceBEq, Nat.reduceAdd, Nat.reduceSub, Nat.reduceLeDiff, Nat.reduceEqDiff, Nat.reduceLT, reduceCtorEq, Nat.le_refl]) (fun el hm y hy => by
          rw [List.mem_singleton.1 hm] at hy
          rw [List.mem_singleton.1 hy]; rfl) (by simp only [List.length_cons, List.length_nil]; omega) (by simp only [List.length_cons, List.length_nil]; omega) (AWpL.ofM hn rfl ?_))
        simp (config := { maxSteps := 2000000 }) only [go_sem, ↓reduceIte, Int.reduceToNat, Nat.reduceMul, Int.reduceBEq, Int.reduceBNe, Nat.reduceBEq, Nat.reduceAdd, Nat.reduceSub, Nat.reduceLeDiff, Nat.reduceEqDiff, Nat.reduceLT, reduceCtorEq, hap2, hl3, e2]
        exact ⟨k - 1, by omega, i + 1, m', run ++ [x.1], by omega, q1, q2, q3, q4, by rw [← hl3]; omega, hvf, weak_to [0, 1, 2] hp hnp rfl (by simp (config := { maxSteps := 2000000 }) only [go_sem, ↓reduceIte, Int.reduceToNat, Nat.reduceMul, Int.reduceBEq, Int.reduceBNe, Nat.reduceBEq, Nat.reduceAdd, Nat.reduceSub, Nat.reduceLeDiff, Nat.reduceEqDiff, Nat.reduceLT, reduceCtorEq, Aw.pos] <;> rfl) (by simp (config := { maxSteps := 2000000 }) only [go_sem, ↓reduceIte, Int.reduceToNat, Nat.reduceMul, Int.reduceBEq, Int.reduceBNe, Nat.reduceBEq, Nat.reduceAdd, Nat.reduceSub, Nat.reduceLeDiff, Nat.reduceEqDiff, Nat.reduceLT, reduceCtorEq, Aw.renR, Aw.pos] <;> rfl)⟩
  · have e0 : decide ((i : Int) < (l.length : Int)) = false := decide_eq_false (by omega)
    rw [List.drop_of_length_le hge] at hvf
    rw [hvf]
    simp (config := { maxSteps := 2000000 }) only [go_sem, ↓reduceIte, Int.reduceToNat, Nat.reduceMul, Int.reduceBEq, Int.reduceBNe, Nat.reduceBEq, Nat.reduceAdd, Nat.reduceSub, Nat.reduceLeDiff, Nat.reduceEqDiff, Nat.reduceLT, reduceCtorEq, e0]
    refine Retn.ret (π := [1]) hp hnp ⟨rfl, ?_⟩
    simp (config := { maxSteps := 2000000 }) only [go_sem, ↓reduceIte, Int.reduceToNat, Nat.reduceMul, Int.reduceBEq, Int.reduceBNe, Nat.reduceBEq, Nat.reduceAdd, Nat.reduceSub, Nat.reduceLeDiff, Nat.reduceEqDiff, Nat.reduceLT, reduceCtorEq, Aw.renR, Aw.pos]
    exact ⟨rfl, rfl⟩
end Go.Proofs.Ytmginfhlohenhaa
