/- The console: the fixed example, the law of commands printed and parsed. -/
import Derived.Test.YtipknphidkdpiaaDoorAwZl
import Derived.Test.YtipknphidkdpiaaDoorAwZm
import Derived.Test.YtipknphidkdpiaaDoorConD
set_option linter.unusedVariables false
set_option linter.unusedSimpArgs false
namespace Go.Proofs.YtipknphidkdpiaaDoor
open Go.Proofs.YtipknphidkdpiaaDoor.Aw
attribute [local go_sem] Int.natCast_zero Int.natCast_one bne_self_eq_false beq_self_eq_true Bool.not_true Bool.not_false Option.isSome_none Option.isSome_some Aw.bkM_nil Option.getD_some Option.getD_none Nat.sub_zero Int.toNat_zero Aw.frzS Aw.frzT Aw.frzA Aw.frzL Aw.frzR Aw.frzO Aw.frzOL Aw.frzOT Aw.frzOR Aw.killS Aw.mapT Aw.mapR Aw.killM Aw.resAVs Aw.resAV Aw.quietOps Aw.wpP Aw.wpT Aw.wpS Aw.AOp.mild List.getElem?_cons_zero List.getElem?_cons_succ Bool.and_false Bool.and_self Bool.false_and Aw.opOb Aw.gdB Aw.Rnd Aw.subTm List.length_map Int.toNat_natCast and_self Aw.SeqC Aw.stops Aw.Ends Aw.looks Aw.renA Aw.renL Aw.renT Aw.renS Aw.wpO Aw.aop Aw.putTm Aw.St.ev Aw.St.put Aw.St.putO Aw.binAV Aw.intBin Aw.strBin Aw.pickAV Aw.optInt Aw.AV.strip Aw.AV.guard Aw.AV.cells Aw.gdOb Aw.AOp.opds Aw.AOp.still Aw.ptrCells Aw.St.reg Aw.fillAV Aw.fillOb Aw.elsOb Aw.splice Aw.firm Aw.cellish Aw.AV.shut Aw.shutAll Aw.Seq Aw.Blk Aw.retS_nil Aw.mapA Aw.mapL Aw.borA Aw.borOb Aw.allOb Aw.tupOf Aw.params Aw.Opd.of Array.toList Value.cells List.map_cons List.map_nil List.getD_cons_zero List.getD_cons_succ List.getD_nil List.length_cons List.length_nil List.take_succ_cons List.take_zero List.take_nil List.drop_zero List.drop_succ_cons List.drop_nil List.set_cons_zero List.set_cons_succ List.append_nil List.nil_append List.cons_append List.all_cons List.all_nil cond_false cond_true if_true if_false true_and and_true Bool.and_true Bool.true_and Option.map_some Option.map_none false_implies forall_const implies_true forall_eq imp_self Bool.cond_false_right Bool.cond_true_left beq_true beq_false Bool.not_eq_true' Bool.false_eq_true Nat.zero_add Nat.add_zero Aw.eqCells Aw.stopDraw Aw.skipS Aw.exactCap Aw.revealS Aw.srcEls Aw.srcSz
attribute [local go_sem ↓] Aw.look_nil Aw.look_ite Aw.wpL_nil Aw.wpL_op Aw.wpL_gd Aw.wpQ_nil Aw.wpQ_op Aw.wpQ_gd Aw.wpC_draw Aw.wpC_reg Aw.wpC_skip Aw.wpC_ret Aw.wpC_exit Aw.wpC_seq Aw.wpC_block Aw.wpC_loop Aw.wpC_cond Aw.stopAt_nil Aw.stopAt_cons Aw.wpD_skip Aw.wpD_ret Aw.wpD_exit Aw.wpD_region Aw.wpD_draw Aw.wpM_nil Aw.wpM_op Aw.wpM_gd Aw.wpD_seq Aw.wpD_block Aw.wpD_loop Aw.wpD_cond
/- gridhall/gridhallkeep4.consoleFact -/
def a7 : ACode :=
  (.seq (.region false [] [
     ⟨(some 0), none, (.mov (.v (.bool false)))⟩])
  (.seq (.region false [] [
     ⟨(some 4), none, (.call 6 [(.v (.string ⟨#[108, 111, 97, 100, 32, 76, 49, 32, 50, 48]⟩))])⟩,
     ⟨(some 3), none, (.mov (.t 4))⟩,
     ⟨(some 5), none, (.ext 0 (.t 3))⟩,
     ⟨(some 6), none, (.ext 1 (.t 3))⟩,
     ⟨(some 1), none, (.alloc 23 (.agg #[(.string ⟨#[]⟩), (.string ⟨#[]⟩), (.int .i64 0)]))⟩,
     ⟨none, none, (.store 3 (.t 1) (.t 5))⟩,
     ⟨(some 2), none, (.mov (.t 6))⟩])
  (.seq (.region false [] [
     ⟨(some 7), none, (.mov (.t 2))⟩,
     ⟨(some 8), none, (.bin .eql 24 (.t 7) (.v (.int .i64 0)))⟩,
     ⟨(some 9), none, (.mov (.t 8))⟩,
     ⟨(some 10), (some (9, true)), (.load 3 true (.t 1))⟩,
     ⟨(some 11), (some (9, true)), (.build (.agg #[(.string ⟨#[]⟩), (.string ⟨#[]⟩), (.int .i64 0)]) [(0, (1, (.v (.string ⟨#[108, 111, 97, 100]⟩)))), (1, (1, (.v (.string ⟨#[76, 49]⟩)))), (2, (1, (.v (.int .i64 20))))])⟩,
     ⟨(some 12), (some (9, true)), (.aeq false [.s, .s, .i] (.t 10) (.t 11))⟩,
     ⟨(some 13), none, (.pick (.t 9) (.t 12) (.v (.bool false)))⟩,
     ⟨(some 0), none, (.mov (.t 13))⟩])
  .ret)))
theorem k7 : FnIs Tryd.prog 7 14 [.t 0] a7 := ⟨_, _, Tryd.func7, rfl, by kernel_rfl, by kernel_rfl, rfl⟩
/- gridhall/gridhallkeep4.ConsoleBack -/
def a3 : ACode :=
  (.seq (.region false [] [
     ⟨(some 2), none, (.box 23 (.t 0))⟩,
     ⟨(some 4), none, (.mov (.v (.bool false)))⟩])
  (.seq (.region false [] [
     ⟨(some 14), none, (.load 3 true (.t 2))⟩,
     ⟨(some 15), none, (.call 5 [(.t 14)])⟩,
     ⟨(some 13), none, (.mov (.t 15))⟩,
     ⟨(some 16), none, (.ext 0 (.t 13))⟩,
     ⟨(some 17), none, (.ext 1 (.t 13))⟩,
     ⟨(some 5), none, (.mov (.t 16))⟩,
     ⟨(some 6), none, (.mov (.t 17))⟩])
  (.seq (.seq (.region false [] [
     ⟨(some 18), none, (.mov (.t 6))⟩,
     ⟨(some 19), none, (.bin .eql 24 (.t 18) (.v (.int .i64 0)))⟩])
  (.cond (.t 19)
    (.seq (.region false [] [
       ⟨(some 21), none, (.mov (.t 5))⟩,
       ⟨(some 22), none, (.call 6 [(.t 21)])⟩,
       ⟨(some 20), none, (.mov (.t 22))⟩,
       ⟨(some 23), none, (.ext 0 (.t 20))⟩,
       ⟨(some 24), none, (.ext 1 (.t 20))⟩,
       ⟨(some 7), none, (.alloc 23 (.agg #[(.string ⟨#[]⟩), (.string ⟨#[]⟩), (.int .i64 0)]))⟩,
       ⟨none, none, (.store 3 (.t 7) (.t 23))⟩,
       ⟨(some 8), none, (.mov (.t 24))⟩])
    (.seq (.region false [] [
       ⟨(some 25), none, (.mov (.t 8))⟩,
       ⟨(some 26), none, (.bin .neq 24 (.t 25) (.v (.int .i64 0)))⟩,
       ⟨(some 27), none, (.mov (.t 26))⟩,
       ⟨(some 28), (some (27, false)), (.load 3 true (.t 7))⟩,
       ⟨(some 29), (some (27, false)), (.load 3 true (.t 2))⟩,
       ⟨(some 30), (some (27, false)), (.aeq true [.s, .s, .i] (.t 28) (.t 29))⟩,
       ⟨(some 31), none, (.pick (.t 27) (.v (.bool true)) (.t 30))⟩])
    (.cond (.t 31)
      (.seq (.region false [] [
         ⟨(some 4), none, (.mov (.v (.bool false)))⟩])
      .ret)
      .skip)))
    .skip))
  (.seq (.region false [] [
     ⟨(some 33), none, (.mov (.t 1))⟩,
     ⟨(some 34), none, (.call 6 [(.t 33)])⟩,
     ⟨(some 32), none, (.mov (.t 34))⟩,
     ⟨(some 35), none, (.ext 0 (.t 32))⟩,
     ⟨(some 36), none, (.ext 1 (.t 32))⟩,
     ⟨(some 9), none, (.alloc 23 (.agg #[(.string ⟨#[]⟩), (.string ⟨#[]⟩), (.int .i64 0)]))⟩,
     ⟨none, none, (.store 3 (.t 9) (.t 35))⟩,
     ⟨(some 10), none, (.mov (.t 36))⟩])
  (.seq (.seq (.region false [] [
     ⟨(some 37), none, (.mov (.t 10))⟩,
     ⟨(some 38), none, (.bin .neq 24 (.t 37) (.v (.int .i64 0)))⟩])
  (.cond (.t 38)
    (.seq (.region false [] [
       ⟨(some 39), none, (.call 7 [])⟩,
       ⟨(some 40), none, (.mov (.t 39))⟩,
       ⟨(some 41), (some (40, true)), (.mov (.t 6))⟩,
       ⟨(some 42), (some (40, true)), (.load 3 true (.t 2))⟩,
       ⟨(some 43), (some (40, true)), (.call 8 [(.t 42)])⟩,
       ⟨(some 44), (some (40, true)), (.bin .eql 24 (.t 41) (.t 43))⟩,
       ⟨(some 45), none, (.pick (.t 40) (.t 44) (.v (.bool false)))⟩,
       ⟨(some 46), none, (.mov (.t 45))⟩,
       ⟨(some 47), (some (46, true)), (.load 3 true (.t 9))⟩,
       ⟨(some 48), (some (46, true)), (.build (.agg #[(.string ⟨#[]⟩), (.string ⟨#[]⟩), (.int .i64 0)]) [])⟩,
       ⟨(some 49), (some (46, true)), (.aeq false [.s, .s, .i] (.t 47) (.t 48))⟩,
       ⟨(some 50), none, (.pick (.t 46) (.t 49) (.v (.bool false)))⟩,
       ⟨(some 4), none, (.mov (.t 50))⟩])
    .ret)
    .skip))
  (.seq (.region false [] [
     ⟨(some 52), none, (.load 3 true (.t 9))⟩,
     ⟨(some 53), none, (.call 5 [(.t 52)])⟩,
     ⟨(some 51), none, (.mov (.t 53))⟩,
     ⟨(some 54), none, (.ext 0 (.t 51))⟩,
     ⟨(some 55), none, (.ext 1 (.t 51))⟩,
     ⟨(some 11), none, (.mov (.t 54))⟩,
     ⟨(some 12), none, (.mov (.t 55))⟩])
  (.seq (.region false [] [
     ⟨(some 56), none, (.call 7 [])⟩,
     ⟨(some 57), none, (.mov (.t 56))⟩,
     ⟨(some 58), (some (57, true)), (.mov (.t 12))⟩,
     ⟨(some 59), (some (57, true)), (.bin .eql 24 (.t 58) (.v (.int .i64 0)))⟩,
     ⟨(some 60), none, (.pick (.t 57) (.t 59) (.v (.bool false)))⟩,
     ⟨(some 61), none, (.mov (.t 60))⟩,
     ⟨(some 62), (some (61, true)), (.mov (.t 11))⟩,
     ⟨(some 63), (some (61, true)), (.mov (.t 1))⟩,
     ⟨(some 64), (some (61, true)), (.bin .eql 9 (.t 62) (.t 63))⟩,
     ⟨(some 65), none, (.pick (.t 61) (.t 64) (.v (.bool false)))⟩,
     ⟨(some 4), none, (.mov (.t 65))⟩])
  .ret)))))))
theorem k3 : FnIs Tryd.prog 3 66 [.t 4] a3 := ⟨_, _, Tryd.func3, rfl, by kernel_rfl, by kernel_rfl, rfl⟩

def exC : Cmd := ⟨⟨#[108, 111, 97, 100]⟩, ⟨#[76, 49]⟩, 20⟩
theorem ex_parse : parseF ⟨#[108, 111, 97, 100, 32, 76, 49, 32, 50, 48]⟩ = (exC, 0) := by
  have h : checkF exC = 0 := by decide +kernel
  have h2 := print_parse h
  have h3 : textF (findV exC.verb).1 exC = ⟨#[108, 111, 97, 100, 32, 76, 49, 32, 50, 48]⟩ := by decide +kernel
  rw [h3] at h2
  exact h2
theorem s7 {Γ : List (Nat × Array Value)} {e1 e2 : Value} (hP : powT ∈ Γ) (hE : Errs Γ e1 e2) : Aw.SpecG Γ Tryd.prog 7 [] [] (Gives (· = B true)) := by
  refine SpecG.shut (Post := fun rg v => v = B true) ?_ fun rg v h => by subst h; exact ⟨rfl, rfl, rfl⟩
  refine Aw.SpecG.regsW k7 rfl rfl fun E hn hnp hp hT => ?_
  unfold a7
  have pin : ∀ r, E.pin r = none := fun r => hp.none hnp (Nat.zero_le _)
  refine AWp.ofD [] [] hn mixed rfl ?_
  have hpa := s6 hP hE ⟨#[108, 111, 97, 100, 32, 76, 49, 32, 50, 48]⟩ (by decide)
  rw [ex_parse] at hpa
  simp (config := { maxSteps := 2000000 }) only [go_sem, ↓reduceIte, Int.reduceToNat, Nat.reduceMul, Int.reduceBEq, Int.reduceBNe, Nat.reduceBEq, Nat.reduceAdd, Nat.reduceSub, Nat.reduceLeDiff, Nat.reduceEqDiff, Nat.reduceLT, reduceCtorEq]
  refine AWpL.calleT (SpecG.at hpa hT) rfl (by rw [hn]; rfl) (by simp (config := { maxSteps := 2000000 }) only [go_sem, ↓reduceIte, Int.reduceToNat, Nat.reduceMul, Int.reduceBEq, Int.reduceBNe, Nat.reduceBEq, Nat.reduceAdd, Nat.reduceSub, Nat.reduceLeDiff, Nat.reduceEqDiff, Nat.reduceLT, reduceCtorEq]) (AWpL.ofM hn rfl ?_)
  unfold exC
  simp (config := { maxSteps := 2000000 }) only [go_sem, ↓reduceIte, Int.reduceToNat, Nat.reduceMul, Int.reduceBEq, Int.reduceBNe, Nat.reduceBEq, Nat.reduceAdd, Nat.reduceSub, Nat.reduceLeDiff, Nat.reduceEqDiff, Nat.reduceLT, reduceCtorEq]
  refine Retn.ret (π := []) hp hnp ⟨rfl, ?_⟩
  simp (config := { maxSteps := 2000000 }) only [go_sem, ↓reduceIte, Int.reduceToNat, Nat.reduceMul, Int.reduceBEq, Int.reduceBNe, Nat.reduceBEq, Nat.reduceAdd, Nat.reduceSub, Nat.reduceLeDiff, Nat.reduceEqDiff, Nat.reduceLT, reduceCtorEq, Aw.renR, Aw.pos]
theorem check_name {c : Cmd} (h : checkF c = 0) : c.name.size ≤ 8 := by
  obtain ⟨h1, h2, h3, _⟩ := check_of h
  cases hn : (findV c.verb).1.named with
  | true =>
    have := h2 hn
    unfold nm at this
    simp only [Bool.and_eq_true, decide_eq_true_eq] at this
    omega
  | false => rw [h3 hn]; decide
theorem print_name {c : Cmd} {s : ByteArray} (h : printF c = (s, 0)) : c.name.size ≤ 8 := by
  unfold printF at h
  split at h
  · rename_i hc; exact check_name hc
  · rename_i hc; exact absurd (congrArg (·.2) h) hc
set_option maxRecDepth 20000 in
set_option maxHeartbeats 1000000 in
theorem s3 {Γ : List (Nat × Array Value)} {e1 e2 : Value} (hP : powT ∈ Γ) (hE : Errs Γ e1 e2) (c : Cmd) (s : ByteArray) (hc : c.name.size ≤ 9223372036854775807) (hs : s.size ≤ 9223372036854775807) :
    Aw.SpecG Γ Tryd.prog 3 [] [.agg (cc c), S s] (Gives (· = B true)) := by
  refine SpecG.shut (Post := fun rg v => v = B true) ?_ fun rg v h => by subst h; exact ⟨rfl, rfl, rfl⟩
  refine Aw.SpecG.regsW k3 rfl rfl fun E hn hnp hp hT => ?_
  unfold a3
  have pin : ∀ r, E.pin r = none := fun r => hp.none hnp (Nat.zero_le _)
  refine AWp.ofD [999] [19] hn mixed rfl ?_
  simp (config := { maxSteps := 2000000 }) only [go_sem, ↓reduceIte, Int.reduceToNat, Nat.reduceMul, Int.reduceBEq, Int.reduceBNe, Nat.reduceBEq, Nat.reduceAdd, Nat.reduceSub, Nat.reduceLeDiff, Nat.reduceEqDiff, Nat.reduceLT, reduceCtorEq]
  (refine AWpL.calleT (SpecG.at (s5 hP c hc) hT) rfl (by rw [hn]; rfl) (by simp (config := { maxSteps := 2000000 }) only [go_sem, ↓reduceIte, Int.reduceToNat, Nat.reduceMul, Int.reduceBEq, Int.reduceBNe, Nat.reduceBEq, Nat.reduceAdd, Nat.reduceSub, Nat.reduceLeDiff, Nat.reduceEqDiff, Nat.reduceLT, reduceCtorEq]) (AWpL.ofM hn rfl ?_); simp (config := { maxSteps := 2000000 }) only [go_sem, ↓reduceIte, Int.reduceToNat, Nat.reduceMul, Int.reduceBEq, Int.reduceBNe, Nat.reduceBEq, Nat.reduceAdd, Nat.reduceSub, Nat.reduceLeDiff, Nat.reduceEqDiff, Nat.reduceLT, reduceCtorEq])
  have hpr : (printF c).2 = checkF c := by
    unfold printF
    split
    · rename_i h; exact h.symm
    · rfl
  refine AWp.cut ⟨[(2, .ptr 0 0 0), (1, S s), (4, B false), (6, I (checkF c))], [.box 23 (cc c)]⟩ ?_ ?_
  · rw [hpr]
    refine AWp.ofD [] [] hn mixed rfl ?_
    by_cases h : checkF c = 0
    · have e0 : (checkF c == 0) = true := by rw [h]; rfl
      have hpf : printF c = (textF (findV c.verb).1 c, 0) := by unfold printF; rw [if_pos h]
      have hz := text_size h
      have hpa := s6 hP hE (textF (findV c.verb).1 c) (by omega)
      rw [print_parse h] at hpa
      rw [hpf]
      generalize textF (findV c.verb).1 c = T at *
      simp (config := { maxSteps := 2000000 }) only [go_sem, ↓reduceIte, Int.reduceToNat, Nat.reduceMul, Int.reduceBEq, Int.reduceBNe, Nat.reduceBEq, Nat.reduceAdd, Nat.reduceSub, Nat.reduceLeDiff, Nat.reduceEqDiff, Nat.reduceLT, reduceCtorEq, e0]
      refine AWpL.calleT (SpecG.at hpa hT) rfl (by rw [hn]; rfl) (by simp (config := { maxSteps := 2000000 }) only [go_sem, ↓reduceIte, Int.reduceToNat, Nat.reduceMul, Int.reduceBEq, Int.reduceBNe, Nat.reduceBEq, Nat.reduceAdd, Nat.reduceSub, Nat.reduceLeDiff, Nat.reduceEqDiff, Nat.reduceLT, reduceCtorEq]) (AWpL.ofM hn rfl ?_)
      simp (config := { maxSteps := 2000000 }) only [go_sem, ↓reduceIte, Int.reduceToNat, Nat.reduceMul, Int.reduceBEq, Int.reduceBNe, Nat.reduceBEq, Nat.reduceAdd, Nat.reduceSub, Nat.reduceLeDiff, Nat.reduceEqDiff, Nat.reduceLT, reduceCtorEq, beq_self_eq_true]
      exact weak_to [0] hp hnp rfl (by simp (config := { maxSteps := 2000000 }) only [go_sem, ↓reduceIte, Int.reduceToNat, Nat.reduceMul, Int.reduceBEq, Int.reduceBNe, Nat.reduceBEq, Nat.reduceAdd, Nat.reduceSub, Nat.reduceLeDiff, Nat.reduceEqDiff, Nat.reduceLT, reduceCtorEq, Aw.pos] <;> rfl) (by simp (config := { maxSteps := 2000000 }) only [go_sem, ↓reduceIte, Int.reduceToNat, Nat.reduceMul, Int.reduceBEq, Int.reduceBNe, Nat.reduceBEq, Nat.reduceAdd, Nat.reduceSub, Nat.reduceLeDiff, Nat.reduceEqDiff, Nat.reduceLT, reduceCtorEq, Aw.renR, Aw.pos] <;> rfl)
    · have e0 : (checkF c == 0) = false := by rw [beq_eq_false_iff_ne]; exact h
      simp (config := { maxSteps := 2000000 }) only [go_sem, ↓reduceIte, Int.reduceToNat, Nat.reduceMul, Int.reduceBEq, Int.reduceBNe, Nat.reduceBEq, Nat.reduceAdd, Nat.reduceSub, Nat.reduceLeDiff, Nat.reduceEqDiff, Nat.reduceLT, reduceCtorEq, e0]
      exact weak_tm (by simp (config := { maxSteps := 2000000 }) only [go_sem, ↓reduceIte, Int.reduceToNat, Nat.reduceMul, Int.reduceBEq, Int.reduceBNe, Nat.reduceBEq, Nat.reduceAdd, Nat.reduceSub, Nat.reduceLeDiff, Nat.reduceEqDiff, Nat.reduceLT, reduceCtorEq])
  · simp (config := { maxSteps := 2000000 }) only [go_sem, ↓reduceIte, Int.reduceToNat, Nat.reduceMul, Int.reduceBEq, Int.reduceBNe, Nat.reduceBEq, Nat.reduceAdd, Nat.reduceSub, Nat.reduceLeDiff, Nat.reduceEqDiff, Nat.reduceLT, reduceCtorEq]
    refine AWpL.calleT (SpecG.at (s6 hP hE s hs) hT) rfl (by rw [hn]; rfl) (by simp (config := { maxSteps := 2000000 }) only [go_sem, ↓reduceIte, Int.reduceToNat, Nat.reduceMul, Int.reduceBEq, Int.reduceBNe, Nat.reduceBEq, Nat.reduceAdd, Nat.reduceSub, Nat.reduceLeDiff, Nat.reduceEqDiff, Nat.reduceLT, reduceCtorEq]) (AWpL.ofM hn rfl ?_)
    cases hpp : parseF s with
    | mk d f =>
      simp (config := { maxSteps := 2000000 }) only [go_sem, ↓reduceIte, Int.reduceToNat, Nat.reduceMul, Int.reduceBEq, Int.reduceBNe, Nat.reduceBEq, Nat.reduceAdd, Nat.reduceSub, Nat.reduceLeDiff, Nat.reduceEqDiff, Nat.reduceLT, reduceCtorEq]
      refine ⟨fun h => ?_, fun h => ?_⟩
      · have hd := parse_err hpp (by simpa using h)
        subst hd
        unfold cz
        (refine AWpL.calleT (SpecG.at (s7 hP hE) hT) rfl (by rw [hn]; rfl) (by simp (config := { maxSteps := 2000000 }) only [go_sem, ↓reduceIte, Int.reduceToNat, Nat.reduceMul, Int.reduceBEq, Int.reduceBNe, Nat.reduceBEq, Nat.reduceAdd, Nat.reduceSub, Nat.reduceLeDiff, Nat.reduceEqDiff, Nat.reduceLT, reduceCtorEq]) (AWpL.ofM hn rfl ?_); simp (config := { maxSteps := 2000000 }) only [go_sem, ↓reduceIte, Int.reduceToNat, Nat.reduceMul, Int.reduceBEq, Int.reduceBNe, Nat.reduceBEq, Nat.reduceAdd, Nat.reduceSub, Nat.reduceLeDiff, Nat.reduceEqDiff, Nat.reduceLT, reduceCtorEq])
        refine AWpL.gcalleT (y := I (checkF c)) (b := true) rfl (fun _ => by simp (config := { maxSteps := 2000000 }) only [go_sem, ↓reduceIte, Int.reduceToNat, Nat.reduceMul, Int.reduceBEq, Int.reduceBNe, Nat.reduceBEq, Nat.reduceAdd, Nat.reduceSub, Nat.reduceLeDiff, Nat.reduceEqDiff, Nat.reduceLT, reduceCtorEq]; exact SpecG.at (Spec.g (Γ := Γ) (s8 c hc)) hT) rfl (by rw [hn]; rfl) (fun _ => by simp (config := { maxSteps := 2000000 }) only [go_sem, ↓reduceIte, Int.reduceToNat, Nat.reduceMul, Int.reduceBEq, Int.reduceBNe, Nat.reduceBEq, Nat.reduceAdd, Nat.reduceSub, Nat.reduceLeDiff, Nat.reduceEqDiff, Nat.reduceLT, reduceCtorEq]) (AWpL.ofM hn rfl ?_)
        simp (config := { maxSteps := 2000000 }) only [go_sem, ↓reduceIte, Int.reduceToNat, Nat.reduceMul, Int.reduceBEq, Int.reduceBNe, Nat.reduceBEq, Nat.reduceAdd, Nat.reduceSub, Nat.reduceLeDiff, Nat.reduceEqDiff, Nat.reduceLT, reduceCtorEq, beq_self_eq_true]
        refine Retn.ret (π := []) hp hnp ⟨rfl, ?_⟩
        simp (config := { maxSteps := 2000000 }) only [go_sem, ↓reduceIte, Int.reduceToNat, Nat.reduceMul, Int.reduceBEq, Int.reduceBNe, Nat.reduceBEq, Nat.reduceAdd, Nat.reduceSub, Nat.reduceLeDiff, Nat.reduceEqDiff, Nat.reduceLT, reduceCtorEq, Aw.renR, Aw.pos]
      · have hf : f = 0 := by simpa using h
        subst hf
        have hpp2 := parse_print hpp
        have hd8 := print_name hpp2
        have hq := s5 (Γ := Γ) hP d (by omega)
        rw [hpp2] at hq
        refine AWpL.calleT (SpecG.at hq hT) rfl (by rw [hn]; rfl) (by simp (config := { maxSteps := 2000000 }) only [go_sem, ↓reduceIte, Int.reduceToNat, Nat.reduceMul, Int.reduceBEq, Int.reduceBNe, Nat.reduceBEq, Nat.reduceAdd, Nat.reduceSub, Nat.reduceLeDiff, Nat.reduceEqDiff, Nat.reduceLT, reduceCtorEq]) (AWpL.ofM hn rfl ?_)
        simp (config := { maxSteps := 2000000 }) only [go_sem, ↓reduceIte, Int.reduceToNat, Nat.reduceMul, Int.reduceBEq, Int.reduceBNe, Nat.reduceBEq, Nat.reduceAdd, Nat.reduceSub, Nat.reduceLeDiff, Nat.reduceEqDiff, Nat.reduceLT, reduceCtorEq]
        (refine AWpL.calleT (SpecG.at (s7 hP hE) hT) rfl (by rw [hn]; rfl) (by simp (config := { maxSteps := 2000000 }) only [go_sem, ↓reduceIte, Int.reduceToNat, Nat.reduceMul, Int.reduceBEq, Int.reduceBNe, Nat.reduceBEq, Nat.reduceAdd, Nat.reduceSub, Nat.reduceLeDiff, Nat.reduceEqDiff, Nat.reduceLT, reduceCtorEq]) (AWpL.ofM hn rfl ?_); simp (config := { maxSteps := 2000000 }) only [go_sem, ↓reduceIte, Int.reduceToNat, Nat.reduceMul, Int.reduceBEq, Int.reduceBNe, Nat.reduceBEq, Nat.reduceAdd, Nat.reduceSub, Nat.reduceLeDiff, Nat.reduceEqDiff, Nat.reduceLT, reduceCtorEq])
        refine Retn.ret (π := []) hp hnp ⟨rfl, ?_⟩
        simp (config := { maxSteps := 2000000 }) only [go_sem, ↓reduceIte, Int.reduceToNat, Nat.reduceMul, Int.reduceBEq, Int.reduceBNe, Nat.reduceBEq, Nat.reduceAdd, Nat.reduceSub, Nat.reduceLeDiff, Nat.reduceEqDiff, Nat.reduceLT, reduceCtorEq, Aw.renR, Aw.pos]
end Go.Proofs.YtipknphidkdpiaaDoor
