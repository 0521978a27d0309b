/- Archives: the law of the recovered archive that goes on. -/
import Derived.Test.YtemgclhenkbikaaDoorAwZl
import Derived.Test.YtemgclhenkbikaaDoorArQ
import Derived.Test.YtemgclhenkbikaaDoorArK
set_option linter.unusedVariables false
set_option linter.unusedSimpArgs false
namespace Go.Proofs.YtemgclhenkbikaaDoor
open Go.Proofs.YtemgclhenkbikaaDoor.Aw
attribute [local go_sem] Int.natCast_zero Int.natCast_one bne_self_eq_false beq_self_eq_true Bool.not_true Bool.not_false Option.isSome_none Option.isSome_some Aw.bkM_nil Option.getD_some Option.getD_none Nat.sub_zero Int.toNat_zero Aw.frzS Aw.frzT Aw.frzA Aw.frzL Aw.frzR Aw.frzO Aw.frzOL Aw.frzOT Aw.frzOR Aw.killS Aw.mapT Aw.mapR Aw.killM Aw.resAVs Aw.resAV Aw.quietOps Aw.wpP Aw.wpT Aw.wpS Aw.AOp.mild List.getElem?_cons_zero List.getElem?_cons_succ Bool.and_false Bool.and_self Bool.false_and Aw.opOb Aw.gdB Aw.Rnd Aw.subTm List.length_map Int.toNat_natCast and_self Aw.SeqC Aw.stops Aw.Ends Aw.looks Aw.renA Aw.renL Aw.renT Aw.renS Aw.wpO Aw.aop Aw.putTm Aw.St.ev Aw.St.put Aw.St.putO Aw.binAV Aw.intBin Aw.strBin Aw.pickAV Aw.optInt Aw.AV.strip Aw.AV.guard Aw.AV.cells Aw.gdOb Aw.AOp.opds Aw.AOp.still Aw.ptrCells Aw.St.reg Aw.fillAV Aw.fillOb Aw.elsOb Aw.splice Aw.firm Aw.cellish Aw.AV.shut Aw.shutAll Aw.Seq Aw.Blk Aw.retS_nil Aw.mapA Aw.mapL Aw.borA Aw.borOb Aw.allOb Aw.tupOf Aw.params Aw.Opd.of Array.toList Value.cells List.map_cons List.map_nil List.getD_cons_zero List.getD_cons_succ List.getD_nil List.length_cons List.length_nil List.take_succ_cons List.take_zero List.take_nil List.drop_zero List.drop_succ_cons List.drop_nil List.set_cons_zero List.set_cons_succ List.append_nil List.nil_append List.cons_append List.all_cons List.all_nil cond_false cond_true if_true if_false true_and and_true Bool.and_true Bool.true_and Option.map_some Option.map_none false_implies forall_const implies_true forall_eq imp_self Bool.cond_false_right Bool.cond_true_left beq_true beq_false Bool.not_eq_true' Bool.false_eq_true Nat.zero_add Nat.add_zero Aw.eqCells Aw.stopDraw Aw.skipS Aw.exactCap Aw.revealS Aw.srcEls Aw.srcSz
attribute [local go_sem ↓] Aw.look_nil Aw.look_ite Aw.wpL_nil Aw.wpL_op Aw.wpL_gd Aw.wpQ_nil Aw.wpQ_op Aw.wpQ_gd Aw.wpC_draw Aw.wpC_reg Aw.wpC_skip Aw.wpC_ret Aw.wpC_exit Aw.wpC_seq Aw.wpC_block Aw.wpC_loop Aw.wpC_cond Aw.stopAt_nil Aw.stopAt_cons Aw.wpD_skip Aw.wpD_ret Aw.wpD_exit Aw.wpD_region Aw.wpD_draw Aw.wpM_nil Aw.wpM_op Aw.wpM_gd Aw.wpD_seq Aw.wpD_block Aw.wpD_loop Aw.wpD_cond
/- (*gridhall/archive.Archive).Digest -/
def a19 : ACode :=
  (.seq (.region false [] [
     ⟨(some 2), none, (.mov (.v (.int .u64 0)))⟩])
  (.seq (.region false [] [
     ⟨(some 3), none, (.mov (.t 0))⟩,
     ⟨(some 4), none, (.nilc (.t 3))⟩,
     ⟨(some 5), none, (.fld 2 (.t 4))⟩,
     ⟨(some 6), none, (.load 1 false (.t 5))⟩,
     ⟨(some 2), none, (.mov (.t 6))⟩])
  .ret))
theorem k19 : FnIs Tryd.prog 19 7 [.t 2] a19 := ⟨_, _, Tryd.func19, rfl, by kernel_rfl, by kernel_rfl, rfl⟩
/- gridhall/gridhallkeep4.ArchiveContinues -/
def a4 : ACode :=
  (.seq (.region false [] [
     ⟨(some 3), none, (.box 30 (.t 1))⟩,
     ⟨(some 4), none, (.mov (.v (.bool false)))⟩])
  (.seq (.region false [] [
     ⟨(some 13), none, (.mov (.t 0))⟩,
     ⟨(some 14), none, (.call 7 [(.t 13)])⟩,
     ⟨(some 5), none, (.mov (.t 14))⟩])
  (.seq (.seq (.region false [] [
     ⟨(some 15), none, (.mov (.t 5))⟩,
     ⟨(some 16), none, (.nilP false (.t 15))⟩,
     ⟨(some 17), none, (.mov (.t 16))⟩,
     ⟨(some 18), (some (17, false)), (.call 8 [])⟩,
     ⟨(some 19), (some (17, false)), (.un .not (.t 18))⟩,
     ⟨(some 20), none, (.pick (.t 17) (.v (.bool true)) (.t 19))⟩])
  (.cond (.t 20)
    (.seq (.region false [] [
       ⟨(some 4), none, (.mov (.v (.bool false)))⟩])
    .ret)
    .skip))
  (.seq (.region false [] [
     ⟨(some 22), none, (.mov (.t 5))⟩,
     ⟨(some 23), none, (.call 17 [(.t 22)])⟩,
     ⟨(some 24), none, (.call 16 [(.t 23)])⟩,
     ⟨(some 21), none, (.mov (.t 24))⟩,
     ⟨(some 25), none, (.ext 0 (.t 21))⟩,
     ⟨(some 26), none, (.ext 1 (.t 21))⟩,
     ⟨(some 27), none, (.ext 2 (.t 21))⟩,
     ⟨(some 6), none, (.mov (.t 25))⟩,
     ⟨(some 7), none, (.mov (.t 26))⟩,
     ⟨(some 8), none, (.mov (.t 27))⟩])
  (.seq (.seq (.region false [] [
     ⟨(some 28), none, (.mov (.t 8))⟩,
     ⟨(some 29), none, (.bin .neq 36 (.t 28) (.v (.int .i64 0)))⟩,
     ⟨(some 30), none, (.mov (.t 29))⟩,
     ⟨(some 31), (some (30, false)), (.mov (.t 6))⟩,
     ⟨(some 32), (some (30, false)), (.nilP false (.t 31))⟩,
     ⟨(some 33), none, (.pick (.t 30) (.v (.bool true)) (.t 32))⟩])
  (.cond (.t 33)
    (.seq (.region false [] [
       ⟨(some 4), none, (.mov (.v (.bool false)))⟩])
    .ret)
    .skip))
  (.seq (.region false [] [
     ⟨(some 35), none, (.mov (.t 5))⟩,
     ⟨(some 36), none, (.load 4 true (.t 3))⟩,
     ⟨(some 37), none, (.call 18 [(.t 35), (.t 36)])⟩,
     ⟨(some 34), none, (.mov (.t 37))⟩,
     ⟨(some 38), none, (.ext 0 (.t 34))⟩,
     ⟨(some 39), none, (.ext 1 (.t 34))⟩,
     ⟨(some 9), none, (.mov (.t 38))⟩,
     ⟨(some 10), none, (.mov (.t 39))⟩])
  (.seq (.region false [] [
     ⟨(some 41), none, (.mov (.t 6))⟩,
     ⟨(some 42), none, (.load 4 true (.t 3))⟩,
     ⟨(some 43), none, (.call 18 [(.t 41), (.t 42)])⟩,
     ⟨(some 40), none, (.mov (.t 43))⟩,
     ⟨(some 44), none, (.ext 0 (.t 40))⟩,
     ⟨(some 45), none, (.ext 1 (.t 40))⟩,
     ⟨(some 11), none, (.mov (.t 44))⟩,
     ⟨(some 12), none, (.mov (.t 45))⟩])
  (.seq (.region false [] [
     ⟨(some 46), none, (.mov (.t 9))⟩,
     ⟨(some 47), none, (.mov (.t 11))⟩,
     ⟨(some 48), none, (.bin .eql 3 (.t 46) (.t 47))⟩,
     ⟨(some 49), none, (.mov (.t 48))⟩,
     ⟨(some 50), (some (49, true)), (.mov (.t 10))⟩,
     ⟨(some 51), (some (49, true)), (.mov (.t 12))⟩,
     ⟨(some 52), (some (49, true)), (.bin .eql 36 (.t 50) (.t 51))⟩,
     ⟨(some 53), none, (.pick (.t 49) (.t 52) (.v (.bool false)))⟩,
     ⟨(some 54), none, (.mov (.t 53))⟩,
     ⟨(some 55), (some (54, true)), (.mov (.t 5))⟩,
     ⟨(some 56), (some (54, true)), (.call 17 [(.t 55)])⟩,
     ⟨(some 57), (some (54, true)), (.mov (.t 6))⟩,
     ⟨(some 58), (some (54, true)), (.call 17 [(.t 57)])⟩,
     ⟨(some 59), (some (54, true)), (.bin .eql 9 (.t 56) (.t 58))⟩,
     ⟨(some 60), none, (.pick (.t 54) (.t 59) (.v (.bool false)))⟩,
     ⟨(some 61), none, (.mov (.t 60))⟩,
     ⟨(some 62), (some (61, true)), (.mov (.t 5))⟩,
     ⟨(some 63), (some (61, true)), (.call 19 [(.t 62)])⟩,
     ⟨(some 64), (some (61, true)), (.mov (.t 6))⟩,
     ⟨(some 65), (some (61, true)), (.call 19 [(.t 64)])⟩,
     ⟨(some 66), (some (61, true)), (.bin .eql 42 (.t 63) (.t 65))⟩,
     ⟨(some 67), none, (.pick (.t 61) (.t 66) (.v (.bool false)))⟩,
     ⟨(some 4), none, (.mov (.t 67))⟩])
  .ret))))))))
theorem k4 : FnIs Tryd.prog 4 68 [.t 4] a4 := ⟨_, _, Tryd.func4, rfl, by kernel_rfl, by kernel_rfl, rfl⟩

theorem s19 (a : Ar) : Aw.Spec Tryd.prog 19 [] [arA a] (Gives (· = .val (.int .u64 a.dig))) := by
  refine Aw.Spec.givesD k19 mixed rfl rfl rfl fun E hn hnp hp => ?_
  unfold a19
  simp (config := { maxSteps := 2000000 }) only [go_sem, ↓reduceIte, Int.reduceToNat, Nat.reduceMul, Int.reduceBEq, Int.reduceBNe, Nat.reduceBEq, Nat.reduceAdd, Nat.reduceSub, Nat.reduceLeDiff, Nat.reduceEqDiff, Nat.reduceLT, reduceCtorEq]
theorem ofN_txt (l : List Ev) : (ofN (l.take 12) (l.take 12).length).1.text.size ≤ 2400 ∧ (ofN (l.take 12) (l.take 12).length).1.dig < 18446744073709551616 := by
  have h := ofN_len (l.take 12) _ (Nat.le_refl _)
  have h2 : (l.take 12).length ≤ 12 := by rw [List.length_take]; omega
  refine ⟨?_, h.dig⟩
  have := h.txt
  omega
set_option maxRecDepth 20000 in
set_option maxHeartbeats 1000000 in
theorem s4 {Γ : List (Nat × Array Value)} {e1 e2 : Value} (hP : powT ∈ Γ) (hD : debT ∈ Γ) (hE : Errs Γ e1 e2) (nl' fl) (l : List Ev) (x : Ev) (hs : ∀ e ∈ l, EvW e) (hl : l.length ≤ 9223372036854775807) (hx : EvW x) :
    Aw.SpecG Γ Tryd.prog 4 [] [.imm nl' fl 4 (l.map ec), ea x] (Gives (· = B true)) := by
  refine SpecG.shut (Post := fun rg v => v = B true) ?_ fun rg v h => by subst h; exact ⟨rfl, rfl, rfl⟩
  refine Aw.SpecG.regsW k4 rfl rfl fun E hn hnp hp hT => ?_
  unfold a4
  have pin : ∀ r, E.pin r = none := fun r => hp.none hnp (Nat.zero_le _)
  refine AWp.ofD [999] [] hn mixed rfl ?_
  simp (config := { maxSteps := 2000000 }) only [go_sem, ↓reduceIte, Int.reduceToNat, Nat.reduceMul, Int.reduceBEq, Int.reduceBNe, Nat.reduceBEq, Nat.reduceAdd, Nat.reduceSub, Nat.reduceLeDiff, Nat.reduceEqDiff, Nat.reduceLT, reduceCtorEq]
  refine AWpL.callAT [] (SpecG.at (s7 hP hD nl' fl l hs hl) hT) rfl rfl (by rw [hn]; rfl) rfl (fun r hr => .inr (pin r)) fun rg v hv => ?_
  obtain ⟨rfl, rfl⟩ := hv
  refine ⟨Nat.zero_le _, ?_⟩
  have hok := ofN_ok l
  have htx := ofN_txt l
  have hgd := ofN_good (l.take 12) _ (Nat.le_refl _)
  generalize (ofN (List.take 12 l) (List.take 12 l).length).fst = A at *
  rw [retS_new]
  refine AWpL.ofM hn rfl ?_
  simp (config := { maxSteps := 2000000 }) only [go_sem, ↓reduceIte, Int.reduceToNat, Nat.reduceMul, Int.reduceBEq, Int.reduceBNe, Nat.reduceBEq, Nat.reduceAdd, Nat.reduceSub, Nat.reduceLeDiff, Nat.reduceEqDiff, Nat.reduceLT, reduceCtorEq, Aw.pos, arR]
  refine AWpL.gcalleT (y := B true) rfl (fun _ => SpecG.at (s8 hP hD) hT) rfl (by rw [hn]; rfl) (fun _ => by simp (config := { maxSteps := 2000000 }) only [go_sem, ↓reduceIte, Int.reduceToNat, Nat.reduceMul, Int.reduceBEq, Int.reduceBNe, Nat.reduceBEq, Nat.reduceAdd, Nat.reduceSub, Nat.reduceLeDiff, Nat.reduceEqDiff, Nat.reduceLT, reduceCtorEq]) (AWpL.ofM hn rfl ?_)
  simp (config := { maxSteps := 2000000 }) only [go_sem, ↓reduceIte, Int.reduceToNat, Nat.reduceMul, Int.reduceBEq, Int.reduceBNe, Nat.reduceBEq, Nat.reduceAdd, Nat.reduceSub, Nat.reduceLeDiff, Nat.reduceEqDiff, Nat.reduceLT, reduceCtorEq]
  have htk : (A.list.map ec).take A.list.length = A.list.map ec := List.take_of_length_le (by rw [List.length_map]; exact Nat.le_refl _)
  refine AWpL.calle (y := S A.text) (by simp (config := { maxSteps := 2000000 }) only [go_sem, ↓reduceIte, Int.reduceToNat, Nat.reduceMul, Int.reduceBEq, Int.reduceBNe, Nat.reduceBEq, Nat.reduceAdd, Nat.reduceSub, Nat.reduceLeDiff, Nat.reduceEqDiff, Nat.reduceLT, reduceCtorEq, htk]; exact s17 A) rfl (by rw [hn]; rfl) (by simp (config := { maxSteps := 2000000 }) only [go_sem, ↓reduceIte, Int.reduceToNat, Nat.reduceMul, Int.reduceBEq, Int.reduceBNe, Nat.reduceBEq, Nat.reduceAdd, Nat.reduceSub, Nat.reduceLeDiff, Nat.reduceEqDiff, Nat.reduceLT, reduceCtorEq, List.length_map, Nat.le_refl]) (AWpL.ofM hn rfl ?_)
  simp (config := { maxSteps := 2000000 }) only [go_sem, ↓reduceIte, Int.reduceToNat, Nat.reduceMul, Int.reduceBEq, Int.reduceBNe, Nat.reduceBEq, Nat.reduceAdd, Nat.reduceSub, Nat.reduceLeDiff, Nat.reduceEqDiff, Nat.reduceLT, reduceCtorEq]
  refine AWpL.callAT [] (SpecG.at (s16 hP hD hE A.text (by omega)) hT) rfl rfl (by rw [hn]; rfl) rfl (fun r hr => .inr (pin r)) fun rg v hv => ?_
  obtain ⟨b, rest, hrec, rfl, rfl⟩ := hv
  obtain rfl := rec_all hgd hrec
  refine ⟨Nat.zero_le _, ?_⟩
  rw [retS_new]
  refine AWpL.ofM hn rfl ?_
  simp (config := { maxSteps := 2000000 }) only [go_sem, ↓reduceIte, Int.reduceToNat, Nat.reduceMul, Int.reduceBEq, Int.reduceBNe, Nat.reduceBEq, Nat.reduceAdd, Nat.reduceSub, Nat.reduceLeDiff, Nat.reduceEqDiff, Nat.reduceLT, reduceCtorEq, Aw.pos, arR]
  have happ := s18 (Γ := Γ) hP hD b x hx (by omega) (by omega) htx.2
  refine AWpL.callAT [1, 2] (SpecG.at happ hT) rfl rfl (by rw [hn]; rfl) rfl (fun r hr => .inr (pin r)) fun rg v hv => ?_
  obtain ⟨rfl, rfl⟩ := hv
  refine ⟨Nat.le_refl _, AWpL.ofM hn rfl ?_⟩
  simp (config := { maxSteps := 2000000 }) only [go_sem, ↓reduceIte, Int.reduceToNat, Nat.reduceMul, Int.reduceBEq, Int.reduceBNe, Nat.reduceBEq, Nat.reduceAdd, Nat.reduceSub, Nat.reduceLeDiff, Nat.reduceEqDiff, Nat.reduceLT, reduceCtorEq, Aw.retS, Aw.retRg, Aw.kpM, Aw.bkM, Aw.pos, Aw.isBox, arR]
  refine AWpL.callAT [3, 4] (SpecG.at happ hT) rfl rfl (by rw [hn]; rfl) rfl (fun r hr => .inr (pin r)) fun rg v hv => ?_
  obtain ⟨rfl, rfl⟩ := hv
  refine ⟨Nat.le_refl _, AWpL.ofM hn rfl ?_⟩
  generalize appD b x = A' at *
  simp (config := { maxSteps := 2000000 }) only [go_sem, ↓reduceIte, Int.reduceToNat, Nat.reduceMul, Int.reduceBEq, Int.reduceBNe, Nat.reduceBEq, Nat.reduceAdd, Nat.reduceSub, Nat.reduceLeDiff, Nat.reduceEqDiff, Nat.reduceLT, reduceCtorEq, Aw.retS, Aw.retRg, Aw.kpM, Aw.bkM, Aw.pos, Aw.isBox, arR]
  have htk' : (A'.list.map ec).take A'.list.length = A'.list.map ec := List.take_of_length_le (by rw [List.length_map]; exact Nat.le_refl _)
  refine AWpL.gcalle (y := S A'.text) rfl (fun _ => by simp (config := { maxSteps := 2000000 }) only [go_sem, ↓reduceIte, Int.reduceToNat, Nat.reduceMul, Int.reduceBEq, Int.reduceBNe, Nat.reduceBEq, Nat.reduceAdd, Nat.reduceSub, Nat.reduceLeDiff, Nat.reduceEqDiff, Nat.reduceLT, reduceCtorEq, htk']; exact s17 A') rfl (by rw [hn]; rfl) (fun _ => by simp (config := { maxSteps := 2000000 }) only [go_sem, ↓reduceIte, Int.reduceToNat, Nat.reduceMul, Int.reduceBEq, Int.reduceBNe, Nat.reduceBEq, Nat.reduceAdd, Nat.reduceSub, Nat.reduceLeDiff, Nat.reduceEqDiff, Nat.reduceLT, reduceCtorEq, List.length_map, Nat.le_refl]) (AWpL.ofM hn rfl ?_)
  simp (config := { maxSteps := 2000000 }) only [go_sem, ↓reduceIte, Int.reduceToNat, Nat.reduceMul, Int.reduceBEq, Int.reduceBNe, Nat.reduceBEq, Nat.reduceAdd, Nat.reduceSub, Nat.reduceLeDiff, Nat.reduceEqDiff, Nat.reduceLT, reduceCtorEq]
  refine AWpL.gcalle (y := S A'.text) rfl (fun _ => by simp (config := { maxSteps := 2000000 }) only [go_sem, ↓reduceIte, Int.reduceToNat, Nat.reduceMul, Int.reduceBEq, Int.reduceBNe, Nat.reduceBEq, Nat.reduceAdd, Nat.reduceSub, Nat.reduceLeDiff, Nat.reduceEqDiff, Nat.reduceLT, reduceCtorEq, htk']; exact s17 A') rfl (by rw [hn]; rfl) (fun _ => by simp (config := { maxSteps := 2000000 }) only [go_sem, ↓reduceIte, Int.reduceToNat, Nat.reduceMul, Int.reduceBEq, Int.reduceBNe, Nat.reduceBEq, Nat.reduceAdd, Nat.reduceSub, Nat.reduceLeDiff, Nat.reduceEqDiff, Nat.reduceLT, reduceCtorEq, List.length_map, Nat.le_refl]) (AWpL.ofM hn rfl ?_)
  simp (config := { maxSteps := 2000000 }) only [go_sem, ↓reduceIte, Int.reduceToNat, Nat.reduceMul, Int.reduceBEq, Int.reduceBNe, Nat.reduceBEq, Nat.reduceAdd, Nat.reduceSub, Nat.reduceLeDiff, Nat.reduceEqDiff, Nat.reduceLT, reduceCtorEq]
  refine AWpL.gcalle (y := .val (.int .u64 A'.dig)) rfl (fun _ => by simp (config := { maxSteps := 2000000 }) only [go_sem, ↓reduceIte, Int.reduceToNat, Nat.reduceMul, Int.reduceBEq, Int.reduceBNe, Nat.reduceBEq, Nat.reduceAdd, Nat.reduceSub, Nat.reduceLeDiff, Nat.reduceEqDiff, Nat.reduceLT, reduceCtorEq, htk']; exact s19 A') rfl (by rw [hn]; rfl) (fun _ => by simp (config := { maxSteps := 2000000 }) only [go_sem, ↓reduceIte, Int.reduceToNat, Nat.reduceMul, Int.reduceBEq, Int.reduceBNe, Nat.reduceBEq, Nat.reduceAdd, Nat.reduceSub, Nat.reduceLeDiff, Nat.reduceEqDiff, Nat.reduceLT, reduceCtorEq, List.length_map, Nat.le_refl]) (AWpL.ofM hn rfl ?_)
  simp (config := { maxSteps := 2000000 }) only [go_sem, ↓reduceIte, Int.reduceToNat, Nat.reduceMul, Int.reduceBEq, Int.reduceBNe, Nat.reduceBEq, Nat.reduceAdd, Nat.reduceSub, Nat.reduceLeDiff, Nat.reduceEqDiff, Nat.reduceLT, reduceCtorEq]
  refine AWpL.gcalle (y := .val (.int .u64 A'.dig)) rfl (fun _ => by simp (config := { maxSteps := 2000000 }) only [go_sem, ↓reduceIte, Int.reduceToNat, Nat.reduceMul, Int.reduceBEq, Int.reduceBNe, Nat.reduceBEq, Nat.reduceAdd, Nat.reduceSub, Nat.reduceLeDiff, Nat.reduceEqDiff, Nat.reduceLT, reduceCtorEq, htk']; exact s19 A') rfl (by rw [hn]; rfl) (fun _ => by simp (config := { maxSteps := 2000000 }) only [go_sem, ↓reduceIte, Int.reduceToNat, Nat.reduceMul, Int.reduceBEq, Int.reduceBNe, Nat.reduceBEq, Nat.reduceAdd, Nat.reduceSub, Nat.reduceLeDiff, Nat.reduceEqDiff, Nat.reduceLT, reduceCtorEq, List.length_map, Nat.le_refl]) (AWpL.ofM hn rfl ?_)
  simp (config := { maxSteps := 2000000 }) only [go_sem, ↓reduceIte, Int.reduceToNat, Nat.reduceMul, Int.reduceBEq, Int.reduceBNe, Nat.reduceBEq, Nat.reduceAdd, Nat.reduceSub, Nat.reduceLeDiff, Nat.reduceEqDiff, Nat.reduceLT, reduceCtorEq]
  refine Retn.ret (π := []) hp hnp ⟨rfl, ?_⟩
  simp (config := { maxSteps := 2000000 }) only [go_sem, ↓reduceIte, Int.reduceToNat, Nat.reduceMul, Int.reduceBEq, Int.reduceBNe, Nat.reduceBEq, Nat.reduceAdd, Nat.reduceSub, Nat.reduceLeDiff, Nat.reduceEqDiff, Nat.reduceLT, reduceCtorEq, Aw.renR, Aw.pos]
end Go.Proofs.YtemgclhenkbikaaDoor
