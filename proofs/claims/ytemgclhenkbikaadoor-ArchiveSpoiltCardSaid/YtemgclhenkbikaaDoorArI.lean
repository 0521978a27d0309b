/- Archives: Text, the fixed example. -/
import Derived.Test.YtemgclhenkbikaaDoorAwZl
import Derived.Test.YtemgclhenkbikaaDoorArH
set_option linter.unusedVariables false
set_option linter.unusedSimpArgs false
namespace Go.Proofs.YtemgclhenkbikaaDoor
open Go.Proofs.YtemgclhenkbikaaDoor.Aw
attribute [local go_sem] Int.natCast_zero Int.natCast_one bne_self_eq_false beq_self_eq_true Bool.not_true Bool.not_false Option.isSome_none Option.isSome_some Aw.bkM_nil Option.getD_some Option.getD_none Nat.sub_zero Int.toNat_zero Aw.frzS Aw.frzT Aw.frzA Aw.frzL Aw.frzR Aw.frzO Aw.frzOL Aw.frzOT Aw.frzOR Aw.killS Aw.mapT Aw.mapR Aw.killM Aw.resAVs Aw.resAV Aw.quietOps Aw.wpP Aw.wpT Aw.wpS Aw.AOp.mild List.getElem?_cons_zero List.getElem?_cons_succ Bool.and_false Bool.and_self Bool.false_and Aw.opOb Aw.gdB Aw.Rnd Aw.subTm List.length_map Int.toNat_natCast and_self Aw.SeqC Aw.stops Aw.Ends Aw.looks Aw.renA Aw.renL Aw.renT Aw.renS Aw.wpO Aw.aop Aw.putTm Aw.St.ev Aw.St.put Aw.St.putO Aw.binAV Aw.intBin Aw.strBin Aw.pickAV Aw.optInt Aw.AV.strip Aw.AV.guard Aw.AV.cells Aw.gdOb Aw.AOp.opds Aw.AOp.still Aw.ptrCells Aw.St.reg Aw.fillAV Aw.fillOb Aw.elsOb Aw.splice Aw.firm Aw.cellish Aw.AV.shut Aw.shutAll Aw.Seq Aw.Blk Aw.retS_nil Aw.mapA Aw.mapL Aw.borA Aw.borOb Aw.allOb Aw.tupOf Aw.params Aw.Opd.of Array.toList Value.cells List.map_cons List.map_nil List.getD_cons_zero List.getD_cons_succ List.getD_nil List.length_cons List.length_nil List.take_succ_cons List.take_zero List.take_nil List.drop_zero List.drop_succ_cons List.drop_nil List.set_cons_zero List.set_cons_succ List.append_nil List.nil_append List.cons_append List.all_cons List.all_nil cond_false cond_true if_true if_false true_and and_true Bool.and_true Bool.true_and Option.map_some Option.map_none false_implies forall_const implies_true forall_eq imp_self Bool.cond_false_right Bool.cond_true_left beq_true beq_false Bool.not_eq_true' Bool.false_eq_true Nat.zero_add Nat.add_zero Aw.eqCells Aw.stopDraw Aw.skipS Aw.exactCap Aw.revealS Aw.srcEls Aw.srcSz
attribute [local go_sem ↓] Aw.look_nil Aw.look_ite Aw.wpL_nil Aw.wpL_op Aw.wpL_gd Aw.wpQ_nil Aw.wpQ_op Aw.wpQ_gd Aw.wpC_draw Aw.wpC_reg Aw.wpC_skip Aw.wpC_ret Aw.wpC_exit Aw.wpC_seq Aw.wpC_block Aw.wpC_loop Aw.wpC_cond Aw.stopAt_nil Aw.stopAt_cons Aw.wpD_skip Aw.wpD_ret Aw.wpD_exit Aw.wpD_region Aw.wpD_draw Aw.wpM_nil Aw.wpM_op Aw.wpM_gd Aw.wpD_seq Aw.wpD_block Aw.wpD_loop Aw.wpD_cond
/- (*gridhall/archive.Archive).Text -/
def a17 : ACode :=
  (.seq (.region false [] [
     ⟨(some 2), none, (.mov (.v (.string ⟨#[]⟩)))⟩])
  (.seq (.region false [] [
     ⟨(some 3), none, (.mov (.t 0))⟩,
     ⟨(some 4), none, (.nilc (.t 3))⟩,
     ⟨(some 5), none, (.fld 1 (.t 4))⟩,
     ⟨(some 6), none, (.load 1 false (.t 5))⟩,
     ⟨(some 2), none, (.mov (.t 6))⟩])
  .ret))
theorem k17 : FnIs Tryd.prog 17 7 [.t 2] a17 := ⟨_, _, Tryd.func17, rfl, by kernel_rfl, by kernel_rfl, rfl⟩
/- internal/stringslite.HasPrefix -/
def a38 : ACode :=
  (.seq (.region false [] [
     ⟨(some 4), none, (.mov (.v (.bool false)))⟩])
  (.seq (.region false [] [
     ⟨(some 5), none, (.mov (.t 0))⟩,
     ⟨(some 6), none, (.lens (.t 5))⟩,
     ⟨(some 7), none, (.mov (.t 1))⟩,
     ⟨(some 8), none, (.lens (.t 7))⟩,
     ⟨(some 9), none, (.bin .geq 3 (.t 6) (.t 8))⟩,
     ⟨(some 10), none, (.mov (.t 9))⟩,
     ⟨(some 11), (some (10, true)), (.mov (.t 0))⟩,
     ⟨(some 12), (some (10, true)), (.mov (.t 1))⟩,
     ⟨(some 13), (some (10, true)), (.lens (.t 12))⟩,
     ⟨(some 14), (some (10, true)), (.slcs (.t 11) none (some (.t 13)))⟩,
     ⟨(some 15), (some (10, true)), (.mov (.t 1))⟩,
     ⟨(some 16), (some (10, true)), (.bin .eql 9 (.t 14) (.t 15))⟩,
     ⟨(some 17), none, (.pick (.t 10) (.t 16) (.v (.bool false)))⟩,
     ⟨(some 4), none, (.mov (.t 17))⟩])
  .ret))
theorem k38 : FnIs Tryd.prog 38 18 [.t 4] a38 := ⟨_, _, Tryd.func38, rfl, by kernel_rfl, by kernel_rfl, rfl⟩
/- strings.HasPrefix -/
def a23 : ACode :=
  (.seq (.region false [] [
     ⟨(some 4), none, (.mov (.v (.bool false)))⟩])
  (.seq (.region false [] [
     ⟨(some 5), none, (.mov (.t 0))⟩,
     ⟨(some 6), none, (.mov (.t 1))⟩,
     ⟨(some 7), none, (.call 38 [(.t 5), (.t 6)])⟩,
     ⟨(some 4), none, (.mov (.t 7))⟩])
  .ret))
theorem k23 : FnIs Tryd.prog 23 8 [.t 4] a23 := ⟨_, _, Tryd.func23, rfl, by kernel_rfl, by kernel_rfl, rfl⟩
/- gridhall/gridhallkeep4.archiveFact -/
def a8 : ACode :=
  (.seq (.region false [] [
     ⟨(some 0), none, (.mov (.v (.bool false)))⟩])
  (.seq (.region false [] [
     ⟨(some 4), none, (.call 22 [])⟩,
     ⟨(some 1), none, (.mov (.t 4))⟩])
  (.seq (.seq (.region false [] [
     ⟨(some 5), none, (.mov (.t 1))⟩,
     ⟨(some 6), none, (.nilP false (.t 5))⟩])
  (.cond (.t 6)
    (.seq (.region false [] [
       ⟨(some 0), none, (.mov (.v (.bool false)))⟩])
    .ret)
    .skip))
  (.seq (.region false [] [
     ⟨(some 8), none, (.mov (.t 1))⟩,
     ⟨(some 9), none, (.build (.agg #[(.int .i64 0), (.string ⟨#[]⟩), (.string ⟨#[]⟩), (.int .i64 0)]) [(1, (1, (.v (.string ⟨#[111, 112, 101, 110]⟩)))), (2, (1, (.v (.string ⟨#[83]⟩))))])⟩,
     ⟨(some 10), none, (.call 18 [(.t 8), (.t 9)])⟩,
     ⟨(some 7), none, (.mov (.t 10))⟩,
     ⟨(some 11), none, (.ext 0 (.t 7))⟩,
     ⟨(some 12), none, (.ext 1 (.t 7))⟩,
     ⟨(some 2), none, (.mov (.t 11))⟩,
     ⟨(some 3), none, (.mov (.t 12))⟩])
  (.seq (.region false [] [
     ⟨(some 13), none, (.mov (.t 3))⟩,
     ⟨(some 14), none, (.bin .eql 36 (.t 13) (.v (.int .i64 0)))⟩,
     ⟨(some 15), none, (.mov (.t 14))⟩,
     ⟨(some 16), (some (15, true)), (.mov (.t 2))⟩,
     ⟨(some 17), (some (15, true)), (.bin .eql 3 (.t 16) (.v (.int .i64 1)))⟩,
     ⟨(some 18), none, (.pick (.t 15) (.t 17) (.v (.bool false)))⟩,
     ⟨(some 19), none, (.mov (.t 18))⟩,
     ⟨(some 20), (some (19, true)), (.mov (.t 1))⟩,
     ⟨(some 21), (some (19, true)), (.call 17 [(.t 20)])⟩,
     ⟨(some 22), (some (19, true)), (.call 23 [(.t 21), (.v (.string ⟨#[48, 32, 111, 112, 101, 110, 32, 83, 32, 48, 32]⟩))])⟩,
     ⟨(some 23), none, (.pick (.t 19) (.t 22) (.v (.bool false)))⟩,
     ⟨(some 0), none, (.mov (.t 23))⟩])
  .ret)))))
theorem k8 : FnIs Tryd.prog 8 24 [.t 0] a8 := ⟨_, _, Tryd.func8, rfl, by kernel_rfl, by kernel_rfl, rfl⟩

abbrev arA (a : Ar) : AV := .pim [.imm none false 4 (a.list.map ec), S a.text, .val (.int .u64 a.dig)]
theorem s17 (a : Ar) : Aw.Spec Tryd.prog 17 [] [arA a] (Gives (· = S a.text)) := by
  refine Aw.Spec.givesD k17 mixed rfl rfl rfl fun E hn hnp hp => ?_
  unfold a17
  simp (config := { maxSteps := 2000000 }) only [go_sem, ↓reduceIte, Int.reduceToNat, Nat.reduceMul, Int.reduceBEq, Int.reduceBNe, Nat.reduceBEq, Nat.reduceAdd, Nat.reduceSub, Nat.reduceLeDiff, Nat.reduceEqDiff, Nat.reduceLT, reduceCtorEq]
theorem ext_pre (p r : ByteArray) : ((p ++ r).extract 0 p.size).toList = p.toList := by
  rw [Lib.toList_data, Lib.toList_data]
  simp
  exact List.take_of_length_le (by rw [Array.length_toList]; exact Nat.le_refl _)
theorem s38 (p r : ByteArray) (h : (p ++ r).size ≤ 9223372036854775807) : Aw.Spec Tryd.prog 38 [] [S (p ++ r), S p] (Gives (· = B true)) := by
  refine Aw.Spec.givesD k38 mixed rfl rfl rfl fun E hn hnp hp => ?_
  unfold a38
  have h1 : (p ++ r).size = p.size + r.size := ByteArray.size_append
  have e0 : decide (((p.size + r.size : Nat) : Int) ≥ (p.size : Int)) = true := decide_eq_true (by omega)
  simp (config := { maxSteps := 2000000 }) only [go_sem, ↓reduceIte, Int.reduceToNat, Nat.reduceMul, Int.reduceBEq, Int.reduceBNe, Nat.reduceBEq, Nat.reduceAdd, Nat.reduceSub, Nat.reduceLeDiff, Nat.reduceEqDiff, Nat.reduceLT, reduceCtorEq, e0, ext_pre, Option.toList_none, Option.toList_some]
  refine ⟨by omega, by omega, by omega⟩
theorem s23 (p r : ByteArray) (h : (p ++ r).size ≤ 9223372036854775807) : Aw.Spec Tryd.prog 23 [] [S (p ++ r), S p] (Gives (· = B true)) := by
  refine Aw.Spec.givesD k23 mixed rfl rfl rfl fun E hn hnp hp => ?_
  unfold a23
  simp (config := { maxSteps := 2000000 }) only [go_sem, ↓reduceIte, Int.reduceToNat, Nat.reduceMul, Int.reduceBEq, Int.reduceBNe, Nat.reduceBEq, Nat.reduceAdd, Nat.reduceSub, Nat.reduceLeDiff, Nat.reduceEqDiff, Nat.reduceLT, reduceCtorEq]
  (refine AWpL.calle (s38 p r h) rfl (by rw [hn]; rfl) (by simp (config := { maxSteps := 2000000 }) only [go_sem, ↓reduceIte, Int.reduceToNat, Nat.reduceMul, Int.reduceBEq, Int.reduceBNe, Nat.reduceBEq, Nat.reduceAdd, Nat.reduceSub, Nat.reduceLeDiff, Nat.reduceEqDiff, Nat.reduceLT, reduceCtorEq]) (AWpL.ofM hn rfl ?_); simp (config := { maxSteps := 2000000 }) only [go_sem, ↓reduceIte, Int.reduceToNat, Nat.reduceMul, Int.reduceBEq, Int.reduceBNe, Nat.reduceBEq, Nat.reduceAdd, Nat.reduceSub, Nat.reduceLeDiff, Nat.reduceEqDiff, Nat.reduceLT, reduceCtorEq])
def exEv : Ev := ⟨0, ⟨#[111, 112, 101, 110]⟩, ⟨#[83]⟩, 0⟩
theorem ex_app : appE Ar0 exEv = 0 := by decide +kernel
def exP : ByteArray := ⟨#[48, 32, 111, 112, 101, 110, 32, 83, 32, 48, 32]⟩
theorem ex_text : (appD Ar0 exEv).text = exP ++ (hexB (digN Ar0 exEv) ++ ⟨#[10]⟩) := by
  have e1 : lineB exEv ++ ⟨#[32]⟩ = exP := by decide +kernel
  unfold appD
  rw [if_pos ex_app]
  show (⟨#[]⟩ : ByteArray) ++ (lineB exEv ++ ⟨#[32]⟩ ++ hexB (digN Ar0 exEv) ++ ⟨#[10]⟩) = _
  rw [e1]
  rw [ByteArray.append_assoc]
  exact ByteArray.empty_append
set_option maxRecDepth 20000 in
theorem s8 {Γ : List (Nat × Array Value)} (hP : powT ∈ Γ) (hD : debT ∈ Γ) : Aw.SpecG Γ Tryd.prog 8 [] [] (Gives (· = B true)) := by
  refine SpecG.shut (Post := fun rg v => v = B true) ?_ fun rg v h => by subst h; exact ⟨rfl, rfl, rfl⟩
  refine Aw.SpecG.regsW k8 rfl rfl fun E hn hnp hp hT => ?_
  unfold a8
  have pin : ∀ r, E.pin r = none := fun r => hp.none hnp (Nat.zero_le _)
  refine AWp.ofD [] [] hn mixed rfl ?_
  simp (config := { maxSteps := 2000000 }) only [go_sem, ↓reduceIte, Int.reduceToNat, Nat.reduceMul, Int.reduceBEq, Int.reduceBNe, Nat.reduceBEq, Nat.reduceAdd, Nat.reduceSub, Nat.reduceLeDiff, Nat.reduceEqDiff, Nat.reduceLT, reduceCtorEq]
  refine AWpL.callA [] s22 rfl rfl (by rw [hn]; rfl) rfl (fun r hr => .inr (pin r)) fun rg v hv => ?_
  obtain ⟨rfl, rfl⟩ := hv
  refine ⟨Nat.zero_le _, ?_⟩
  rw [retS_new]
  refine AWpL.ofM hn rfl ?_
  simp (config := { maxSteps := 2000000 }) only [go_sem, ↓reduceIte, Int.reduceToNat, Nat.reduceMul, Int.reduceBEq, Int.reduceBNe, Nat.reduceBEq, Nat.reduceAdd, Nat.reduceSub, Nat.reduceLeDiff, Nat.reduceEqDiff, Nat.reduceLT, reduceCtorEq, Aw.pos, arR]
  have hz : appN Ar0 exEv = 1 := by unfold appN; rw [if_pos ex_app]; rfl
  have hok := stepA_ok (i := 0) (x := (Ar0, 0)) ⟨Nat.le_refl 0, Nat.le_refl 0, by decide, Int.le_refl 0, Int.le_refl 0⟩ exEv
  refine AWpL.callAT [0, 1] (SpecG.at (s18 hP hD Ar0 exEv ⟨by decide, by decide⟩ (by decide) (by decide) (by decide)) hT) rfl rfl (by rw [hn]; rfl) rfl (fun r hr => .inr (pin r)) fun rg v hv => ?_
  obtain ⟨rfl, rfl⟩ := hv
  rw [hz, ex_app]
  have htx := ex_text
  have hsz : (appD Ar0 exEv).text.size ≤ 200 := by
    have : appD (Ar0, (0 : Int)).1 (atT exEv ((Ar0, (0 : Int)).2 + cut exEv.time 0 50)) = appD Ar0 exEv := rfl
    have h2 := hok.txt
    exact h2
  generalize appD Ar0 exEv = A at *
  refine ⟨Nat.le_refl _, AWpL.ofM hn rfl ?_⟩
  have htk : (A.list.map ec).take A.list.length = A.list.map ec := List.take_of_length_le (by rw [List.length_map]; exact Nat.le_refl _)
  simp (config := { maxSteps := 2000000 }) only [go_sem, ↓reduceIte, Int.reduceToNat, Nat.reduceMul, Int.reduceBEq, Int.reduceBNe, Nat.reduceBEq, Nat.reduceAdd, Nat.reduceSub, Nat.reduceLeDiff, Nat.reduceEqDiff, Nat.reduceLT, reduceCtorEq, Aw.retS, Aw.retRg, Aw.kpM, Aw.bkM, Aw.pos, Aw.isBox, arR]
  refine AWpL.gcalle (y := S A.text) rfl (fun _ => by simp (config := { maxSteps := 2000000 }) only [go_sem, ↓reduceIte, Int.reduceToNat, Nat.reduceMul, Int.reduceBEq, Int.reduceBNe, Nat.reduceBEq, Nat.reduceAdd, Nat.reduceSub, Nat.reduceLeDiff, Nat.reduceEqDiff, Nat.reduceLT, reduceCtorEq, htk]; exact s17 A) rfl (by rw [hn]; rfl) (fun _ => by simp (config := { maxSteps := 2000000 }) only [go_sem, ↓reduceIte, Int.reduceToNat, Nat.reduceMul, Int.reduceBEq, Int.reduceBNe, Nat.reduceBEq, Nat.reduceAdd, Nat.reduceSub, Nat.reduceLeDiff, Nat.reduceEqDiff, Nat.reduceLT, reduceCtorEq, List.length_map, Nat.le_refl]) (AWpL.ofM hn rfl ?_)
  rw [htx] at hsz ⊢
  simp (config := { maxSteps := 2000000 }) only [go_sem, ↓reduceIte, Int.reduceToNat, Nat.reduceMul, Int.reduceBEq, Int.reduceBNe, Nat.reduceBEq, Nat.reduceAdd, Nat.reduceSub, Nat.reduceLeDiff, Nat.reduceEqDiff, Nat.reduceLT, reduceCtorEq]
  refine AWpL.gcalle (y := B true) rfl (fun _ => by simp (config := { maxSteps := 2000000 }) only [go_sem, ↓reduceIte, Int.reduceToNat, Nat.reduceMul, Int.reduceBEq, Int.reduceBNe, Nat.reduceBEq, Nat.reduceAdd, Nat.reduceSub, Nat.reduceLeDiff, Nat.reduceEqDiff, Nat.reduceLT, reduceCtorEq]; exact s23 exP _ (by omega)) rfl (by rw [hn]; rfl) (fun _ => by simp (config := { maxSteps := 2000000 }) only [go_sem, ↓reduceIte, Int.reduceToNat, Nat.reduceMul, Int.reduceBEq, Int.reduceBNe, Nat.reduceBEq, Nat.reduceAdd, Nat.reduceSub, Nat.reduceLeDiff, Nat.reduceEqDiff, Nat.reduceLT, reduceCtorEq]) (AWpL.ofM hn rfl ?_)
  simp (config := { maxSteps := 2000000 }) only [go_sem, ↓reduceIte, Int.reduceToNat, Nat.reduceMul, Int.reduceBEq, Int.reduceBNe, Nat.reduceBEq, Nat.reduceAdd, Nat.reduceSub, Nat.reduceLeDiff, Nat.reduceEqDiff, Nat.reduceLT, reduceCtorEq]
  refine Retn.ret (π := []) hp hnp ⟨rfl, ?_⟩
  simp (config := { maxSteps := 2000000 }) only [go_sem, ↓reduceIte, Int.reduceToNat, Nat.reduceMul, Int.reduceBEq, Int.reduceBNe, Nat.reduceBEq, Nat.reduceAdd, Nat.reduceSub, Nat.reduceLeDiff, Nat.reduceEqDiff, Nat.reduceLT, reduceCtorEq, Aw.renR, Aw.pos]
end Go.Proofs.YtemgclhenkbikaaDoor
