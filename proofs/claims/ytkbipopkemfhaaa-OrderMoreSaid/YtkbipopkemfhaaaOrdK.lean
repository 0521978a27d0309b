/- Orders: the fixed example, and the way by other states. -/
import Derived.Test.YtkbipopkemfhaaaAwZg
import Derived.Test.YtkbipopkemfhaaaOrdJ
set_option linter.unusedVariables false
set_option linter.unusedSimpArgs false
namespace Go.Proofs.Ytkbipopkemfhaaa
open Go.Proofs.Ytkbipopkemfhaaa.Aw
attribute [local go_sem] Int.natCast_zero Int.natCast_one bne_self_eq_false beq_self_eq_true Bool.not_true Bool.not_false Option.isSome_none Option.isSome_some Aw.bkM_nil Option.getD_some Option.getD_none Nat.sub_zero Int.toNat_zero Aw.frzS Aw.frzT Aw.frzA Aw.frzL Aw.frzR Aw.frzO Aw.frzOL Aw.frzOT Aw.frzOR Aw.killS Aw.mapT Aw.mapR Aw.killM Aw.resAVs Aw.resAV Aw.quietOps Aw.wpP Aw.wpT Aw.wpS Aw.AOp.mild List.getElem?_cons_zero List.getElem?_cons_succ Bool.and_false Bool.and_self Bool.false_and Aw.opOb Aw.gdB Aw.Rnd Aw.subTm List.length_map Int.toNat_natCast and_self Aw.SeqC Aw.stops Aw.Ends Aw.looks Aw.renA Aw.renL Aw.renT Aw.renS Aw.wpO Aw.aop Aw.putTm Aw.St.ev Aw.St.put Aw.St.putO Aw.binAV Aw.intBin Aw.strBin Aw.pickAV Aw.optInt Aw.AV.strip Aw.AV.guard Aw.AV.cells Aw.gdOb Aw.AOp.opds Aw.AOp.still Aw.ptrCells Aw.St.reg Aw.fillAV Aw.fillOb Aw.elsOb Aw.splice Aw.firm Aw.cellish Aw.AV.shut Aw.shutAll Aw.Seq Aw.Blk Aw.retS_nil Aw.mapA Aw.mapL Aw.borA Aw.borOb Aw.allOb Aw.tupOf Aw.params Aw.Opd.of Array.toList Value.cells List.map_cons List.map_nil List.getD_cons_zero List.getD_cons_succ List.getD_nil List.length_cons List.length_nil List.take_succ_cons List.take_zero List.take_nil List.drop_zero List.drop_succ_cons List.drop_nil List.set_cons_zero List.set_cons_succ List.append_nil List.nil_append List.cons_append List.all_cons List.all_nil cond_false cond_true if_true if_false true_and and_true Bool.and_true Bool.true_and Option.map_some Option.map_none false_implies forall_const implies_true forall_eq imp_self Bool.cond_false_right Bool.cond_true_left beq_true beq_false Bool.not_eq_true' Bool.false_eq_true Nat.zero_add Nat.add_zero Aw.eqCells Aw.stopDraw Aw.skipS Aw.exactCap Aw.revealS Aw.srcEls Aw.srcSz
attribute [local go_sem ↓] Aw.look_nil Aw.look_ite Aw.wpL_nil Aw.wpL_op Aw.wpL_gd Aw.wpQ_nil Aw.wpQ_op Aw.wpQ_gd Aw.wpC_draw Aw.wpC_reg Aw.wpC_skip Aw.wpC_ret Aw.wpC_exit Aw.wpC_seq Aw.wpC_block Aw.wpC_loop Aw.wpC_cond Aw.stopAt_nil Aw.stopAt_cons Aw.wpD_skip Aw.wpD_ret Aw.wpD_exit Aw.wpD_region Aw.wpD_draw Aw.wpM_nil Aw.wpM_op Aw.wpM_gd Aw.wpD_seq Aw.wpD_block Aw.wpD_loop Aw.wpD_cond
/- gridhall/gridhallkeep4.orderFact -/
def a9 : ACode :=
  (.seq (.region false [] [
     ⟨(some 0), none, (.mov (.v (.bool false)))⟩])
  (.seq (.region false [] [
     ⟨(some 4), none, (.build (.agg #[(.int .i64 0), (.string ⟨#[]⟩), (.int .i64 0), (.int .i64 0)]) [(0, (1, (.v (.int .i64 2)))), (1, (1, (.v (.string ⟨#[66]⟩))))])⟩,
     ⟨(some 5), none, (.bsl 65 4 1 [(0, (.t 4))])⟩,
     ⟨(some 6), none, (.build (.agg #[(.bool false), (.string ⟨#[]⟩), (.slice none 0 0)]) [(0, (1, (.v (.bool true)))), (1, (1, (.v (.string ⟨#[65]⟩)))), (2, (1, (.t 5)))])⟩,
     ⟨(some 7), none, (.bsl 46 3 1 [(0, (.t 6))])⟩,
     ⟨(some 1), none, (.mov (.t 7))⟩])
  (.seq (.region false [] [
     ⟨(some 9), none, (.mov (.t 1))⟩,
     ⟨(some 10), none, (.build (.agg #[(.string ⟨#[]⟩), (.bool false)]) [(0, (1, (.v (.string ⟨#[65]⟩))))])⟩,
     ⟨(some 11), none, (.build (.agg #[(.string ⟨#[]⟩), (.bool false)]) [(0, (1, (.v (.string ⟨#[66]⟩)))), (1, (1, (.v (.bool true))))])⟩,
     ⟨(some 12), none, (.bsl 33 2 2 [(0, (.t 10)), (1, (.t 11))])⟩,
     ⟨(some 13), none, (.build (.agg #[(.string ⟨#[]⟩), (.bool false)]) [(0, (1, (.v (.string ⟨#[65]⟩)))), (1, (1, (.v (.bool true))))])⟩,
     ⟨(some 14), none, (.build (.agg #[(.string ⟨#[]⟩), (.bool false)]) [(0, (1, (.v (.string ⟨#[66]⟩))))])⟩,
     ⟨(some 15), none, (.bsl 33 2 2 [(0, (.t 13)), (1, (.t 14))])⟩,
     ⟨(some 16), none, (.call 8 [(.t 9), (.t 12), (.t 15), (.v (.slice none 0 0))])⟩,
     ⟨(some 8), none, (.mov (.t 16))⟩,
     ⟨(some 17), none, (.ext 0 (.t 8))⟩,
     ⟨(some 18), none, (.ext 1 (.t 8))⟩,
     ⟨(some 2), none, (.mov (.t 17))⟩,
     ⟨(some 3), none, (.mov (.t 18))⟩])
  (.seq (.region false [] [
     ⟨(some 19), none, (.mov (.t 3))⟩,
     ⟨(some 20), none, (.bin .eql 26 (.t 19) (.v (.int .i64 0)))⟩,
     ⟨(some 21), none, (.mov (.t 20))⟩,
     ⟨(some 22), (some (21, true)), (.mov (.t 2))⟩,
     ⟨(some 23), (some (21, true)), (.len (.t 22))⟩,
     ⟨(some 24), (some (21, true)), (.bin .eql 3 (.t 23) (.v (.int .i64 2)))⟩,
     ⟨(some 25), none, (.pick (.t 21) (.t 24) (.v (.bool false)))⟩,
     ⟨(some 26), none, (.mov (.t 25))⟩,
     ⟨(some 27), (some (26, true)), (.mov (.t 2))⟩,
     ⟨(some 28), (some (26, true)), (.idx 2 (.t 27) (.v (.int .i64 0)))⟩,
     ⟨(some 29), (some (26, true)), (.load 2 true (.t 28))⟩,
     ⟨(some 30), (some (26, true)), (.build (.agg #[(.bool false), (.string ⟨#[]⟩)]) [(1, (1, (.v (.string ⟨#[66]⟩))))])⟩,
     ⟨(some 31), (some (26, true)), (.aeq false [.b, .s] (.t 29) (.t 30))⟩,
     ⟨(some 32), none, (.pick (.t 26) (.t 31) (.v (.bool false)))⟩,
     ⟨(some 33), none, (.mov (.t 32))⟩,
     ⟨(some 34), (some (33, true)), (.mov (.t 2))⟩,
     ⟨(some 35), (some (33, true)), (.idx 2 (.t 34) (.v (.int .i64 1)))⟩,
     ⟨(some 36), (some (33, true)), (.load 2 true (.t 35))⟩,
     ⟨(some 37), (some (33, true)), (.build (.agg #[(.bool false), (.string ⟨#[]⟩)]) [(0, (1, (.v (.bool true)))), (1, (1, (.v (.string ⟨#[65]⟩))))])⟩,
     ⟨(some 38), (some (33, true)), (.aeq false [.b, .s] (.t 36) (.t 37))⟩,
     ⟨(some 39), none, (.pick (.t 33) (.t 38) (.v (.bool false)))⟩,
     ⟨(some 0), none, (.mov (.t 39))⟩])
  .ret))))
theorem k9 : FnIs Try.prog 9 40 [.t 0] a9 := ⟨_, _, Try.func9, rfl, by kernel_rfl, by kernel_rfl, rfl⟩

def factP : Pln := ⟨none, true, [⟨true, ⟨#[65]⟩, none, true, [⟨2, ⟨#[66]⟩, 0, 0⟩]⟩], none, true, [⟨⟨#[65]⟩, false⟩, ⟨⟨#[66]⟩, true⟩], none, false, []⟩
def factB : List Sta := [⟨⟨#[65]⟩, true⟩, ⟨⟨#[66]⟩, false⟩]
theorem factE : planE factP.rules factP.l factB factP.held = 0 := by decide +kernel
theorem factL : planL factP factB = [⟨false, ⟨#[66]⟩⟩, ⟨true, ⟨#[65]⟩⟩] := by kernel_rfl
set_option maxRecDepth 20000 in
theorem s9 : Aw.Spec Try.prog 9 [] [] (Gives (· = B true)) := by
  refine Aw.Spec.givesW k9 rfl rfl fun E hn hnp hp => ?_
  unfold a9
  have pin : ∀ r, E.pin r = none := fun r => hp.none hnp (Nat.zero_le _)
  refine AWp.seq (AWp.ofD [] [] hn mixed rfl ?_)
  simp (config := { maxSteps := 2000000 }) only [go_sem, ↓reduceIte, Int.reduceToNat, Nat.reduceMul, Int.reduceBEq, Int.reduceBNe, Nat.reduceBEq, Nat.reduceAdd, Nat.reduceSub, Nat.reduceLeDiff, Nat.reduceEqDiff, Nat.reduceLT, reduceCtorEq]
  refine AWp.seq (AWp.region (AWpL.upto 2 hn rfl ?_))
  simp (config := { maxSteps := 2000000 }) only [go_sem, ↓reduceIte, Int.reduceToNat, Nat.reduceMul, Int.reduceBEq, Int.reduceBNe, Nat.reduceBEq, Nat.reduceAdd, Nat.reduceSub, Nat.reduceLeDiff, Nat.reduceEqDiff, Nat.reduceLT, reduceCtorEq]
  refine AWpL.weak (weak_freeze 0 rfl (pin 0) (by simp (config := { maxSteps := 2000000 }) only [go_sem, ↓reduceIte, Int.reduceToNat, Nat.reduceMul, Int.reduceBEq, Int.reduceBNe, Nat.reduceBEq, Nat.reduceAdd, Nat.reduceSub, Nat.reduceLeDiff, Nat.reduceEqDiff, Nat.reduceLT, reduceCtorEq, Nat.le_refl])) (AWpL.ofM hn rfl ?_)
  simp (config := { maxSteps := 2000000 }) only [go_sem, ↓reduceIte, Int.reduceToNat, Nat.reduceMul, Int.reduceBEq, Int.reduceBNe, Nat.reduceBEq, Nat.reduceAdd, Nat.reduceSub, Nat.reduceLeDiff, Nat.reduceEqDiff, Nat.reduceLT, reduceCtorEq]
  refine AWp.ofD [] [] hn mixed rfl ?_
  simp (config := { maxSteps := 2000000 }) only [go_sem, ↓reduceIte, Int.reduceToNat, Nat.reduceMul, Int.reduceBEq, Int.reduceBNe, Nat.reduceBEq, Nat.reduceAdd, Nat.reduceSub, Nat.reduceLeDiff, Nat.reduceEqDiff, Nat.reduceLT, reduceCtorEq]
  refine AWpL.weak (weak_freeze 1 rfl (pin 1) (by simp (config := { maxSteps := 2000000 }) only [go_sem, ↓reduceIte, Int.reduceToNat, Nat.reduceMul, Int.reduceBEq, Int.reduceBNe, Nat.reduceBEq, Nat.reduceAdd, Nat.reduceSub, Nat.reduceLeDiff, Nat.reduceEqDiff, Nat.reduceLT, reduceCtorEq, Nat.le_refl])) (AWpL.ofM hn rfl ?_)
  simp (config := { maxSteps := 2000000 }) only [go_sem, ↓reduceIte, Int.reduceToNat, Nat.reduceMul, Int.reduceBEq, Int.reduceBNe, Nat.reduceBEq, Nat.reduceAdd, Nat.reduceSub, Nat.reduceLeDiff, Nat.reduceEqDiff, Nat.reduceLT, reduceCtorEq]
  refine AWpL.weak (weak_freeze 2 rfl (pin 2) (by simp (config := { maxSteps := 2000000 }) only [go_sem, ↓reduceIte, Int.reduceToNat, Nat.reduceMul, Int.reduceBEq, Int.reduceBNe, Nat.reduceBEq, Nat.reduceAdd, Nat.reduceSub, Nat.reduceLeDiff, Nat.reduceEqDiff, Nat.reduceLT, reduceCtorEq, Nat.le_refl])) (AWpL.ofM hn rfl ?_)
  simp (config := { maxSteps := 2000000 }) only [go_sem, ↓reduceIte, Int.reduceToNat, Nat.reduceMul, Int.reduceBEq, Int.reduceBNe, Nat.reduceBEq, Nat.reduceAdd, Nat.reduceSub, Nat.reduceLeDiff, Nat.reduceEqDiff, Nat.reduceLT, reduceCtorEq]
  refine AWpL.weak (weak_freeze 3 rfl (pin 3) (by simp (config := { maxSteps := 2000000 }) only [go_sem, ↓reduceIte, Int.reduceToNat, Nat.reduceMul, Int.reduceBEq, Int.reduceBNe, Nat.reduceBEq, Nat.reduceAdd, Nat.reduceSub, Nat.reduceLeDiff, Nat.reduceEqDiff, Nat.reduceLT, reduceCtorEq, Nat.le_refl])) (AWpL.ofM hn rfl ?_)
  simp (config := { maxSteps := 2000000 }) only [go_sem, ↓reduceIte, Int.reduceToNat, Nat.reduceMul, Int.reduceBEq, Int.reduceBNe, Nat.reduceBEq, Nat.reduceAdd, Nat.reduceSub, Nat.reduceLeDiff, Nat.reduceEqDiff, Nat.reduceLT, reduceCtorEq]
  refine AWpL.callA (args := [rs none true factP.rules, sts' none true factP.l, sts' none true factB, .val (.slice none 0 0)]) [] ((s8 factP none true factB (by decide) (fun r hr => by
      cases List.mem_singleton.1 hr
      exact ⟨by decide, fun x hx => by cases List.mem_singleton.1 hx; decide⟩) (fun x hx => by
      rcases List.mem_cons.1 hx with rfl | hx
      · decide
      · cases List.mem_singleton.1 hx; decide) (fun x hx => by
      rcases List.mem_cons.1 hx with rfl | hx
      · decide
      · cases List.mem_singleton.1 hx; decide)).args ⟨Ent.refl _, Ent.refl _, Ent.refl _, Ent.ofnil0 1, trivial⟩) rfl rfl (by rw [hn]; rfl) rfl (fun r hr => by cases hr) fun rg v hv => ?_
  obtain ⟨rfl, rfl⟩ := hv
  refine ⟨Nat.zero_le _, AWpL.ofM hn rfl ?_⟩
  rw [factE, factL]
  simp (config := { maxSteps := 2000000 }) only [go_sem, ↓reduceIte, Int.reduceToNat, Nat.reduceMul, Int.reduceBEq, Int.reduceBNe, Nat.reduceBEq, Nat.reduceAdd, Nat.reduceSub, Nat.reduceLeDiff, Nat.reduceEqDiff, Nat.reduceLT, reduceCtorEq, Aw.retS, Aw.retRg, Aw.kpM, Aw.bkM, Aw.pos, Aw.isBox]
  exact ⟨fun h => ⟨h, by decide, by decide⟩, fun h => ⟨h, by decide, by decide⟩, rfl⟩
end Go.Proofs.Ytkbipopkemfhaaa
