/- Interlocks: the fixed example. -/
import Derived.Test.YtocghkacngoblaaDoorAwZl
import Derived.Test.YtocghkacngoblaaDoorIntB
set_option linter.unusedVariables false
set_option linter.unusedSimpArgs false
namespace Go.Proofs.YtocghkacngoblaaDoor
open Go.Proofs.YtocghkacngoblaaDoor.Aw
attribute [local go_sem] Int.natCast_zero Int.natCast_one bne_self_eq_false beq_self_eq_true Bool.not_true Bool.not_false Option.isSome_none Option.isSome_some Aw.bkM_nil Option.getD_some Option.getD_none Nat.sub_zero Int.toNat_zero Aw.frzS Aw.frzT Aw.frzA Aw.frzL Aw.frzR Aw.frzO Aw.frzOL Aw.frzOT Aw.frzOR Aw.killS Aw.mapT Aw.mapR Aw.killM Aw.resAVs Aw.resAV Aw.quietOps Aw.wpP Aw.wpT Aw.wpS Aw.AOp.mild List.getElem?_cons_zero List.getElem?_cons_succ Bool.and_false Bool.and_self Bool.false_and Aw.opOb Aw.gdB Aw.Rnd Aw.subTm List.length_map Int.toNat_natCast and_self Aw.SeqC Aw.stops Aw.Ends Aw.looks Aw.renA Aw.renL Aw.renT Aw.renS Aw.wpO Aw.aop Aw.putTm Aw.St.ev Aw.St.put Aw.St.putO Aw.binAV Aw.intBin Aw.strBin Aw.pickAV Aw.optInt Aw.AV.strip Aw.AV.guard Aw.AV.cells Aw.gdOb Aw.AOp.opds Aw.AOp.still Aw.ptrCells Aw.St.reg Aw.fillAV Aw.fillOb Aw.elsOb Aw.splice Aw.firm Aw.cellish Aw.AV.shut Aw.shutAll Aw.Seq Aw.Blk Aw.retS_nil Aw.mapA Aw.mapL Aw.borA Aw.borOb Aw.allOb Aw.tupOf Aw.params Aw.Opd.of Array.toList Value.cells List.map_cons List.map_nil List.getD_cons_zero List.getD_cons_succ List.getD_nil List.length_cons List.length_nil List.take_succ_cons List.take_zero List.take_nil List.drop_zero List.drop_succ_cons List.drop_nil List.set_cons_zero List.set_cons_succ List.append_nil List.nil_append List.cons_append List.all_cons List.all_nil cond_false cond_true if_true if_false true_and and_true Bool.and_true Bool.true_and Option.map_some Option.map_none false_implies forall_const implies_true forall_eq imp_self Bool.cond_false_right Bool.cond_true_left beq_true beq_false Bool.not_eq_true' Bool.false_eq_true Nat.zero_add Nat.add_zero Aw.eqCells Aw.stopDraw Aw.skipS Aw.exactCap Aw.revealS Aw.srcEls Aw.srcSz
attribute [local go_sem ↓] Aw.look_nil Aw.look_ite Aw.wpL_nil Aw.wpL_op Aw.wpL_gd Aw.wpQ_nil Aw.wpQ_op Aw.wpQ_gd Aw.wpC_draw Aw.wpC_reg Aw.wpC_skip Aw.wpC_ret Aw.wpC_exit Aw.wpC_seq Aw.wpC_block Aw.wpC_loop Aw.wpC_cond Aw.stopAt_nil Aw.stopAt_cons Aw.wpD_skip Aw.wpD_ret Aw.wpD_exit Aw.wpD_region Aw.wpD_draw Aw.wpM_nil Aw.wpM_op Aw.wpM_gd Aw.wpD_seq Aw.wpD_block Aw.wpD_loop Aw.wpD_cond

/- slices.Equal[[]int,int] -/
def a14 : ACode :=
  (.seq (.region false [] [
     ⟨(some 4), none, (.mov (.v (.bool false)))⟩])
  (.seq (.seq (.region false [] [
     ⟨(some 6), none, (.mov (.t 0))⟩,
     ⟨(some 7), none, (.len (.t 6))⟩,
     ⟨(some 8), none, (.mov (.t 1))⟩,
     ⟨(some 9), none, (.len (.t 8))⟩,
     ⟨(some 10), none, (.bin .neq 3 (.t 7) (.t 9))⟩])
  (.cond (.t 10)
    (.seq (.region false [] [
       ⟨(some 4), none, (.mov (.v (.bool false)))⟩])
    .ret)
    .skip))
  (.seq (.seq (.region false [] [
     ⟨(some 11), none, (.mov (.t 0))⟩,
     ⟨(some 12), none, (.len (.t 11))⟩,
     ⟨(some 13), none, (.mov (.v (.int .i64 0)))⟩])
  (.block 0 (.loop (.seq (.region false [] [
       ⟨(some 14), none, (.bin .lss 3 (.t 13) (.t 12))⟩])
    (.seq (.cond (.t 14)
      .skip
      (.exit 0))
    (.seq (.block 1 (.seq (.region false [] [
        ⟨(some 15), none, (.mov (.t 13))⟩,
        ⟨(some 5), none, (.mov (.t 15))⟩])
     (.seq (.region true [[], [], [0, 1], [2], [], [], [4, 5], [6], [3, 7]] [
        ⟨(some 16), none, (.mov (.t 0))⟩,
        ⟨(some 17), none, (.mov (.t 5))⟩,
        ⟨(some 18), none, (.idx 1 (.t 16) (.t 17))⟩,
        ⟨(some 19), none, (.load 1 false (.t 18))⟩,
        ⟨(some 20), none, (.mov (.t 1))⟩,
        ⟨(some 21), none, (.mov (.t 5))⟩,
        ⟨(some 22), none, (.idx 1 (.t 20) (.t 21))⟩,
        ⟨(some 23), none, (.load 1 false (.t 22))⟩,
        ⟨(some 24), none, (.bin .neq 3 (.t 19) (.t 23))⟩])
     (.cond (.t 24)
       (.seq (.region false [] [
          ⟨(some 4), none, (.mov (.v (.bool false)))⟩])
       .ret)
       .skip))))
    (.region false [] [
       ⟨(some 25), none, (.bin .add 3 (.t 13) (.v (.int .i64 1)))⟩,
       ⟨(some 13), none, (.mov (.t 25))⟩])))))))
  (.seq (.region false [] [
     ⟨(some 4), none, (.mov (.v (.bool true)))⟩])
  .ret))))
theorem k14 : FnIs Tryd.prog 14 26 [.t 4] a14 := ⟨_, _, Tryd.func14, rfl, by kernel_rfl, by kernel_rfl, rfl⟩
/- gridhall/gridhallkeep4.interlockFact -/
def a9 : ACode :=
  (.seq (.region false [] [
     ⟨(some 0), none, (.mov (.v (.bool false)))⟩])
  (.seq (.region false [] [
     ⟨(some 7), none, (.call 16 [(.v (.string ⟨#[99, 108, 111, 115, 101, 32, 65, 32, 119, 104, 101, 110, 32, 111, 112, 101, 110, 32, 66, 10]⟩))])⟩,
     ⟨(some 6), none, (.mov (.t 7))⟩,
     ⟨(some 8), none, (.ext 0 (.t 6))⟩,
     ⟨(some 9), none, (.ext 1 (.t 6))⟩,
     ⟨(some 10), none, (.ext 2 (.t 6))⟩,
     ⟨(some 1), none, (.mov (.t 8))⟩,
     ⟨(some 2), none, (.mov (.t 9))⟩,
     ⟨(some 3), none, (.mov (.t 10))⟩])
  (.seq (.region false [] [
     ⟨(some 12), none, (.mov (.t 1))⟩,
     ⟨(some 13), none, (.build (.agg #[(.string ⟨#[]⟩), (.bool false)]) [(0, (1, (.v (.string ⟨#[65]⟩))))])⟩,
     ⟨(some 14), none, (.build (.agg #[(.string ⟨#[]⟩), (.bool false)]) [(0, (1, (.v (.string ⟨#[66]⟩)))), (1, (1, (.v (.bool true))))])⟩,
     ⟨(some 15), none, (.bsl 36 2 2 [(0, (.t 13)), (1, (.t 14))])⟩,
     ⟨(some 16), none, (.call 12 [(.t 12), (.t 15), (.v (.bool true)), (.v (.string ⟨#[65]⟩))])⟩,
     ⟨(some 11), none, (.mov (.t 16))⟩,
     ⟨(some 17), none, (.ext 0 (.t 11))⟩,
     ⟨(some 18), none, (.ext 1 (.t 11))⟩,
     ⟨(some 4), none, (.mov (.t 17))⟩,
     ⟨(some 5), none, (.mov (.t 18))⟩])
  (.seq (.region false [] [
     ⟨(some 19), none, (.mov (.t 3))⟩,
     ⟨(some 20), none, (.bin .eql 27 (.t 19) (.v (.int .i64 0)))⟩,
     ⟨(some 21), none, (.mov (.t 20))⟩,
     ⟨(some 22), (some (21, true)), (.mov (.t 2))⟩,
     ⟨(some 23), (some (21, true)), (.bin .eql 3 (.t 22) (.v (.int .i64 0)))⟩,
     ⟨(some 24), none, (.pick (.t 21) (.t 23) (.v (.bool false)))⟩,
     ⟨(some 25), none, (.mov (.t 24))⟩,
     ⟨(some 26), (some (25, true)), (.mov (.t 5))⟩,
     ⟨(some 27), (some (25, true)), (.bin .eql 27 (.t 26) (.v (.int .i64 0)))⟩,
     ⟨(some 28), none, (.pick (.t 25) (.t 27) (.v (.bool false)))⟩,
     ⟨(some 29), none, (.mov (.t 28))⟩,
     ⟨(some 30), (some (29, true)), (.mov (.t 1))⟩,
     ⟨(some 31), (some (29, true)), (.len (.t 30))⟩,
     ⟨(some 32), (some (29, true)), (.bin .eql 3 (.t 31) (.v (.int .i64 1)))⟩,
     ⟨(some 33), none, (.pick (.t 29) (.t 32) (.v (.bool false)))⟩,
     ⟨(some 34), none, (.mov (.t 33))⟩,
     ⟨(some 35), (some (34, true)), (.mov (.t 4))⟩,
     ⟨(some 36), (some (34, true)), (.bsl 3 1 1 [(0, (.v (.int .i64 0)))])⟩,
     ⟨(some 37), (some (34, true)), (.call 14 [(.t 35), (.t 36)])⟩,
     ⟨(some 38), none, (.pick (.t 34) (.t 37) (.v (.bool false)))⟩,
     ⟨(some 0), none, (.mov (.t 38))⟩])
  .ret))))
theorem k9 : FnIs Tryd.prog 9 39 [.t 0] a9 := ⟨_, _, Tryd.func9, rfl, by kernel_rfl, by kernel_rfl, rfl⟩

/-- A list is equal to itself. -/
theorem s14 (nl fl nm' fm) (l : List (Int)) (hl : l.length ≤ 1000) : Aw.Spec Tryd.prog 14 [] [.imm nl fl 1 (l.map ic), .imm nm' fm 1 (l.map ic)] (Gives (· = B true)) := by
  refine Aw.Spec.givesD k14 mixed rfl rfl rfl fun E hn hnp hp => ?_
  unfold a14
  have e9 : ((l.length : Int) != (l.length : Int)) = false := by simp
  simp (config := { maxSteps := 2000000 }) only [go_sem, ↓reduceIte, Int.reduceToNat, Nat.reduceMul, Int.reduceBEq, Int.reduceBNe, Nat.reduceBEq, Nat.reduceAdd, Nat.reduceSub, Nat.reduceLeDiff, Nat.reduceEqDiff, Nat.reduceLT, reduceCtorEq, e9]
  refine AWp.loop (fun k s => ∃ i : Nat, i + k = l.length ∧ Weak E s ⟨[(0, .imm nl fl 1 (l.map ic)), (1, .imm nm' fm 1 (l.map ic)), (12, I l.length), (13, I i)], []⟩) (n := l.length)
    ⟨0, by omega, weak_to [] hp hnp rfl (by simp (config := { maxSteps := 2000000 }) only [go_sem, ↓reduceIte, Int.reduceToNat, Nat.reduceMul, Int.reduceBEq, Int.reduceBNe, Nat.reduceBEq, Nat.reduceAdd, Nat.reduceSub, Nat.reduceLeDiff, Nat.reduceEqDiff, Nat.reduceLT, reduceCtorEq, Int.natCast_zero]) rfl⟩ ?_
  rintro k s ⟨i, hi, hw⟩
  refine AWp.weak hw (AWp.ofD [] [] hn mixed rfl ?_)
  rcases Nat.lt_or_ge i l.length with hlt | hge
  · have e0 : decide ((i : Int) < (l.length : Int)) = true := by simp; omega
    have e1 := getD_map ic hlt
    have e2 : IntKind.i64.wrap ((i : Int) + 1) = ((i + 1 : Nat) : Int) := by rw [w64 (by omega) (by omega)]; omega
    simp (config := { maxSteps := 2000000 }) only [go_sem, ↓reduceIte, Int.reduceToNat, Nat.reduceMul, Int.reduceBEq, Int.reduceBNe, Nat.reduceBEq, Nat.reduceAdd, Nat.reduceSub, Nat.reduceLeDiff, Nat.reduceEqDiff, Nat.reduceLT, reduceCtorEq, e0, e1, e2]
    (repeat (refine And.intro (by first | omega | (refine ⟨by omega, by omega⟩) | (refine ⟨by omega, by omega, by omega⟩) | (simp only [List.length_map, List.length_range, List.length_append, List.length_cons, List.length_nil, List.length_replicate, List.length_set]; omega) | (simp; omega) | (intro hgd; cases hgd) | (intro hgd; refine ⟨hgd, ?_⟩; first | omega | (refine ⟨by omega, by omega⟩) | (simp; omega))) ?_))
    exact ⟨k - 1, by omega, i + 1, by omega, weak_to [] hp hnp rfl (by simp (config := { maxSteps := 2000000 }) only [go_sem, ↓reduceIte, Int.reduceToNat, Nat.reduceMul, Int.reduceBEq, Int.reduceBNe, Nat.reduceBEq, Nat.reduceAdd, Nat.reduceSub, Nat.reduceLeDiff, Nat.reduceEqDiff, Nat.reduceLT, reduceCtorEq]) rfl⟩
  · have e0 : decide ((i : Int) < (l.length : Int)) = false := by simp; omega
    simp (config := { maxSteps := 2000000 }) only [go_sem, ↓reduceIte, Int.reduceToNat, Nat.reduceMul, Int.reduceBEq, Int.reduceBNe, Nat.reduceBEq, Nat.reduceAdd, Nat.reduceSub, Nat.reduceLeDiff, Nat.reduceEqDiff, Nat.reduceLT, reduceCtorEq, e0]

def stsA : List Sta := [⟨nA, false⟩, ⟨nB, true⟩]
theorem expl_A : explL [ruleA] stsA true nA = [0] ∧ explE [ruleA] stsA nA = 0 := by decide +kernel
set_option maxRecDepth 20000 in
set_option maxHeartbeats 1000000 in
theorem s9 : Aw.Spec Tryd.prog 9 [] [] (Gives (· = B true)) := by
  refine Aw.Spec.givesW k9 rfl rfl fun E hn hnp hp => ?_
  unfold a9
  have pin : ∀ r, E.pin r = none := fun r => hp.none hnp (Nat.zero_le _)
  refine AWp.ofD [] [] hn mixed rfl ?_
  simp (config := { maxSteps := 2000000 }) only [go_sem, ↓reduceIte, Int.reduceToNat, Nat.reduceMul, Int.reduceBEq, Int.reduceBNe, Nat.reduceBEq, Nat.reduceAdd, Nat.reduceSub, Nat.reduceLeDiff, Nat.reduceEqDiff, Nat.reduceLT, reduceCtorEq]
  refine AWpL.callA [] s16 rfl rfl (by rw [hn]; rfl) rfl (fun r hr => by cases hr) fun rg v hv => ?_
  obtain ⟨rfl, rfl⟩ := hv
  refine ⟨Nat.zero_le _, ?_⟩
  rw [retS_nil]
  refine AWpL.ofM hn rfl ?_
  simp (config := { maxSteps := 2000000 }) only [go_sem, ↓reduceIte, Int.reduceToNat, Nat.reduceMul, Int.reduceBEq, Int.reduceBNe, Nat.reduceBEq, Nat.reduceAdd, Nat.reduceSub, Nat.reduceLeDiff, Nat.reduceEqDiff, Nat.reduceLT, reduceCtorEq]
  refine AWpL.weak (weak_freeze 0 rfl (pin 0) (by simp (config := { maxSteps := 2000000 }) only [go_sem, ↓reduceIte, Int.reduceToNat, Nat.reduceMul, Int.reduceBEq, Int.reduceBNe, Nat.reduceBEq, Nat.reduceAdd, Nat.reduceSub, Nat.reduceLeDiff, Nat.reduceEqDiff, Nat.reduceLT, reduceCtorEq, Nat.le_refl])) (AWpL.ofM hn rfl ?_)
  simp (config := { maxSteps := 2000000 }) only [go_sem, ↓reduceIte, Int.reduceToNat, Nat.reduceMul, Int.reduceBEq, Int.reduceBNe, Nat.reduceBEq, Nat.reduceAdd, Nat.reduceSub, Nat.reduceLeDiff, Nat.reduceEqDiff, Nat.reduceLT, reduceCtorEq]
  refine AWpL.callA (args := [rs none false [ruleA], sts' none true stsA, B true, S nA]) [] (s12 none false [ruleA] none true stsA true nA (fun r hr => by
      cases List.mem_singleton.1 hr
      exact ⟨by decide, fun x hx => by cases List.mem_singleton.1 hx; decide⟩) (fun x hx => by
      rcases List.mem_cons.1 hx with rfl | hx
      · decide
      · cases List.mem_singleton.1 hx; decide)) rfl rfl (by rw [hn]; rfl) rfl (fun r hr => by cases hr) fun rg v hv => ?_
  obtain ⟨rfl, rfl⟩ := hv
  refine ⟨Nat.zero_le _, AWpL.ofM hn rfl ?_⟩
  rw [expl_A.1, expl_A.2]
  simp (config := { maxSteps := 2000000 }) only [go_sem, ↓reduceIte, Int.reduceToNat, Nat.reduceMul, Int.reduceBEq, Int.reduceBNe, Nat.reduceBEq, Nat.reduceAdd, Nat.reduceSub, Nat.reduceLeDiff, Nat.reduceEqDiff, Nat.reduceLT, reduceCtorEq, Aw.retS, Aw.retRg, Aw.kpM, Aw.bkM, Aw.pos, Aw.isBox]
  refine AWpL.weak (weak_freeze 1 rfl (pin 1) (by simp (config := { maxSteps := 2000000 }) only [go_sem, ↓reduceIte, Int.reduceToNat, Nat.reduceMul, Int.reduceBEq, Int.reduceBNe, Nat.reduceBEq, Nat.reduceAdd, Nat.reduceSub, Nat.reduceLeDiff, Nat.reduceEqDiff, Nat.reduceLT, reduceCtorEq, Nat.le_refl])) ?_
  simp (config := { maxSteps := 2000000 }) only [go_sem, ↓reduceIte, Int.reduceToNat, Nat.reduceMul, Int.reduceBEq, Int.reduceBNe, Nat.reduceBEq, Nat.reduceAdd, Nat.reduceSub, Nat.reduceLeDiff, Nat.reduceEqDiff, Nat.reduceLT, reduceCtorEq]
  refine AWpL.guardT rfl (AWpL.weak (weak_opt 35 rfl) ?_)
  refine AWpL.calle (s14 none false none true [0] (by decide)) rfl (by rw [hn]; rfl) (by simp (config := { maxSteps := 2000000 }) only [go_sem, ↓reduceIte, Int.reduceToNat, Nat.reduceMul, Int.reduceBEq, Int.reduceBNe, Nat.reduceBEq, Nat.reduceAdd, Nat.reduceSub, Nat.reduceLeDiff, Nat.reduceEqDiff, Nat.reduceLT, reduceCtorEq]) (AWpL.ofM hn rfl ?_)
  simp (config := { maxSteps := 2000000 }) only [go_sem, ↓reduceIte, Int.reduceToNat, Nat.reduceMul, Int.reduceBEq, Int.reduceBNe, Nat.reduceBEq, Nat.reduceAdd, Nat.reduceSub, Nat.reduceLeDiff, Nat.reduceEqDiff, Nat.reduceLT, reduceCtorEq]
end Go.Proofs.YtocghkacngoblaaDoor
