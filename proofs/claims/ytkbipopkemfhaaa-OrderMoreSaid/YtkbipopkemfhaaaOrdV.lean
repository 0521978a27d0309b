/- Orders: the law of further rules. -/
import Derived.Test.YtkbipopkemfhaaaAwZh
import Derived.Test.YtkbipopkemfhaaaOrdU
import Derived.Test.YtkbipopkemfhaaaOrdM
set_option linter.unusedVariables false
set_option linter.unusedSimpArgs false
namespace Go.Proofs.Ytkbipopkemfhaaa
open Go.Proofs.Ytkbipopkemfhaaa.Aw
attribute [local go_sem] Int.natCast_zero Int.natCast_one bne_self_eq_false beq_self_eq_true Bool.not_true Bool.not_false Option.isSome_none Option.isSome_some Aw.bkM_nil Option.getD_some Option.getD_none Nat.sub_zero Int.toNat_zero Aw.frzS Aw.frzT Aw.frzA Aw.frzL Aw.frzR Aw.frzO Aw.frzOL Aw.frzOT Aw.frzOR Aw.killS Aw.mapT Aw.mapR Aw.killM Aw.resAVs Aw.resAV Aw.quietOps Aw.wpP Aw.wpT Aw.wpS Aw.AOp.mild List.getElem?_cons_zero List.getElem?_cons_succ Bool.and_false Bool.and_self Bool.false_and Aw.opOb Aw.gdB Aw.Rnd Aw.subTm List.length_map Int.toNat_natCast and_self Aw.SeqC Aw.stops Aw.Ends Aw.looks Aw.renA Aw.renL Aw.renT Aw.renS Aw.wpO Aw.aop Aw.putTm Aw.St.ev Aw.St.put Aw.St.putO Aw.binAV Aw.intBin Aw.strBin Aw.pickAV Aw.optInt Aw.AV.strip Aw.AV.guard Aw.AV.cells Aw.gdOb Aw.AOp.opds Aw.AOp.still Aw.ptrCells Aw.St.reg Aw.fillAV Aw.fillOb Aw.elsOb Aw.splice Aw.firm Aw.cellish Aw.AV.shut Aw.shutAll Aw.Seq Aw.Blk Aw.retS_nil Aw.mapA Aw.mapL Aw.borA Aw.borOb Aw.allOb Aw.tupOf Aw.params Aw.Opd.of Array.toList Value.cells List.map_cons List.map_nil List.getD_cons_zero List.getD_cons_succ List.getD_nil List.length_cons List.length_nil List.take_succ_cons List.take_zero List.take_nil List.drop_zero List.drop_succ_cons List.drop_nil List.set_cons_zero List.set_cons_succ List.append_nil List.nil_append List.cons_append List.all_cons List.all_nil cond_false cond_true if_true if_false true_and and_true Bool.and_true Bool.true_and Option.map_some Option.map_none false_implies forall_const implies_true forall_eq imp_self Bool.cond_false_right Bool.cond_true_left beq_true beq_false Bool.not_eq_true' Bool.false_eq_true Nat.zero_add Nat.add_zero Aw.eqCells Aw.stopDraw Aw.skipS Aw.exactCap Aw.revealS Aw.srcEls Aw.srcSz
attribute [local go_sem ↓] Aw.look_nil Aw.look_ite Aw.wpL_nil Aw.wpL_op Aw.wpL_gd Aw.wpQ_nil Aw.wpQ_op Aw.wpQ_gd Aw.wpC_draw Aw.wpC_reg Aw.wpC_skip Aw.wpC_ret Aw.wpC_exit Aw.wpC_seq Aw.wpC_block Aw.wpC_loop Aw.wpC_cond Aw.stopAt_nil Aw.stopAt_cons Aw.wpD_skip Aw.wpD_ret Aw.wpD_exit Aw.wpD_region Aw.wpD_draw Aw.wpM_nil Aw.wpM_op Aw.wpM_gd Aw.wpD_seq Aw.wpD_block Aw.wpD_loop Aw.wpD_cond
/- gridhall/gridhallkeep4.OrderMore -/
def a6 : ACode :=
  (.seq (.region false [] [
     ⟨(some 8), none, (.mov (.v (.bool false)))⟩])
  (.seq (.region true [[], [], [1], [2], [0, 3], [], [], [6], [7], [5, 8], [4, 0, 1, 2, 3, 4], [9, 10, 0, 1, 2, 3, 4, 5, 6, 7, 8, 9, 10]] [
     ⟨(some 13), none, (.mov (.t 2))⟩,
     ⟨(some 14), none, (.mov (.t 2))⟩,
     ⟨(some 15), none, (.len (.t 14))⟩,
     ⟨(some 16), none, (.mni (.t 15) (.v (.int .i64 5)))⟩,
     ⟨(some 17), none, (.slc 2 (.t 13) none (some (.t 16)) none)⟩,
     ⟨(some 18), none, (.mov (.t 3))⟩,
     ⟨(some 19), none, (.mov (.t 3))⟩,
     ⟨(some 20), none, (.len (.t 19))⟩,
     ⟨(some 21), none, (.mni (.t 20) (.v (.int .i64 5)))⟩,
     ⟨(some 22), none, (.slc 2 (.t 18) none (some (.t 21)) none)⟩,
     ⟨(some 2), none, (.mov (.t 17))⟩,
     ⟨(some 3), none, (.mov (.t 22))⟩])
  (.seq (.region false [] [
     ⟨(some 24), none, (.mov (.t 0))⟩,
     ⟨(some 25), none, (.mov (.t 1))⟩,
     ⟨(some 26), none, (.bsl 22 1 2 [(0, (.t 24)), (1, (.t 25))])⟩,
     ⟨(some 27), none, (.call 15 [(.t 26)])⟩,
     ⟨(some 28), none, (.mov (.t 2))⟩,
     ⟨(some 29), none, (.mov (.t 3))⟩,
     ⟨(some 30), none, (.call 8 [(.t 27), (.t 28), (.t 29), (.v (.slice none 0 0))])⟩,
     ⟨(some 23), none, (.mov (.t 30))⟩,
     ⟨(some 31), none, (.ext 0 (.t 23))⟩,
     ⟨(some 32), none, (.ext 1 (.t 23))⟩,
     ⟨(some 9), none, (.mov (.t 31))⟩,
     ⟨(some 10), none, (.mov (.t 32))⟩])
  (.seq (.region false [] [
     ⟨(some 34), none, (.mov (.t 0))⟩,
     ⟨(some 35), none, (.mov (.t 2))⟩,
     ⟨(some 36), none, (.mov (.t 3))⟩,
     ⟨(some 37), none, (.call 8 [(.t 34), (.t 35), (.t 36), (.v (.slice none 0 0))])⟩,
     ⟨(some 33), none, (.mov (.t 37))⟩,
     ⟨(some 38), none, (.ext 0 (.t 33))⟩,
     ⟨(some 39), none, (.ext 1 (.t 33))⟩,
     ⟨(some 11), none, (.mov (.t 38))⟩,
     ⟨(some 12), none, (.mov (.t 39))⟩])
  (.seq (.seq (.region false [] [
     ⟨(some 40), none, (.mov (.t 10))⟩,
     ⟨(some 41), none, (.bin .neq 26 (.t 40) (.v (.int .i64 0)))⟩])
  (.cond (.t 41)
    (.seq (.region false [] [
       ⟨(some 42), none, (.call 9 [])⟩,
       ⟨(some 43), none, (.mov (.t 42))⟩,
       ⟨(some 44), (some (43, true)), (.mov (.t 9))⟩,
       ⟨(some 45), (some (43, true)), (.len (.t 44))⟩,
       ⟨(some 46), (some (43, true)), (.bin .eql 3 (.t 45) (.v (.int .i64 0)))⟩,
       ⟨(some 47), none, (.pick (.t 43) (.t 46) (.v (.bool false)))⟩,
       ⟨(some 8), none, (.mov (.t 47))⟩])
    .ret)
    .skip))
  (.seq (.region false [] [
     ⟨(some 48), none, (.call 9 [])⟩,
     ⟨(some 49), none, (.mov (.t 48))⟩,
     ⟨(some 50), (some (49, true)), (.mov (.t 12))⟩,
     ⟨(some 51), (some (49, true)), (.bin .eql 26 (.t 50) (.v (.int .i64 0)))⟩,
     ⟨(some 52), none, (.pick (.t 49) (.t 51) (.v (.bool false)))⟩,
     ⟨(some 53), none, (.mov (.t 52))⟩,
     ⟨(some 54), (some (53, true)), (.mov (.t 11))⟩,
     ⟨(some 55), (some (53, true)), (.len (.t 54))⟩,
     ⟨(some 56), (some (53, true)), (.mov (.t 9))⟩,
     ⟨(some 57), (some (53, true)), (.len (.t 56))⟩,
     ⟨(some 58), (some (53, true)), (.bin .leq 3 (.t 55) (.t 57))⟩,
     ⟨(some 59), none, (.pick (.t 53) (.t 58) (.v (.bool false)))⟩,
     ⟨(some 8), none, (.mov (.t 59))⟩])
  .ret))))))
theorem k6 : FnIs Try.prog 6 60 [.t 8] a6 := ⟨_, _, Try.func6, rfl, by kernel_rfl, by kernel_rfl, rfl⟩

set_option maxRecDepth 20000 in
set_option maxHeartbeats 1000000 in
theorem s6 (nr fr) (r0 : List Rul) (nm' fm) (m0 : List Rul) (na fa) (a0 : List Sta) (nb fb) (b0 : List Sta) (hr : ∀ r ∈ r0, RulOk r) (hm : ∀ r ∈ m0, RulOk r)
    (ha : ∀ x ∈ a0, x.name.size ≤ 9223372036854775807) (hb : ∀ x ∈ b0, x.name.size ≤ 9223372036854775807) (hlr : r0.length * 48 ≤ 140737488351232) (hlm : m0.length * 48 ≤ 140737488351232) :
    Aw.Spec Try.prog 6 [] [rs nr fr r0, rs nm' fm m0, sts' na fa a0, sts' nb fb b0] (Gives (· = B true)) := by
  refine Aw.Spec.givesW k6 rfl rfl fun E hn hnp hp => ?_
  unfold a6
  have pin : ∀ r, E.pin r = none := fun r => hp.none hnp (Nat.zero_le _)
  refine AWp.weak (weak_ent 0 (by rfl) (Ent.plain nr fr 3 (r0.map rlc))) ?_
  refine AWp.weak (weak_ent 1 (by rfl) (Ent.plain nm' fm 3 (m0.map rlc))) (AWp.ofD [] [] hn mixed rfl ?_)
  simp (config := { maxSteps := 2000000 }) only [go_sem, ↓reduceIte, Int.reduceToNat, Nat.reduceMul, Int.reduceBEq, Int.reduceBNe, Nat.reduceBEq, Nat.reduceAdd, Nat.reduceSub, Nat.reduceLeDiff, Nat.reduceEqDiff, Nat.reduceLT, reduceCtorEq, minT5]
  (repeat (refine And.intro (by first | omega | (refine ⟨by omega, by omega⟩) | (refine ⟨by omega, by omega, by omega⟩) | (simp only [List.length_map, List.length_range, List.length_append, List.length_cons, List.length_nil, List.length_replicate, List.length_set]; omega) | (simp; omega) | (intro hgd; cases hgd) | (intro hgd; refine ⟨hgd, ?_⟩; first | omega | (refine ⟨by omega, by omega⟩) | (simp; omega))) ?_))
  have ha2 : ∀ x ∈ a0.take 5, x.name.size ≤ 9223372036854775807 := fun x hx => ha x (List.mem_of_mem_take hx)
  have hb2 : ∀ x ∈ b0.take 5, x.name.size ≤ 9223372036854775807 := fun x hx => hb x (List.mem_of_mem_take hx)
  generalize a0.take 5 = a at *
  generalize b0.take 5 = b at *
  refine AWpL.weak (weak_freeze 0 rfl (pin 0) (by simp (config := { maxSteps := 2000000 }) only [go_sem, ↓reduceIte, Int.reduceToNat, Nat.reduceMul, Int.reduceBEq, Int.reduceBNe, Nat.reduceBEq, Nat.reduceAdd, Nat.reduceSub, Nat.reduceLeDiff, Nat.reduceEqDiff, Nat.reduceLT, reduceCtorEq, Nat.le_refl])) (AWpL.ofM hn rfl ?_)
  simp (config := { maxSteps := 2000000 }) only [go_sem, ↓reduceIte, Int.reduceToNat, Nat.reduceMul, Int.reduceBEq, Int.reduceBNe, Nat.reduceBEq, Nat.reduceAdd, Nat.reduceSub, Nat.reduceLeDiff, Nat.reduceEqDiff, Nat.reduceLT, reduceCtorEq]
  have hall : ∀ r ∈ r0 ++ m0, RulOk r := fun r h => by
    rcases List.mem_append.1 h with h | h
    · exact hr r h
    · exact hm r h
  have hfl : ([r0, m0] : List (List Rul)).flatten = r0 ++ m0 := by simp
  have hcc := s15 none true [r0, m0] (by simp) (by rw [hfl, List.length_append]; omega)
  rw [hfl] at hcc
  refine AWpL.callA [] hcc rfl rfl (by rw [hn]; rfl) rfl (fun r hr => by cases hr) fun rg v hv => ?_
  obtain ⟨rfl, rfl⟩ := hv
  refine ⟨Nat.zero_le _, AWpL.ofM hn rfl ?_⟩
  simp (config := { maxSteps := 2000000 }) only [go_sem, ↓reduceIte, Int.reduceToNat, Nat.reduceMul, Int.reduceBEq, Int.reduceBNe, Nat.reduceBEq, Nat.reduceAdd, Nat.reduceSub, Nat.reduceLeDiff, Nat.reduceEqDiff, Nat.reduceLT, reduceCtorEq, Aw.retS, Aw.retRg, Aw.kpM, Aw.bkM, Aw.pos, Aw.isBox]
  refine AWpL.callA (args := [rs none false (r0 ++ m0), sts' na false a, sts' nb false b, .val (.slice none 0 0)]) [] ((s8 ⟨none, false, r0 ++ m0, na, false, a, none, false, []⟩ nb false b (Nat.zero_le _) hall ha2 hb2).args ⟨Ent.refl _, Ent.refl _, Ent.refl _, Ent.ofnil0 1, trivial⟩) rfl rfl (by rw [hn]; rfl) rfl (fun r hr => by cases hr) fun rg v hv => ?_
  obtain ⟨rfl, rfl⟩ := hv
  refine ⟨Nat.zero_le _, AWpL.ofM hn rfl ?_⟩
  simp (config := { maxSteps := 2000000 }) only [go_sem, ↓reduceIte, Int.reduceToNat, Nat.reduceMul, Int.reduceBEq, Int.reduceBNe, Nat.reduceBEq, Nat.reduceAdd, Nat.reduceSub, Nat.reduceLeDiff, Nat.reduceEqDiff, Nat.reduceLT, reduceCtorEq, Aw.retS, Aw.retRg, Aw.kpM, Aw.bkM, Aw.pos, Aw.isBox]
  refine AWpL.callA (args := [rs none false r0, sts' na false a, sts' nb false b, .val (.slice none 0 0)]) [] ((s8 ⟨none, false, r0, na, false, a, none, false, []⟩ nb false b (Nat.zero_le _) hr ha2 hb2).args ⟨Ent.refl _, Ent.refl _, Ent.refl _, Ent.ofnil0 1, trivial⟩) rfl rfl (by rw [hn]; rfl) rfl (fun r hr => by cases hr) fun rg v hv => ?_
  obtain ⟨rfl, rfl⟩ := hv
  refine ⟨Nat.zero_le _, AWpL.ofM hn rfl ?_⟩
  simp (config := { maxSteps := 2000000 }) only [go_sem, ↓reduceIte, Int.reduceToNat, Nat.reduceMul, Int.reduceBEq, Int.reduceBNe, Nat.reduceBEq, Nat.reduceAdd, Nat.reduceSub, Nat.reduceLeDiff, Nat.reduceEqDiff, Nat.reduceLT, reduceCtorEq, Aw.retS, Aw.retRg, Aw.kpM, Aw.bkM, Aw.pos, Aw.isBox]
  have hth : planE (r0 ++ m0) a b [] = 0 → planE r0 a b [] = 0 ∧ (planL ⟨none, false, r0, na, false, a, none, false, []⟩ b).length ≤ (planL ⟨none, false, r0 ++ m0, na, false, a, none, false, []⟩ b).length := fun h1 => further (pa := ⟨none, false, r0 ++ m0, na, false, a, none, false, []⟩) (pb := ⟨none, false, r0, na, false, a, none, false, []⟩) rfl rfl rfl h1
  have hne : planE (r0 ++ m0) a b [] ≠ 0 → planL ⟨none, false, r0 ++ m0, na, false, a, none, false, []⟩ b = [] := fun h => if_neg h
  generalize planE (r0 ++ m0) a b [] = e1 at *
  generalize planE r0 a b [] = e2 at *
  generalize planL ⟨none, false, r0 ++ m0, na, false, a, none, false, []⟩ b = x at *
  generalize planL ⟨none, false, r0, na, false, a, none, false, []⟩ b = y at *
  simp only [Bool.or_eq_true, Bool.or_eq_false_iff, bne_iff_ne, bne_eq_false_iff_eq, ne_eq]
  refine ⟨fun h => ?_, fun h => ?_⟩
  · (refine AWpL.calle (s9) rfl (by rw [hn]; rfl) (by simp (config := { maxSteps := 2000000 }) only [go_sem, ↓reduceIte, Int.reduceToNat, Nat.reduceMul, Int.reduceBEq, Int.reduceBNe, Nat.reduceBEq, Nat.reduceAdd, Nat.reduceSub, Nat.reduceLeDiff, Nat.reduceEqDiff, Nat.reduceLT, reduceCtorEq]) (AWpL.ofM hn rfl ?_); simp (config := { maxSteps := 2000000 }) only [go_sem, ↓reduceIte, Int.reduceToNat, Nat.reduceMul, Int.reduceBEq, Int.reduceBNe, Nat.reduceBEq, Nat.reduceAdd, Nat.reduceSub, Nat.reduceLeDiff, Nat.reduceEqDiff, Nat.reduceLT, reduceCtorEq])
    rw [hne h]
    rfl
  obtain ⟨h3, h4⟩ := hth h
  subst h3
  have e6 : decide ((y.length : Int) ≤ (x.length : Int)) = true := decide_eq_true (by omega)
  (refine AWpL.calle (s9) rfl (by rw [hn]; rfl) (by simp (config := { maxSteps := 2000000 }) only [go_sem, ↓reduceIte, Int.reduceToNat, Nat.reduceMul, Int.reduceBEq, Int.reduceBNe, Nat.reduceBEq, Nat.reduceAdd, Nat.reduceSub, Nat.reduceLeDiff, Nat.reduceEqDiff, Nat.reduceLT, reduceCtorEq]) (AWpL.ofM hn rfl ?_); simp (config := { maxSteps := 2000000 }) only [go_sem, ↓reduceIte, Int.reduceToNat, Nat.reduceMul, Int.reduceBEq, Int.reduceBNe, Nat.reduceBEq, Nat.reduceAdd, Nat.reduceSub, Nat.reduceLeDiff, Nat.reduceEqDiff, Nat.reduceLT, reduceCtorEq])
  rw [e6]
end Go.Proofs.Ytkbipopkemfhaaa
