/- Upkeep: what the other laws compute. -/
import Derived.Test.YtncfffplnmlnfaaAwZf
import Derived.Test.YtncfffplnmlnfaaUpF
set_option linter.unusedVariables false
set_option linter.unusedSimpArgs false
namespace Go.Proofs.Ytncfffplnmlnfaa
open Go.Proofs.Ytncfffplnmlnfaa.Aw
attribute [local go_sem] Int.natCast_zero Int.natCast_one bne_self_eq_false beq_self_eq_true Bool.not_true Bool.not_false Option.isSome_none Option.isSome_some Aw.bkM_nil Option.getD_some Option.getD_none Nat.sub_zero Int.toNat_zero Aw.frzS Aw.frzT Aw.frzA Aw.frzL Aw.frzR Aw.frzO Aw.frzOL Aw.frzOT Aw.frzOR Aw.killS Aw.mapT Aw.mapR Aw.killM Aw.resAVs Aw.resAV Aw.quietOps Aw.wpP Aw.wpT Aw.wpS Aw.AOp.mild List.getElem?_cons_zero List.getElem?_cons_succ Bool.and_false Bool.and_self Bool.false_and Aw.opOb Aw.gdB Aw.Rnd Aw.subTm List.length_map Int.toNat_natCast and_self Aw.SeqC Aw.stops Aw.Ends Aw.looks Aw.renA Aw.renL Aw.renT Aw.renS Aw.wpO Aw.aop Aw.putTm Aw.St.ev Aw.St.put Aw.St.putO Aw.binAV Aw.intBin Aw.strBin Aw.pickAV Aw.optInt Aw.AV.strip Aw.AV.guard Aw.AV.cells Aw.gdOb Aw.AOp.opds Aw.AOp.still Aw.ptrCells Aw.St.reg Aw.fillAV Aw.fillOb Aw.elsOb Aw.splice Aw.firm Aw.cellish Aw.AV.shut Aw.shutAll Aw.Seq Aw.Blk Aw.retS_nil Aw.mapA Aw.mapL Aw.borA Aw.borOb Aw.allOb Aw.tupOf Aw.params Aw.Opd.of Array.toList Value.cells List.map_cons List.map_nil List.getD_cons_zero List.getD_cons_succ List.getD_nil List.length_cons List.length_nil List.take_succ_cons List.take_zero List.take_nil List.drop_zero List.drop_succ_cons List.drop_nil List.set_cons_zero List.set_cons_succ List.append_nil List.nil_append List.cons_append List.all_cons List.all_nil cond_false cond_true if_true if_false true_and and_true Bool.and_true Bool.true_and Option.map_some Option.map_none false_implies forall_const implies_true forall_eq imp_self Bool.cond_false_right Bool.cond_true_left beq_true beq_false Bool.not_eq_true' Bool.false_eq_true Nat.zero_add Nat.add_zero Aw.eqCells Aw.exactCap Aw.overEls Aw.revealS Aw.srcEls Aw.srcSz
attribute [local go_sem ↓] Aw.look_nil Aw.look_ite Aw.wpL_nil Aw.wpL_op Aw.wpL_gd Aw.wpQ_nil Aw.wpQ_op Aw.wpQ_gd Aw.wpC_draw Aw.wpC_reg Aw.wpC_skip Aw.wpC_ret Aw.wpC_exit Aw.wpC_seq Aw.wpC_block Aw.wpC_loop Aw.wpC_cond Aw.stopAt_nil Aw.stopAt_cons Aw.wpD_skip Aw.wpD_ret Aw.wpD_exit Aw.wpD_region Aw.wpD_draw Aw.wpM_nil Aw.wpM_op Aw.wpM_gd Aw.wpD_seq Aw.wpD_block Aw.wpD_loop Aw.wpD_cond
theorem best_zero {t : Task} (he : (bestF t).2.2 = 0) (hs : upChk t = 0 → 0 < t.jobs.length → SPost t [] none (searchF t t.jobs.length [] none) All) :
    Full t (bestF t).1 ∧ (bestF t).2.1 = costE t (bestF t).1 ∧ ∀ p, Full t p → (bestF t).2.1 ≤ costE t p := by
  have hc := best_chk he
  rcases Nat.eq_zero_or_pos t.jobs.length with hz | hz
  · have e1 : bestF t = ([], 0, 0) := by unfold bestF; rw [if_neg (by simp [hc]), if_pos hz]
    rw [e1]
    refine ⟨⟨OkPlan.nil t, by rw [hz]; rfl⟩, rfl, fun p hp => ?_⟩
    exact costE_nonneg (up_ok hc) hp.1.1
  · exact best_some hc hz (hs hc hz) he
def noneT (t : Task) : Task := { t with na := some true, fa := true, apart := [] }
def dropT (t : Task) : Task := { noneT t with fj := false, jobs := t.jobs.take (t.jobs.length - 1) }
theorem chkJ_take : ∀ {l prev : List Job} (k : Nat), chkJ prev l = 0 → chkJ prev (l.take k) = 0
  | _, _, 0, h => by simp [chkJ]
  | [], _, k + 1, h => by simp [chkJ]
  | p :: l, prev, k + 1, h => by
    rw [List.take_succ_cons]
    unfold chkJ at h ⊢
    split at h
    · cases h
    split at h
    · cases h
    split at h
    · cases h
    rename_i h1 h2 h3
    rw [if_neg h1, if_neg h2, if_neg h3]
    exact chkJ_take k h
theorem drop_chk {t : Task} (h : upChk (noneT t) = 0) : upChk (dropT t) = 0 := by
  unfold upChk dropT noneT at *
  simp only at *
  split at h
  · cases h
  split at h
  · cases h
  split at h
  · rename_i h1; exact absurd h h1
  rename_i h2 h3 h4
  have h5 := chkJ_take (t.jobs.length - 1) (Classical.not_not.1 h4)
  rw [if_neg (by simp; omega), if_neg h3, if_neg (by simp [h5])]
  rfl
theorem drop_job {t : Task} {i : Nat} (h : i < t.jobs.length - 1) : job (dropT t) i = job (noneT t) i := by
  unfold job
  show (t.jobs.take (t.jobs.length - 1)).getD i default = t.jobs.getD i default
  rw [List.getD_eq_getElem?_getD, List.getD_eq_getElem?_getD, List.getElem?_take, if_pos h]
theorem drop_many {t : Task} {l : List Int} {d : Int} : ∀ {i : Nat}, i ≤ t.jobs.length - 1 → manyN (dropT t) l d i = manyN (noneT t) l d i
  | 0, _ => rfl
  | i + 1, h => by rw [manyN_succ, manyN_succ, drop_many (by omega), drop_job (by omega)]
theorem drop_allowed {t : Task} {l : List Int} (h0 : 0 < l.length) (h : l.length ≤ t.jobs.length - 1) : allowedE (dropT t) l = allowedE (noneT t) l := by
  unfold allowedE
  have h1 : overB (dropT t) l = overB (noneT t) l := by
    funext j
    unfold overB
    rw [drop_many h]; rfl
  rw [h1, drop_job (by omega)]
  rfl
theorem drop_cost {t : Task} {l m : List Int} : ∀ {i : Nat}, i ≤ t.jobs.length - 1 → (∀ j, j < i → pat l j = pat m j) → costN (dropT t) l i = costN (noneT t) m i
  | 0, _, _ => rfl
  | i + 1, h, hp => by rw [costN, costN, drop_cost (by omega) fun j hj => hp j (by omega), drop_job (by omega), hp i (by omega)]
theorem alone_law {t : Task} (hz : 0 < t.jobs.length) (he : (bestF (noneT t)).2.2 = 0) (hs : upChk (noneT t) = 0 → 0 < (noneT t).jobs.length → SPost (noneT t) [] none (searchF (noneT t) (noneT t).jobs.length [] none) All)
    (hs' : upChk (dropT t) = 0 → 0 < (dropT t).jobs.length → SPost (dropT t) [] none (searchF (dropT t) (dropT t).jobs.length [] none) All) : (bestF (dropT t)).2.2 = 0 ∧ (bestF (dropT t)).2.1 ≤ (bestF (noneT t)).2.1 := by
  obtain ⟨h1, h2, _⟩ := best_zero he hs
  have hc := best_chk he
  have hok := up_ok hc
  have hc' := drop_chk hc
  have hlen : (bestF (noneT t)).1.length = t.jobs.length := h1.2
  have hjl : (dropT t).jobs.length = t.jobs.length - 1 := by show (t.jobs.take (t.jobs.length - 1)).length = _; simp
  generalize (bestF (noneT t)).1 = q at *
  have hf : Full (dropT t) (q.take (t.jobs.length - 1)) := by
    refine ⟨⟨⟨by rw [hjl]; simp; omega, fun i hi => ?_⟩, fun k hk => ?_⟩, by rw [hjl]; simp; omega⟩
    · rw [List.length_take] at hi
      rw [drop_job (by omega), pat_take (by omega)]
      exact h1.1.1.2 i (by omega)
    · rw [List.length_take] at hk
      rw [List.take_take, Nat.min_eq_left (by omega), drop_allowed (by simp; omega) (by simp; omega)]
      exact h1.1.2 k (by omega)
  have hcost : costE (dropT t) (q.take (t.jobs.length - 1)) ≤ costE (noneT t) q := by
    unfold costE
    rw [List.length_take, Nat.min_eq_left (by omega), drop_cost (m := q) (Nat.le_refl _) fun j hj => pat_take hj]
    exact costN_mono hok h1.1.1 (by omega) (Nat.le_refl _)
  have he' : (bestF (dropT t)).2.2 = 0 := by
    by_cases h : (bestF (dropT t)).2.2 = 0
    · exact h
    · rcases Nat.eq_zero_or_pos (dropT t).jobs.length with hz' | hz'
      · have e1 : bestF (dropT t) = ([], 0, 0) := by unfold bestF; rw [if_neg (by simp [hc']), if_pos hz']
        rw [e1]
      · exact absurd hf ((best_none hc' hz' (hs' hc' hz') h).2 _)
  obtain ⟨_, _, h5⟩ := best_zero he' hs'
  exact ⟨he', by rw [h2]; exact Int.le_trans (h5 _ hf) hcost⟩
set_option maxRecDepth 20000 in
set_option maxHeartbeats 1000000 in
theorem s4 (t : Task) (hs : Named t) (hl63 : t.jobs.length ≤ 9223372036854775807) : Aw.Spec Try.prog 4 [] [ta t] (Gives (· = B true)) := by
  refine Aw.Spec.givesW k4 rfl rfl fun E hn hnp hp => ?_
  unfold a4
  have pin : ∀ r, E.pin r = none := fun r => hp.none hnp (Nat.zero_le _)
  refine AWp.ofD [] [] hn mixed rfl ?_
  simp (config := { maxSteps := 2000000 }) only [go_sem, ↓reduceIte, Int.reduceToNat, Nat.reduceMul, Int.reduceBEq, Int.reduceBNe, Nat.reduceBEq, Nat.reduceAdd, Nat.reduceSub, Nat.reduceLeDiff, Nat.reduceEqDiff, Nat.reduceLT, reduceCtorEq]
  refine AWpL.callA [] (s6 t hl63) rfl rfl (by rw [hn]; rfl) rfl (fun r hr => by cases hr) fun rg v hv => ?_
  obtain ⟨rfl, rfl⟩ := hv
  refine ⟨Nat.zero_le _, ?_⟩
  rw [retS_new]
  have hsm := hs.small
  have h4 : (smallT t).jobs.length ≤ 4 := by show ((t.jobs.take 4).map trim).length ≤ 4; simp; omega
  generalize smallT t = T at *
  refine AWpL.ofM hn rfl ?_
  simp (config := { maxSteps := 2000000 }) only [go_sem, ↓reduceIte, Int.reduceToNat, Nat.reduceMul, Int.reduceBEq, Int.reduceBNe, Nat.reduceBEq, Nat.reduceAdd, Nat.reduceSub, Nat.reduceLeDiff, Nat.reduceEqDiff, Nat.reduceLT, reduceCtorEq]
  have hsp1 := (s7 (noneT T) hsm).args (args' := [.agg [.imm T.nj T.fj 5 (T.jobs.map jc), .val (.slice none 0 0), I T.crews]]) ⟨Ent.agg ⟨Ent.refl _, Ent.ofnil true 2, Ent.refl _, trivial⟩, trivial⟩
  refine AWpL.callA [] hsp1 rfl rfl (by rw [hn]; rfl) rfl (fun r hr => by cases hr) fun rg v hv => ?_
  obtain ⟨rfl, rfl, hsp⟩ := hv
  refine ⟨Nat.zero_le _, ?_⟩
  rw [retS_nil]
  refine AWpL.ofM hn rfl ?_
  simp (config := { maxSteps := 2000000 }) only [go_sem, ↓reduceIte, Int.reduceToNat, Nat.reduceMul, Int.reduceBEq, Int.reduceBNe, Nat.reduceBEq, Nat.reduceAdd, Nat.reduceSub, Nat.reduceLeDiff, Nat.reduceEqDiff, Nat.reduceLT, reduceCtorEq]
  simp only [Bool.or_eq_true, Bool.or_eq_false_iff, bne_iff_ne, ne_eq, bne_eq_false_iff_eq, beq_iff_eq, beq_eq_false_iff_ne]
  refine ⟨fun h => ?_, fun h => ?_⟩
  · have hz : (bestF (noneT T)).2.1 = 0 := by
      by_cases h1 : (bestF (noneT T)).2.2 = 0
      · have h2 : (noneT T).jobs.length = 0 := by
          rcases h with h | h
          · exact absurd h1 h
          · show T.jobs.length = 0; omega
        unfold bestF; rw [if_neg (by simp [best_chk h1]), if_pos h2]
      · exact (best_err h1).2
    (refine AWpL.calle (s8) rfl (by rw [hn]; rfl) (by simp (config := { maxSteps := 2000000 }) only [go_sem, ↓reduceIte, Int.reduceToNat, Nat.reduceMul, Int.reduceBEq, Int.reduceBNe, Nat.reduceBEq, Nat.reduceAdd, Nat.reduceSub, Nat.reduceLeDiff, Nat.reduceEqDiff, Nat.reduceLT, reduceCtorEq]) (AWpL.ofM hn rfl ?_); simp (config := { maxSteps := 2000000 }) only [go_sem, ↓reduceIte, Int.reduceToNat, Nat.reduceMul, Int.reduceBEq, Int.reduceBNe, Nat.reduceBEq, Nat.reduceAdd, Nat.reduceSub, Nat.reduceLeDiff, Nat.reduceEqDiff, Nat.reduceLT, reduceCtorEq])
    rw [hz]; rfl
  have hz : 0 < T.jobs.length := by omega
  have e1 : IntKind.i64.wrap ((T.jobs.length : Int) - 1) = ((T.jobs.length - 1 : Nat) : Int) := by rw [w64 (by omega) (by omega)]; omega
  have e2 : ((T.jobs.map jc).take (T.jobs.length - 1)) = (T.jobs.take (T.jobs.length - 1)).map jc := List.map_take.symm
  simp (config := { maxSteps := 2000000 }) only [go_sem, ↓reduceIte, Int.reduceToNat, Nat.reduceMul, Int.reduceBEq, Int.reduceBNe, Nat.reduceBEq, Nat.reduceAdd, Nat.reduceSub, Nat.reduceLeDiff, Nat.reduceEqDiff, Nat.reduceLT, reduceCtorEq, e1, e2]
  (repeat (refine And.intro (by first | omega | (refine ⟨by omega, by omega⟩) | (refine ⟨by omega, by omega, by omega⟩) | (simp only [List.length_map, List.length_range, List.length_append, List.length_cons, List.length_nil, List.length_replicate, List.length_set]; omega) | (simp; omega) | (intro hgd; cases hgd) | (intro hgd; refine ⟨hgd, ?_⟩; first | omega | (refine ⟨by omega, by omega⟩) | (simp; omega))) ?_))
  have hnd : Named (dropT T) := fun j hj => hsm j (List.mem_of_mem_take hj)
  have hsp2 := (s7 (dropT T) hnd).args (args' := [.agg [.imm T.nj false 5 ((T.jobs.take (T.jobs.length - 1)).map jc), .val (.slice none 0 0), I T.crews]]) ⟨Ent.agg ⟨Ent.refl _, Ent.ofnil true 2, Ent.refl _, trivial⟩, trivial⟩
  refine AWpL.callA [] hsp2 rfl rfl (by rw [hn]; rfl) rfl (fun r hr => by cases hr) fun rg v hv => ?_
  obtain ⟨rfl, rfl, hsp3⟩ := hv
  refine ⟨Nat.zero_le _, ?_⟩
  rw [retS_nil]
  refine AWpL.ofM hn rfl ?_
  simp (config := { maxSteps := 2000000 }) only [go_sem, ↓reduceIte, Int.reduceToNat, Nat.reduceMul, Int.reduceBEq, Int.reduceBNe, Nat.reduceBEq, Nat.reduceAdd, Nat.reduceSub, Nat.reduceLeDiff, Nat.reduceEqDiff, Nat.reduceLT, reduceCtorEq]
  obtain ⟨g1, g2⟩ := alone_law hz h.1 hsp hsp3
  have f2 := decide_eq_true g2
  (refine AWpL.calle (s8) rfl (by rw [hn]; rfl) (by simp (config := { maxSteps := 2000000 }) only [go_sem, ↓reduceIte, Int.reduceToNat, Nat.reduceMul, Int.reduceBEq, Int.reduceBNe, Nat.reduceBEq, Nat.reduceAdd, Nat.reduceSub, Nat.reduceLeDiff, Nat.reduceEqDiff, Nat.reduceLT, reduceCtorEq]) (AWpL.ofM hn rfl ?_); simp (config := { maxSteps := 2000000 }) only [go_sem, ↓reduceIte, Int.reduceToNat, Nat.reduceMul, Int.reduceBEq, Int.reduceBNe, Nat.reduceBEq, Nat.reduceAdd, Nat.reduceSub, Nat.reduceLeDiff, Nat.reduceEqDiff, Nat.reduceLT, reduceCtorEq])
  rw [g1, f2]; rfl
set_option maxRecDepth 20000 in
set_option maxHeartbeats 1000000 in
theorem s5 (t : Task) (nl fl) (o : List Int) (hs : Named t) (hl63 : t.jobs.length ≤ 9223372036854775807) (ho63 : o.length ≤ 9223372036854775807) : Aw.Spec Try.prog 5 [] [ta t, il nl fl o] (Gives (· = B true)) := by
  refine Aw.Spec.givesW k5 rfl rfl fun E hn hnp hp => ?_
  unfold a5
  have pin : ∀ r, E.pin r = none := fun r => hp.none hnp (Nat.zero_le _)
  refine AWp.ofD [] [] hn mixed rfl ?_
  simp (config := { maxSteps := 2000000 }) only [go_sem, ↓reduceIte, Int.reduceToNat, Nat.reduceMul, Int.reduceBEq, Int.reduceBNe, Nat.reduceBEq, Nat.reduceAdd, Nat.reduceSub, Nat.reduceLeDiff, Nat.reduceEqDiff, Nat.reduceLT, reduceCtorEq]
  refine AWpL.callA [] (s6 t hl63) rfl rfl (by rw [hn]; rfl) rfl (fun r hr => by cases hr) fun rg v hv => ?_
  obtain ⟨rfl, rfl⟩ := hv
  refine ⟨Nat.zero_le _, ?_⟩
  rw [retS_new]
  have hsm := hs.small
  have h4 : (smallT t).jobs.length ≤ 4 := by show ((t.jobs.take 4).map trim).length ≤ 4; simp; omega
  generalize smallT t = T at *
  refine AWpL.ofM hn rfl ?_
  simp (config := { maxSteps := 2000000 }) only [go_sem, ↓reduceIte, Int.reduceToNat, Nat.reduceMul, Int.reduceBEq, Int.reduceBNe, Nat.reduceBEq, Nat.reduceAdd, Nat.reduceSub, Nat.reduceLeDiff, Nat.reduceEqDiff, Nat.reduceLT, reduceCtorEq]
  refine AWpL.callA [] (s7 T hsm) rfl rfl (by rw [hn]; rfl) rfl (fun r hr => by cases hr) fun rg v hv => ?_
  obtain ⟨rfl, rfl, hsp⟩ := hv
  refine ⟨Nat.zero_le _, ?_⟩
  rw [retS_nil]
  refine AWpL.ofM hn rfl ?_
  simp (config := { maxSteps := 2000000 }) only [go_sem, ↓reduceIte, Int.reduceToNat, Nat.reduceMul, Int.reduceBEq, Int.reduceBNe, Nat.reduceBEq, Nat.reduceAdd, Nat.reduceSub, Nat.reduceLeDiff, Nat.reduceEqDiff, Nat.reduceLT, reduceCtorEq]
  refine AWpL.callg (s9 T nl fl o hsm ho63) (by rw [hn]; rfl) (by simp (config := { maxSteps := 2000000 }) only [go_sem, ↓reduceIte, Int.reduceToNat, Nat.reduceMul, Int.reduceBEq, Int.reduceBNe, Nat.reduceBEq, Nat.reduceAdd, Nat.reduceSub, Nat.reduceLeDiff, Nat.reduceEqDiff, Nat.reduceLT, reduceCtorEq]) fun v hv => ?_
  obtain ⟨m, f, rfl, hr⟩ := hv
  refine ⟨plain_ni _ rfl, AWpL.ofM hn rfl ?_⟩
  simp (config := { maxSteps := 2000000 }) only [go_sem, ↓reduceIte, Int.reduceToNat, Nat.reduceMul, Int.reduceBEq, Int.reduceBNe, Nat.reduceBEq, Nat.reduceAdd, Nat.reduceSub, Nat.reduceLeDiff, Nat.reduceEqDiff, Nat.reduceLT, reduceCtorEq]
  simp only [bne_iff_ne, ne_eq, bne_eq_false_iff_eq]
  refine ⟨fun h => ?_, fun h => ?_⟩
  · (refine AWpL.calle (s8) rfl (by rw [hn]; rfl) (by simp (config := { maxSteps := 2000000 }) only [go_sem, ↓reduceIte, Int.reduceToNat, Nat.reduceMul, Int.reduceBEq, Int.reduceBNe, Nat.reduceBEq, Nat.reduceAdd, Nat.reduceSub, Nat.reduceLeDiff, Nat.reduceEqDiff, Nat.reduceLT, reduceCtorEq]) (AWpL.ofM hn rfl ?_); simp (config := { maxSteps := 2000000 }) only [go_sem, ↓reduceIte, Int.reduceToNat, Nat.reduceMul, Int.reduceBEq, Int.reduceBNe, Nat.reduceBEq, Nat.reduceAdd, Nat.reduceSub, Nat.reduceLeDiff, Nat.reduceEqDiff, Nat.reduceLT, reduceCtorEq])
    obtain ⟨h1, h2⟩ := best_err h
    have h3 : (bestF T).2.2 = 8 → f ≠ 0 := fun h8 hf => by
      obtain ⟨hc, hfu⟩ := hr.1.1 hf
      rcases Nat.eq_zero_or_pos T.jobs.length with hz | hz
      · have e1 : bestF T = ([], 0, 0) := by unfold bestF; rw [if_neg (by simp [hc]), if_pos hz]
        rw [e1] at h; exact h rfl
      · exact (best_none hc hz (hsp hc hz) h).2 _ hfu
    rw [h1, h2]
    by_cases h8 : (bestF T).2.2 = 8
    · simp [h8, h3 h8]
    · simp [h8]
  obtain ⟨g1, g2, g3⟩ := best_zero h hsp
  have hq63 : (bestF T).1.length ≤ 9223372036854775807 := by rw [g1.2]; omega
  refine AWpL.callg (s9 T none false (bestF T).1 hsm hq63) (by rw [hn]; rfl) (by simp (config := { maxSteps := 2000000 }) only [go_sem, ↓reduceIte, Int.reduceToNat, Nat.reduceMul, Int.reduceBEq, Int.reduceBNe, Nat.reduceBEq, Nat.reduceAdd, Nat.reduceSub, Nat.reduceLeDiff, Nat.reduceEqDiff, Nat.reduceLT, reduceCtorEq]) fun v hv => ?_
  obtain ⟨m2, f2, rfl, hr2⟩ := hv
  refine ⟨plain_ni _ rfl, AWpL.ofM hn rfl ?_⟩
  simp (config := { maxSteps := 2000000 }) only [go_sem, ↓reduceIte, Int.reduceToNat, Nat.reduceMul, Int.reduceBEq, Int.reduceBNe, Nat.reduceBEq, Nat.reduceAdd, Nat.reduceSub, Nat.reduceLeDiff, Nat.reduceEqDiff, Nat.reduceLT, reduceCtorEq]
  (refine AWpL.calle (s8) rfl (by rw [hn]; rfl) (by simp (config := { maxSteps := 2000000 }) only [go_sem, ↓reduceIte, Int.reduceToNat, Nat.reduceMul, Int.reduceBEq, Int.reduceBNe, Nat.reduceBEq, Nat.reduceAdd, Nat.reduceSub, Nat.reduceLeDiff, Nat.reduceEqDiff, Nat.reduceLT, reduceCtorEq]) (AWpL.ofM hn rfl ?_); simp (config := { maxSteps := 2000000 }) only [go_sem, ↓reduceIte, Int.reduceToNat, Nat.reduceMul, Int.reduceBEq, Int.reduceBNe, Nat.reduceBEq, Nat.reduceAdd, Nat.reduceSub, Nat.reduceLeDiff, Nat.reduceEqDiff, Nat.reduceLT, reduceCtorEq])
  have h5 : f2 = 0 := hr2.1.2 ⟨best_chk h, g1⟩
  have h6 : m2 = (bestF T).2.1 := by rw [hr2.2 h5, g2]
  rw [h5, h6]
  by_cases h7 : f = 0
  · have h8 : (bestF T).2.1 ≤ m := by rw [hr.2 h7]; exact g3 _ (hr.1.1 h7).2
    simp [h8]
  · simp [h7]
end Go.Proofs.Ytncfffplnmlnfaa
