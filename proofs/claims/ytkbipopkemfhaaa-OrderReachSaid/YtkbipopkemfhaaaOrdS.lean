/- Orders: how many states can be reached. -/
import Derived.Test.YtkbipopkemfhaaaAwZg
import Derived.Test.YtkbipopkemfhaaaOrdQ
set_option linter.unusedVariables false
set_option linter.unusedSimpArgs false
namespace Go.Proofs.Ytkbipopkemfhaaa
open Go.Proofs.Ytkbipopkemfhaaa.Aw
attribute [local go_sem] Int.natCast_zero Int.natCast_one bne_self_eq_false beq_self_eq_true Bool.not_true Bool.not_false Option.isSome_none Option.isSome_some Aw.bkM_nil Option.getD_some Option.getD_none Nat.sub_zero Int.toNat_zero Aw.frzS Aw.frzT Aw.frzA Aw.frzL Aw.frzR Aw.frzO Aw.frzOL Aw.frzOT Aw.frzOR Aw.killS Aw.mapT Aw.mapR Aw.killM Aw.resAVs Aw.resAV Aw.quietOps Aw.wpP Aw.wpT Aw.wpS Aw.AOp.mild List.getElem?_cons_zero List.getElem?_cons_succ Bool.and_false Bool.and_self Bool.false_and Aw.opOb Aw.gdB Aw.Rnd Aw.subTm List.length_map Int.toNat_natCast and_self Aw.SeqC Aw.stops Aw.Ends Aw.looks Aw.renA Aw.renL Aw.renT Aw.renS Aw.wpO Aw.aop Aw.putTm Aw.St.ev Aw.St.put Aw.St.putO Aw.binAV Aw.intBin Aw.strBin Aw.pickAV Aw.optInt Aw.AV.strip Aw.AV.guard Aw.AV.cells Aw.gdOb Aw.AOp.opds Aw.AOp.still Aw.ptrCells Aw.St.reg Aw.fillAV Aw.fillOb Aw.elsOb Aw.splice Aw.firm Aw.cellish Aw.AV.shut Aw.shutAll Aw.Seq Aw.Blk Aw.retS_nil Aw.mapA Aw.mapL Aw.borA Aw.borOb Aw.allOb Aw.tupOf Aw.params Aw.Opd.of Array.toList Value.cells List.map_cons List.map_nil List.getD_cons_zero List.getD_cons_succ List.getD_nil List.length_cons List.length_nil List.take_succ_cons List.take_zero List.take_nil List.drop_zero List.drop_succ_cons List.drop_nil List.set_cons_zero List.set_cons_succ List.append_nil List.nil_append List.cons_append List.all_cons List.all_nil cond_false cond_true if_true if_false true_and and_true Bool.and_true Bool.true_and Option.map_some Option.map_none false_implies forall_const implies_true forall_eq imp_self Bool.cond_false_right Bool.cond_true_left beq_true beq_false Bool.not_eq_true' Bool.false_eq_true Nat.zero_add Nat.add_zero Aw.eqCells Aw.stopDraw Aw.skipS Aw.exactCap Aw.revealS Aw.srcEls Aw.srcSz
attribute [local go_sem ↓] Aw.look_nil Aw.look_ite Aw.wpL_nil Aw.wpL_op Aw.wpL_gd Aw.wpQ_nil Aw.wpQ_op Aw.wpQ_gd Aw.wpC_draw Aw.wpC_reg Aw.wpC_skip Aw.wpC_ret Aw.wpC_exit Aw.wpC_seq Aw.wpC_block Aw.wpC_loop Aw.wpC_cond Aw.stopAt_nil Aw.stopAt_cons Aw.wpD_skip Aw.wpD_ret Aw.wpD_exit Aw.wpD_region Aw.wpD_draw Aw.wpM_nil Aw.wpM_op Aw.wpM_gd Aw.wpD_seq Aw.wpD_block Aw.wpD_loop Aw.wpD_cond
/-- One switch tried in the state n. -/
def stepR (may : Nat → Nat → Bool) (n : Nat) (sq : List Bool × List Nat) (i : Nat) : List Bool × List Nat :=
  if sq.1.getD (flip n i) false = false ∧ may n i = true then (sq.1.set (flip n i) true, sq.2 ++ [flip n i]) else sq
def stepsR (may : Nat → Nat → Bool) (n i : Nat) (sq : List Bool × List Nat) : List Bool × List Nat := (List.range i).foldl (stepR may n) sq
theorem stepsR_succ (may : Nat → Nat → Bool) (n i : Nat) (sq : List Bool × List Nat) : stepsR may n (i + 1) sq = stepR may n (stepsR may n i sq) i := by
  unfold stepsR
  rw [List.range_succ, List.foldl_append]; rfl
/-- What holds of the states seen and the queue. -/
structure RB (may : Nat → Nat → Bool) (L a : Nat) (seen : List Bool) (q : List Nat) : Prop where
  len : seen.length = 2 ^ L
  lt : ∀ m ∈ q, m < 2 ^ L
  nd : q.Nodup
  see : ∀ m, m < 2 ^ L → (seen.getD m false = true ↔ m ∈ q)
  reach : ∀ m ∈ q, ∃ d, Steps may L a m d
  st : a ∈ q
structure RJ (may : Nat → Nat → Bool) (L a : Nat) (seen : List Bool) (q : List Nat) (n i : Nat) : Prop extends RB may L a seen q where
  nq : n ∈ q
  part : ∀ k, k < i → may n k = true → flip n k ∈ q
theorem getD_setB {s : List Bool} {m x : Nat} {v : Bool} (hm : m < s.length) : (s.set m v).getD x false = if x = m then v else s.getD x false := by
  rw [List.getD_eq_getElem?_getD, List.getD_eq_getElem?_getD, List.getElem?_set]
  by_cases e : m = x
  · subst e; simp [hm]
  · rw [if_neg e, if_neg (Ne.symm e)]
theorem Steps.snoc {may : Nat → Nat → Bool} {L a b d k : Nat} (h : Steps may L a b d) (hk : k < L) (hm : may b k = true) : Steps may L a (flip b k) (d + 1) := h.trans (.cons hk hm (.nil _))
theorem RJ.step {may : Nat → Nat → Bool} {L a : Nat} {seen : List Bool} {q : List Nat} {n i : Nat} (h : RJ may L a seen q n i) (hi : i < L) :
    RJ may L a (stepR may n (seen, q) i).1 (stepR may n (seen, q) i).2 n (i + 1) ∧ ∃ t, (stepR may n (seen, q) i).2 = q ++ t := by
  have hn := h.lt n h.nq
  have hm := flip_lt hn hi
  unfold stepR
  dsimp only
  split
  · rename_i hc
    obtain ⟨hc1, hc2⟩ := hc
    have hml : flip n i < seen.length := by rw [h.len]; exact hm
    have hnq : flip n i ∉ q := fun hq => by
      have := (h.see _ hm).2 hq
      rw [hc1] at this; cases this
    refine ⟨⟨⟨by rw [List.length_set]; exact h.len, fun m hmq => ?_, ?_, fun m hm2 => ?_, fun m hmq => ?_, List.mem_append_left _ h.st⟩, List.mem_append_left _ h.nq, fun k hk hmk => ?_⟩, [flip n i], rfl⟩
    · rcases List.mem_append.1 hmq with hmq | hmq
      · exact h.lt m hmq
      · rw [List.mem_singleton.1 hmq]; exact hm
    · refine List.nodup_append.2 ⟨h.nd, by simp, fun x hx y hy e => ?_⟩
      rw [List.mem_singleton.1 hy] at e
      rw [e] at hx; exact hnq hx
    · rw [getD_setB hml, List.mem_append, List.mem_singleton]
      by_cases e : m = flip n i
      · rw [if_pos e]; simp [e]
      · rw [if_neg e, h.see m hm2]; simp [e]
    · rcases List.mem_append.1 hmq with hmq | hmq
      · exact h.reach m hmq
      · rw [List.mem_singleton.1 hmq]
        obtain ⟨d, hd⟩ := h.reach n h.nq
        exact ⟨d + 1, hd.snoc hi hc2⟩
    · rcases Nat.lt_or_eq_of_le (Nat.le_of_lt_succ hk) with hk | rfl
      · exact List.mem_append_left _ (h.part k hk hmk)
      · exact List.mem_append_right _ List.mem_cons_self
  · rename_i hc
    refine ⟨{ h with part := fun k hk hmk => ?_ }, [], (List.append_nil _).symm⟩
    rcases Nat.lt_or_eq_of_le (Nat.le_of_lt_succ hk) with hk | rfl
    · exact h.part k hk hmk
    · refine (h.see _ hm).1 ?_
      cases hs : seen.getD (flip n k) false with
      | true => rfl
      | false => exact absurd ⟨hs, hmk⟩ hc
theorem RJ.run {may : Nat → Nat → Bool} {L a : Nat} {seen : List Bool} {q : List Nat} {n : Nat} (h : RJ may L a seen q n 0) : ∀ i, i ≤ L →
    RJ may L a (stepsR may n i (seen, q)).1 (stepsR may n i (seen, q)).2 n i ∧ ∃ t, (stepsR may n i (seen, q)).2 = q ++ t
  | 0, _ => ⟨h, [], (List.append_nil _).symm⟩
  | i + 1, hi => by
    obtain ⟨h1, t1, h2⟩ := h.run i (by omega)
    rw [stepsR_succ]
    obtain ⟨h3, t2, h4⟩ := h1.step (by omega)
    exact ⟨h3, t1 ++ t2, by rw [h4, h2, List.append_assoc]⟩
/-- The first k states of the queue have been tried. -/
structure RO (may : Nat → Nat → Bool) (L a : Nat) (seen : List Bool) (q : List Nat) (k : Nat) : Prop extends RB may L a seen q where
  clos : ∀ j (hj : j < q.length), j < k → ∀ i, i < L → may q[j] i = true → flip q[j] i ∈ q
theorem RO.start {may : Nat → Nat → Bool} {L a : Nat} {seen : List Bool} {q : List Nat} {k : Nat} (h : RO may L a seen q k) (hk : k < q.length) : RJ may L a seen q q[k] 0 :=
  { h.toRB with nq := List.getElem_mem hk, part := fun j hj => by omega }
theorem RO.step {may : Nat → Nat → Bool} {L a : Nat} {seen : List Bool} {q : List Nat} {k : Nat} (h : RO may L a seen q k) (hk : k < q.length) :
    RO may L a (stepsR may q[k] L (seen, q)).1 (stepsR may q[k] L (seen, q)).2 (k + 1) := by
  obtain ⟨h1, t, h2⟩ := (h.start hk).run L (Nat.le_refl _)
  refine { h1.toRB with clos := fun j hj hjk i hi hm => ?_ }
  have hjq : j < q.length := by omega
  have e : (stepsR may q[k] L (seen, q)).2[j] = q[j] := by
    simp only [h2]
    rw [List.getElem_append_left hjq]
  rw [e] at hm ⊢
  rcases Nat.lt_or_eq_of_le (Nat.le_of_lt_succ hjk) with hjk | rfl
  · rw [h2]; exact List.mem_append_left _ (h.clos j hjq hjk i hi hm)
  · exact h1.part i hi hm
theorem RB.small {may : Nat → Nat → Bool} {L a : Nat} {seen : List Bool} {q : List Nat} (h : RB may L a seen q) : q.length ≤ 2 ^ L := by
  have := List.Nodup.length_le_of_subset (l₂ := List.range (2 ^ L)) h.nd (fun m hm => List.mem_range.2 (h.lt m hm))
  rwa [List.length_range] at this
theorem RO.all {may : Nat → Nat → Bool} {L a : Nat} {seen : List Bool} {q : List Nat} (h : RO may L a seen q q.length) {b d : Nat} (hs : Steps may L a b d) : b ∈ q := by
  have key : ∀ {x b d : Nat}, Steps may L x b d → x ∈ q → b ∈ q := by
    intro x b d hs
    induction hs with
    | nil a => exact fun hx => hx
    | @cons x b d k hk hm _ ih =>
      intro hx
      obtain ⟨j, hj, rfl⟩ := List.mem_iff_getElem.1 hx
      exact ih (h.clos j hj hj k hk hm)
  exact key hs h.st
theorem numF_stL {l : List Sta} {n : Nat} (hn : n < 2 ^ l.length) : numF (stL l n) = n := by
  refine Nat.eq_of_testBit_eq fun j => ?_
  rw [numF_bit]
  rcases Nat.lt_or_ge j l.length with h | h
  · rw [stL_get h]
  · rw [List.getD_eq_getElem?_getD, List.getElem?_eq_none (by rw [stL_len]; exact h), Nat.testBit_lt_two_pow (Nat.lt_of_lt_of_le hn (Nat.pow_le_pow_right (by decide) h))]
    rfl
/-- How many of the first n combinations an order is found for. -/
def manyF (p : Pln) (n : Nat) : Nat := (List.range n).countP fun m => planE p.rules p.l (stL p.l m) p.held == 0
theorem manyF_succ (p : Pln) (n : Nat) : manyF p (n + 1) = manyF p n + if planE p.rules p.l (stL p.l n) p.held = 0 then 1 else 0 := by
  unfold manyF
  rw [List.range_succ, List.countP_append, List.countP_cons, List.countP_nil, Nat.zero_add]
  congr 1
  simp only [beq_iff_eq]
/-- As many can be reached as there are for which an order is found. -/
theorem reach_many {p : Pln} (h0 : planE p.rules p.l p.l p.held = 0) {seen : List Bool} {q : List Nat} (h : RO p.may p.l.length (numF p.l) seen q q.length) : q.length = manyF p (2 ^ p.l.length) := by
  obtain ⟨h1, h2, h3, h4, h5, h6, h7⟩ := planE_zero.1 h0
  have hiff : ∀ m, m < 2 ^ p.l.length → (planE p.rules p.l (stL p.l m) p.held = 0 ↔ m ∈ q) := fun m hm => by
    have hnm : nmE p.l (stL p.l m) = true := nmE_names.2 (stL_map _ _).symm
    constructor
    · intro he
      have := plan_steps he
      rw [numF_stL hm] at this
      exact h.all this
    · intro hq
      obtain ⟨d, hd⟩ := h.reach m hq
      exact (plan_of h1 h2 (by rw [statesF_congr (stL_map _ _)]; exact h2) h4 h5 hnm (d := d) (by rw [numF_stL hm]; exact hd)).1
  unfold manyF
  rw [List.countP_eq_length_filter]
  refine Nat.le_antisymm ?_ ?_
  · refine List.Nodup.length_le_of_subset h.nd fun m hm => List.mem_filter.2 ⟨List.mem_range.2 (h.lt m hm), ?_⟩
    rw [beq_iff_eq]
    exact (hiff m (h.lt m hm)).2 hm
  · refine List.Nodup.length_le_of_subset (List.Pairwise.filter _ List.nodup_range) fun m hm => ?_
    obtain ⟨g1, g2⟩ := List.mem_filter.1 hm
    exact (hiff m (List.mem_range.1 g1)).1 (by simpa using g2)
end Go.Proofs.Ytkbipopkemfhaaa
