/- Orders: what is held stays as it is. -/
import Derived.Test.YtkbipopkemfhaaaAwZg
import Derived.Test.YtkbipopkemfhaaaOrdM
set_option linter.unusedVariables false
set_option linter.unusedSimpArgs false
namespace Go.Proofs.Ytkbipopkemfhaaa
open Go.Proofs.Ytkbipopkemfhaaa.Aw
attribute [local go_sem] Int.natCast_zero Int.natCast_one bne_self_eq_false beq_self_eq_true Bool.not_true Bool.not_false Option.isSome_none Option.isSome_some Aw.bkM_nil Option.getD_some Option.getD_none Nat.sub_zero Int.toNat_zero Aw.frzS Aw.frzT Aw.frzA Aw.frzL Aw.frzR Aw.frzO Aw.frzOL Aw.frzOT Aw.frzOR Aw.killS Aw.mapT Aw.mapR Aw.killM Aw.resAVs Aw.resAV Aw.quietOps Aw.wpP Aw.wpT Aw.wpS Aw.AOp.mild List.getElem?_cons_zero List.getElem?_cons_succ Bool.and_false Bool.and_self Bool.false_and Aw.opOb Aw.gdB Aw.Rnd Aw.subTm List.length_map Int.toNat_natCast and_self Aw.SeqC Aw.stops Aw.Ends Aw.looks Aw.renA Aw.renL Aw.renT Aw.renS Aw.wpO Aw.aop Aw.putTm Aw.St.ev Aw.St.put Aw.St.putO Aw.binAV Aw.intBin Aw.strBin Aw.pickAV Aw.optInt Aw.AV.strip Aw.AV.guard Aw.AV.cells Aw.gdOb Aw.AOp.opds Aw.AOp.still Aw.ptrCells Aw.St.reg Aw.fillAV Aw.fillOb Aw.elsOb Aw.splice Aw.firm Aw.cellish Aw.AV.shut Aw.shutAll Aw.Seq Aw.Blk Aw.retS_nil Aw.mapA Aw.mapL Aw.borA Aw.borOb Aw.allOb Aw.tupOf Aw.params Aw.Opd.of Array.toList Value.cells List.map_cons List.map_nil List.getD_cons_zero List.getD_cons_succ List.getD_nil List.length_cons List.length_nil List.take_succ_cons List.take_zero List.take_nil List.drop_zero List.drop_succ_cons List.drop_nil List.set_cons_zero List.set_cons_succ List.append_nil List.nil_append List.cons_append List.all_cons List.all_nil cond_false cond_true if_true if_false true_and and_true Bool.and_true Bool.true_and Option.map_some Option.map_none false_implies forall_const implies_true forall_eq imp_self Bool.cond_false_right Bool.cond_true_left beq_true beq_false Bool.not_eq_true' Bool.false_eq_true Nat.zero_add Nat.add_zero Aw.eqCells Aw.stopDraw Aw.skipS Aw.exactCap Aw.revealS Aw.srcEls Aw.srcSz
attribute [local go_sem ↓] Aw.look_nil Aw.look_ite Aw.wpL_nil Aw.wpL_op Aw.wpL_gd Aw.wpQ_nil Aw.wpQ_op Aw.wpQ_gd Aw.wpC_draw Aw.wpC_reg Aw.wpC_skip Aw.wpC_ret Aw.wpC_exit Aw.wpC_seq Aw.wpC_block Aw.wpC_loop Aw.wpC_cond Aw.stopAt_nil Aw.stopAt_cons Aw.wpD_skip Aw.wpD_ret Aw.wpD_exit Aw.wpD_region Aw.wpD_draw Aw.wpM_nil Aw.wpM_op Aw.wpM_gd Aw.wpD_seq Aw.wpD_block Aw.wpD_loop Aw.wpD_cond
theorem staGo_uniq : ∀ {l pre : List Sta}, staGo pre l = 0 → (∀ s ∈ l, ∀ t ∈ pre, seq t.name s.name = false) ∧ l.Pairwise fun s t => seq s.name t.name = false
  | [], _, _ => ⟨(fun s hs => by cases hs), List.Pairwise.nil⟩
  | x :: l, pre, h => by
    unfold staGo at h
    split at h
    · rename_i h1; exact absurd h h1
    rename_i h1
    have h2 : staE pre x = 0 := by simpa using h1
    unfold staE at h2
    split at h2
    · cases h2
    split at h2
    · cases h2
    rename_i h3 h4
    have h5 : ∀ t ∈ pre, seq t.name x.name = false := fun t ht => by
      cases hq : seq t.name x.name with
      | false => rfl
      | true => exact absurd (List.any_eq_true.2 ⟨t, ht, hq⟩) h4
    obtain ⟨g1, g2⟩ := staGo_uniq h
    refine ⟨fun s hs t ht => ?_, List.pairwise_cons.2 ⟨fun t ht => g1 t ht x (List.mem_append_right _ List.mem_cons_self), g2⟩⟩
    rcases List.mem_cons.1 hs with rfl | hs
    · exact h5 t ht
    · exact g1 s hs t (List.mem_append_left _ ht)
theorem statesF_uniq {l : List Sta} (h : statesF l = 0) {i j : Nat} (hi : i < l.length) (hj : j < l.length) (hn : seq (l.getD i default).name (l.getD j default).name = true) : i = j := by
  unfold statesF at h
  split at h
  · cases h
  have hp := List.pairwise_iff_getElem.1 (staGo_uniq h).2
  rw [List.getD_eq_getElem?_getD, List.getD_eq_getElem?_getD, List.getElem?_eq_getElem hi, List.getElem?_eq_getElem hj] at hn
  simp only [Option.getD_some] at hn
  rcases Nat.lt_trichotomy i j with hlt | rfl | hlt
  · rw [hp i j hi hj hlt] at hn; cases hn
  · rfl
  · have := hp j i hj hi hlt
    rw [seq_eq] at hn
    rw [hn, (seq_eq (a := l[j].name)).2 rfl] at this
    cases this
theorem numGo_bit : ∀ (l : List Sta) (k n j : Nat), n < 2 ^ k → (numGo k n l).testBit j = if j < k then n.testBit j else (l.getD (j - k) default).closed
  | [], k, n, j, hn => by
    show n.testBit j = _
    split
    · rfl
    · rename_i h
      rw [Nat.testBit_lt_two_pow (Nat.lt_of_lt_of_le hn (Nat.pow_le_pow_right (by decide) (by omega)))]
      simp; rfl
  | s :: l, k, n, j, hn => by
    have h1 : (if s.closed = true then n ||| 2 ^ k else n) < 2 ^ (k + 1) := by
      split
      · exact orlt hn
      · exact Nat.lt_trans hn (Nat.pow_lt_pow_right (by decide) (by omega))
    show (numGo (k + 1) _ l).testBit j = _
    rw [numGo_bit l (k + 1) _ j h1]
    have hk : n.testBit k = false := Nat.testBit_lt_two_pow hn
    rcases Nat.lt_trichotomy j k with hlt | rfl | hgt
    · rw [if_pos (by omega), if_pos hlt]
      split
      · rw [Nat.testBit_or, Nat.testBit_two_pow, decide_eq_false (by omega), Bool.or_false]
      · rfl
    · rw [if_pos (Nat.lt_succ_self _), if_neg (Nat.lt_irrefl _), Nat.sub_self, List.getD_cons_zero]
      cases hc : s.closed
      · rw [if_neg (by decide), hk]
      · rw [if_pos rfl, Nat.testBit_or, Nat.testBit_two_pow, hk, decide_eq_true rfl]; rfl
    · rw [if_neg (by omega), if_neg (by omega)]
      obtain ⟨m, hm⟩ : ∃ m, j - k = m + 1 := ⟨j - k - 1, by omega⟩
      rw [hm, List.getD_cons_succ]
      congr 3; omega
theorem numF_bit (l : List Sta) (j : Nat) : (numF l).testBit j = (l.getD j default).closed := by
  have := numGo_bit l 0 0 j (by decide)
  rwa [if_neg (by omega), Nat.sub_zero] at this
theorem flip_bit (n k j : Nat) : (flip n k).testBit j = (n.testBit j ^^ decide (k = j)) := by
  unfold flip
  rw [Nat.testBit_xor, Nat.testBit_two_pow]
theorem Steps.keep {may : Nat → Nat → Bool} {L a b d k : Nat} (h : Steps may L a b d) (hk : ∀ n, may n k = false) : b.testBit k = a.testBit k := by
  induction h with
  | nil a => rfl
  | @cons a b d j hj hm _ ih =>
    rw [ih, flip_bit]
    have : j ≠ k := fun e => by subst e; rw [hk] at hm; cases hm
    rw [decide_eq_false this, Bool.xor_false]
theorem plGo_sw {p : Pln} {goal : Nat} {F : List Int} (h : BO p.may p.l.length goal F []) : ∀ (f n : Nat), n < 2 ^ p.l.length → F.getD n 0 = f → ∀ s ∈ plGo p F f n, ∃ m k, k < p.l.length ∧ p.may m k = true ∧ s.sw = (p.l.getD k default).name
  | 0, n, _, _, s, hs => by cases hs
  | f + 1, n, hn, hf, s, hs => by
    obtain ⟨kd, hd1, hd2, hd3, hd4⟩ := h.desc n hn (by omega)
    have hnear : nearer p F n kd = true := by unfold nearer; rw [hd2, Bool.and_true, beq_iff_eq]; omega
    obtain ⟨kp, hkp1, hkp2, hkp3⟩ := pickGo_some (P := nearer p F n) p.l.length 0 kd hd1 (by rw [Nat.zero_add]; exact hnear)
    have hk : F.getD (flip n kp) 0 = F.getD n 0 - 1 ∧ p.may n kp = true := by
      unfold nearer at hkp3
      simpa only [Bool.and_eq_true, beq_iff_eq] using hkp3
    have : plGo p F (f + 1) n = ⟨!n.testBit kp, (p.l.getD kp default).name⟩ :: plGo p F f (flip n kp) := by
      show (match pickGo (nearer p F n) p.l.length 0 with | some k => _ | none => _) = _
      rw [hkp1]
    rw [this] at hs
    rcases List.mem_cons.1 hs with rfl | hs
    · exact ⟨n, kp, by omega, hk.2, rfl⟩
    · exact plGo_sw h f _ (flip_lt hn (by omega)) (by omega) s hs
theorem planL_sw {p : Pln} {b : List Sta} (h : planE p.rules p.l b p.held = 0) : ∀ s ∈ planL p b, ∃ m k, k < p.l.length ∧ p.may m k = true ∧ s.sw = (p.l.getD k default).name := by
  obtain ⟨h1, h2, h3, h4, h5, h6, h7⟩ := planE_zero.1 h
  have hB := bfsF_ok p.may h4 (numF_goal h6)
  have hm : mayF p.rules p.l p.held = p.may := rfl
  rw [hm] at h7
  unfold planL
  rw [if_pos h]
  generalize bfsF p.may p.l.length (numF b) = F at *
  have hn := numF_lt p.l
  obtain ⟨d, hd⟩ : ∃ d : Nat, F.getD (numF p.l) 0 = d := ⟨(F.getD (numF p.l) 0).toNat, by omega⟩
  rw [hd, Int.toNat_natCast]
  exact plGo_sw hB d _ hn hd
/-- What is held: neither changed nor operated. -/
theorem held_stays {p : Pln} {b : List Sta} {k : Nat} (hk : k < p.l.length) (hh : p.held = [(p.l.getD k default).name]) (h : planE p.rules p.l b p.held = 0) :
    b.length = p.l.length ∧ b.getD k default = p.l.getD k default ∧ (planL p b).any (fun s => seq s.sw (p.l.getD k default).name) = false := by
  obtain ⟨h1, h2, h3, h4, h5, h6, h7⟩ := planE_zero.1 h
  have hl := nmE_leq h6
  have hm : ∀ n, p.may n k = false := fun n => by
    unfold Pln.may mayF
    rw [hh, List.any_cons, seq_eq.2 rfl]
    rfl
  have hs := (plan_steps h).keep hm
  rw [numF_bit, numF_bit] at hs
  refine ⟨hl.symm, ?_, ?_⟩
  · have hn := name_get h6 hk
    generalize p.l.getD k default = x at *
    generalize b.getD k default = y at *
    obtain ⟨x1, x2⟩ := x
    obtain ⟨y1, y2⟩ := y
    simp only at hn hs
    rw [hn, hs]
  · rw [List.any_eq_false]
    intro s hs2 hq
    obtain ⟨m, j, hj, hmj, hsw⟩ := planL_sw h s hs2
    rw [hsw] at hq
    have := statesF_uniq h2 hj hk hq
    subst this
    rw [hm] at hmj; cases hmj
end Go.Proofs.Ytkbipopkemfhaaa
