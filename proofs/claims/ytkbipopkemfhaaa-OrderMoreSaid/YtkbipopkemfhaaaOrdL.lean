/- Orders: what Plan's answer means. -/
import Derived.Test.YtkbipopkemfhaaaAwZg
import Derived.Test.YtkbipopkemfhaaaOrdK
set_option linter.unusedVariables false
set_option linter.unusedSimpArgs false
namespace Go.Proofs.Ytkbipopkemfhaaa
open Go.Proofs.Ytkbipopkemfhaaa.Aw
attribute [local go_sem] Int.natCast_zero Int.natCast_one bne_self_eq_false beq_self_eq_true Bool.not_true Bool.not_false Option.isSome_none Option.isSome_some Aw.bkM_nil Option.getD_some Option.getD_none Nat.sub_zero Int.toNat_zero Aw.frzS Aw.frzT Aw.frzA Aw.frzL Aw.frzR Aw.frzO Aw.frzOL Aw.frzOT Aw.frzOR Aw.killS Aw.mapT Aw.mapR Aw.killM Aw.resAVs Aw.resAV Aw.quietOps Aw.wpP Aw.wpT Aw.wpS Aw.AOp.mild List.getElem?_cons_zero List.getElem?_cons_succ Bool.and_false Bool.and_self Bool.false_and Aw.opOb Aw.gdB Aw.Rnd Aw.subTm List.length_map Int.toNat_natCast and_self Aw.SeqC Aw.stops Aw.Ends Aw.looks Aw.renA Aw.renL Aw.renT Aw.renS Aw.wpO Aw.aop Aw.putTm Aw.St.ev Aw.St.put Aw.St.putO Aw.binAV Aw.intBin Aw.strBin Aw.pickAV Aw.optInt Aw.AV.strip Aw.AV.guard Aw.AV.cells Aw.gdOb Aw.AOp.opds Aw.AOp.still Aw.ptrCells Aw.St.reg Aw.fillAV Aw.fillOb Aw.elsOb Aw.splice Aw.firm Aw.cellish Aw.AV.shut Aw.shutAll Aw.Seq Aw.Blk Aw.retS_nil Aw.mapA Aw.mapL Aw.borA Aw.borOb Aw.allOb Aw.tupOf Aw.params Aw.Opd.of Array.toList Value.cells List.map_cons List.map_nil List.getD_cons_zero List.getD_cons_succ List.getD_nil List.length_cons List.length_nil List.take_succ_cons List.take_zero List.take_nil List.drop_zero List.drop_succ_cons List.drop_nil List.set_cons_zero List.set_cons_succ List.append_nil List.nil_append List.cons_append List.all_cons List.all_nil cond_false cond_true if_true if_false true_and and_true Bool.and_true Bool.true_and Option.map_some Option.map_none false_implies forall_const implies_true forall_eq imp_self Bool.cond_false_right Bool.cond_true_left beq_true beq_false Bool.not_eq_true' Bool.false_eq_true Nat.zero_add Nat.add_zero Aw.eqCells Aw.stopDraw Aw.skipS Aw.exactCap Aw.revealS Aw.srcEls Aw.srcSz
attribute [local go_sem ↓] Aw.look_nil Aw.look_ite Aw.wpL_nil Aw.wpL_op Aw.wpL_gd Aw.wpQ_nil Aw.wpQ_op Aw.wpQ_gd Aw.wpC_draw Aw.wpC_reg Aw.wpC_skip Aw.wpC_ret Aw.wpC_exit Aw.wpC_seq Aw.wpC_block Aw.wpC_loop Aw.wpC_cond Aw.stopAt_nil Aw.stopAt_cons Aw.wpD_skip Aw.wpD_ret Aw.wpD_exit Aw.wpD_region Aw.wpD_draw Aw.wpM_nil Aw.wpM_op Aw.wpM_gd Aw.wpD_seq Aw.wpD_block Aw.wpD_loop Aw.wpD_cond
theorem planE_zero {rules : List Rul} {a b : List Sta} {held : List ByteArray} : planE rules a b held = 0 ↔
    checkF rules = 0 ∧ statesF a = 0 ∧ statesF b = 0 ∧ a.length ≤ 8 ∧ held.length ≤ 256 ∧ nmE a b = true ∧ 0 ≤ (bfsF (mayF rules a held) a.length (numF b)).getD (numF a) 0 := by
  unfold planE
  constructor
  · intro h
    split at h
    · rename_i h1; exact absurd h h1
    rename_i h1
    split at h
    · rename_i h2; exact absurd h h2
    rename_i h2
    split at h
    · rename_i h3; exact absurd h h3
    rename_i h3
    split at h
    · cases h
    rename_i h4
    split at h
    · cases h
    rename_i h5
    split at h
    · cases h
    rename_i h6
    exact ⟨by simpa using h1, by simpa using h2, by simpa using h3, by omega, by omega, by simpa using h5, by omega⟩
  · rintro ⟨h1, h2, h3, h4, h5, h6, h7⟩
    rw [if_neg (by simp [h1]), if_neg (by simp [h2]), if_neg (by simp [h3]), if_neg (by omega), if_neg (by simp [h6]), if_neg (by omega)]
theorem plGo_len {p : Pln} {goal : Nat} {F : List Int} (h : BO p.may p.l.length goal F []) : ∀ (f n : Nat), n < 2 ^ p.l.length → F.getD n 0 = f → (plGo p F f n).length = f
  | 0, n, _, _ => rfl
  | f + 1, n, hn, hf => by
    obtain ⟨kd, hd1, hd2, hd3, hd4⟩ := h.desc n hn (by omega)
    have hnear : nearer p F n kd = true := by unfold nearer; rw [hd2, Bool.and_true, beq_iff_eq]; omega
    obtain ⟨kp, hkp1, hkp2, hkp3⟩ := pickGo_some (P := nearer p F n) p.l.length 0 kd hd1 (by rw [Nat.zero_add]; exact hnear)
    have hk : F.getD (flip n kp) 0 = F.getD n 0 - 1 := by
      unfold nearer at hkp3
      simp only [Bool.and_eq_true, beq_iff_eq] at hkp3
      exact hkp3.1
    have : plGo p F (f + 1) n = ⟨!n.testBit kp, (p.l.getD kp default).name⟩ :: plGo p F f (flip n kp) := by
      show (match pickGo (nearer p F n) p.l.length 0 with | some k => _ | none => _) = _
      rw [hkp1]
    rw [this, List.length_cons, plGo_len h f _ (flip_lt hn (by omega)) (by omega)]
theorem numF_goal {a b : List Sta} (h : nmE a b = true) : numF b < 2 ^ a.length := by rw [nmE_leq h]; exact numF_lt b
/-- An order has as many steps as the shortest way. -/
theorem plan_steps {p : Pln} {b : List Sta} (h : planE p.rules p.l b p.held = 0) : Steps p.may p.l.length (numF p.l) (numF b) (planL p b).length := by
  obtain ⟨h1, h2, h3, h4, h5, h6, h7⟩ := planE_zero.1 h
  have hB := bfsF_ok p.may h4 (numF_goal h6)
  have hm : mayF p.rules p.l p.held = p.may := rfl
  rw [hm] at h7
  unfold planL
  rw [if_pos h]
  generalize bfsF p.may p.l.length (numF b) = F at *
  have hn := numF_lt p.l
  obtain ⟨d, hd⟩ : ∃ d : Nat, F.getD (numF p.l) 0 = d := ⟨(F.getD (numF p.l) 0).toNat, by omega⟩
  rw [hd, Int.toNat_natCast, plGo_len hB d _ hn hd]
  exact hB.steps d _ hn hd
/-- Where there is a way, there is an order that is not longer. -/
theorem plan_of {p : Pln} {b : List Sta} (h1 : checkF p.rules = 0) (h2 : statesF p.l = 0) (h3 : statesF b = 0) (h4 : p.l.length ≤ 8) (h5 : p.held.length ≤ 256) (h6 : nmE p.l b = true) {d : Nat} (hs : Steps p.may p.l.length (numF p.l) (numF b) d) :
    planE p.rules p.l b p.held = 0 ∧ (planL p b).length ≤ d := by
  have hB := bfsF_ok p.may h4 (numF_goal h6)
  have hn := numF_lt p.l
  have hf := hB.far_le hs hn
  have hm : mayF p.rules p.l p.held = p.may := rfl
  have h := planE_zero.2 ⟨h1, h2, h3, h4, h5, h6, by rw [hm]; exact hf.1⟩
  refine ⟨h, ?_⟩
  unfold planL
  rw [if_pos h]
  generalize bfsF p.may p.l.length (numF b) = F at *
  obtain ⟨e, he⟩ : ∃ e : Nat, F.getD (numF p.l) 0 = e := ⟨(F.getD (numF p.l) 0).toNat, by omega⟩
  rw [he, Int.toNat_natCast, plGo_len hB e _ hn he]
  omega
theorem seq_eq {a b : ByteArray} : seq a b = true ↔ a = b := by
  unfold seq
  rw [beq_iff_eq]
  constructor
  · intro h; exact ByteArray.ext (Array.toList_inj.1 (by rw [← ByteArray.toList_eq, ← ByteArray.toList_eq]; exact h))
  · intro h; rw [h]
theorem nmE_names : ∀ {a b : List Sta}, nmE a b = true ↔ a.map (·.name) = b.map (·.name)
  | [], [] => by simp [nmE]
  | [], _ :: _ => by simp [nmE]
  | _ :: _, [] => by simp [nmE]
  | x :: a, y :: b => by
    have := nmE_names (a := a) (b := b)
    simp [nmE, seq_eq, this]
theorem stL_names {a b : List Sta} (h : nmE a b = true) (n : Nat) : stL a n = stL b n := by
  have h1 := nmE_names.1 h
  have h2 := nmE_leq h
  refine List.ext_getElem (by unfold stL; simp [h2]) fun i hi hj => ?_
  unfold stL at *
  rw [List.length_mapIdx] at hi hj
  rw [List.getElem_mapIdx, List.getElem_mapIdx]
  have : (a.map (·.name))[i]'(by simpa using hi) = (b.map (·.name))[i]'(by simpa using hj) := by simp only [h1]
  rw [List.getElem_map, List.getElem_map] at this
  rw [this]
theorem name_get {a b : List Sta} (h : nmE a b = true) {k : Nat} (hk : k < a.length) : (a.getD k default).name = (b.getD k default).name := by
  have h1 := nmE_names.1 h
  have h2 := nmE_leq h
  have : (a.map (·.name))[k]'(by simpa using hk) = (b.map (·.name))[k]'(by simp; omega) := by simp only [h1]
  rw [List.getElem_map, List.getElem_map] at this
  rw [List.getD_eq_getElem?_getD, List.getD_eq_getElem?_getD, List.getElem?_eq_getElem hk, List.getElem?_eq_getElem (by omega)]
  exact this
theorem mayF_names {rules : List Rul} {a b : List Sta} {held : List ByteArray} (h : nmE a b = true) {n k : Nat} (hk : k < a.length) : mayF rules a held n k = mayF rules b held n k := by
  unfold mayF
  rw [stL_names h, name_get h hk]
theorem Steps.mono {may may' : Nat → Nat → Bool} {L a b d : Nat} (h : Steps may L a b d) (hm : ∀ n k, k < L → may n k = true → may' n k = true) : Steps may' L a b d := by
  induction h with
  | nil a => exact .nil a
  | cons hk hmk _ ih => exact .cons hk (hm _ _ hk hmk) ih
/-- The way by other states is not shorter. -/
theorem through {pa pb : Pln} {b c : List Sta} (hr : pb.rules = pa.rules) (hh : pb.held = pa.held) (hb : pb.l = b) (h1 : planE pa.rules pa.l b pa.held = 0) (h2 : planE pa.rules b c pa.held = 0) :
    planE pa.rules pa.l c pa.held = 0 ∧ (planL pa c).length ≤ (planL pa b).length + (planL pb c).length := by
  obtain ⟨g1, g2, g3, g4, g5, g6, g7⟩ := planE_zero.1 h1
  obtain ⟨k1, k2, k3, k4, k5, k6, k7⟩ := planE_zero.1 h2
  have s1 := plan_steps h1
  have s2 := plan_steps (p := pb) (b := c) (by rw [hr, hh, hb]; exact h2)
  have hac : nmE pa.l c = true := nmE_names.2 ((nmE_names.1 g6).trans (nmE_names.1 k6))
  have hlen := nmE_leq g6
  rw [hb, ← hlen] at s2
  have s3 : Steps pa.may pa.l.length (numF b) (numF c) (planL pb c).length := s2.mono fun n k hk hm => by
    unfold Pln.may at hm ⊢
    rw [hr, hh, hb] at hm
    rw [mayF_names g6 hk]; exact hm
  exact plan_of g1 g2 k3 g4 g5 hac (s1.trans s3)
end Go.Proofs.Ytkbipopkemfhaaa
