/- Division of numbers by digits: the estimate of a digit (plain). -/
import Derived.Test.YtjaakbkneeojnaaDoorAwZl
import Derived.Test.YtjaakbkneeojnaaDoorNatP
set_option linter.unusedVariables false
set_option linter.unusedSimpArgs false
namespace Go.Proofs.YtjaakbkneeojnaaDoor
open Go.Proofs.YtjaakbkneeojnaaDoor.Aw
attribute [local go_sem] Int.natCast_zero Int.natCast_one bne_self_eq_false beq_self_eq_true Bool.not_true Bool.not_false Option.isSome_none Option.isSome_some Aw.bkM_nil Option.getD_some Option.getD_none Nat.sub_zero Int.toNat_zero Aw.frzS Aw.frzT Aw.frzA Aw.frzL Aw.frzR Aw.frzO Aw.frzOL Aw.frzOT Aw.frzOR Aw.killS Aw.mapT Aw.mapR Aw.killM Aw.resAVs Aw.resAV Aw.quietOps Aw.wpP Aw.wpT Aw.wpS Aw.AOp.mild List.getElem?_cons_zero List.getElem?_cons_succ Bool.and_false Bool.and_self Bool.false_and Aw.opOb Aw.gdB Aw.Rnd Aw.subTm List.length_map Int.toNat_natCast and_self Aw.SeqC Aw.stops Aw.Ends Aw.looks Aw.renA Aw.renL Aw.renT Aw.renS Aw.wpO Aw.aop Aw.putTm Aw.St.ev Aw.St.put Aw.St.putO Aw.binAV Aw.intBin Aw.strBin Aw.pickAV Aw.optInt Aw.AV.strip Aw.AV.guard Aw.AV.cells Aw.gdOb Aw.AOp.opds Aw.AOp.still Aw.ptrCells Aw.St.reg Aw.fillAV Aw.fillOb Aw.elsOb Aw.splice Aw.firm Aw.cellish Aw.AV.shut Aw.shutAll Aw.Seq Aw.Blk Aw.retS_nil Aw.mapA Aw.mapL Aw.borA Aw.borOb Aw.allOb Aw.tupOf Aw.params Aw.Opd.of Array.toList Value.cells List.map_cons List.map_nil List.getD_cons_zero List.getD_cons_succ List.getD_nil List.length_cons List.length_nil List.take_succ_cons List.take_zero List.take_nil List.drop_zero List.drop_succ_cons List.drop_nil List.set_cons_zero List.set_cons_succ List.append_nil List.nil_append List.cons_append List.all_cons List.all_nil cond_false cond_true if_true if_false true_and and_true Bool.and_true Bool.true_and Option.map_some Option.map_none false_implies forall_const implies_true forall_eq imp_self Bool.cond_false_right Bool.cond_true_left beq_true beq_false Bool.not_eq_true' Bool.false_eq_true Nat.zero_add Nat.add_zero Aw.eqCells Aw.stopDraw Aw.skipS Aw.exactCap Aw.revealS Aw.srcEls Aw.srcSz
attribute [local go_sem ↓] Aw.look_nil Aw.look_ite Aw.wpL_nil Aw.wpL_op Aw.wpL_gd Aw.wpQ_nil Aw.wpQ_op Aw.wpQ_gd Aw.wpC_draw Aw.wpC_reg Aw.wpC_skip Aw.wpC_ret Aw.wpC_exit Aw.wpC_seq Aw.wpC_block Aw.wpC_loop Aw.wpC_cond Aw.stopAt_nil Aw.stopAt_cons Aw.wpD_skip Aw.wpD_ret Aw.wpD_exit Aw.wpD_region Aw.wpD_draw Aw.wpM_nil Aw.wpM_op Aw.wpM_gd Aw.wpD_seq Aw.wpD_block Aw.wpD_loop Aw.wpD_cond
/-- The first estimate is not too small. -/
theorem est_up {top v1 v w P : Nat} (hv1 : 0 < v1) (hv : v1 * P ≤ v) (hw : w < (top + 1) * P) : w / v ≤ top / v1 := by
  rw [Nat.le_div_iff_mul_le hv1]
  have h1 : w / v * v ≤ w := Nat.div_mul_le_self w v
  have h2 : w / v * (v1 * P) ≤ w / v * v := Nat.mul_le_mul_left _ hv
  have h3 : w / v * v1 * P < (top + 1) * P := by rw [Nat.mul_assoc]; omega
  exact Nat.le_of_lt_succ (Nat.lt_of_mul_lt_mul_right h3)
/-- An estimate that fails the test is too great. -/
theorem est_dec {top v1 v2 u2 v w P q r : Nat} (hv : (v1 * bs + v2) * P ≤ v) (hw : w < (top * bs + u2 + 1) * P) (hr : q * v1 + r = top) (h : q * v2 > r * bs + u2) : w < q * v := by
  have h1 : q * ((v1 * bs + v2) * P) ≤ q * v := Nat.mul_le_mul_left _ hv
  have h2 : q * (v1 * bs + v2) = q * v1 * bs + q * v2 := by rw [Nat.mul_add, Nat.mul_assoc]
  have h3 : top * bs = q * v1 * bs + r * bs := by rw [← hr, Nat.add_mul]
  have h4 : top * bs + u2 + 1 ≤ q * (v1 * bs + v2) := by omega
  have h5 : (top * bs + u2 + 1) * P ≤ q * (v1 * bs + v2) * P := Nat.mul_le_mul_right _ h4
  rw [Nat.mul_assoc] at h5
  omega
/-- An estimate that passes the test is too great by at most one. -/
theorem est_ok {top v1 v2 u2 v w P q r : Nat} (hw : (top * bs + u2) * P ≤ w) (hv : v < (v1 * bs + v2 + 1) * P) (hv2 : bs * P ≤ v) (hr : q * v1 + r = top) (h : q * v2 ≤ r * bs + u2) (hq : q < bs) : q * v < w + v := by
  have h2 : q * (v1 * bs + v2) = q * v1 * bs + q * v2 := by rw [Nat.mul_add, Nat.mul_assoc]
  have h3 : top * bs = q * v1 * bs + r * bs := by rw [← hr, Nat.add_mul]
  have h4 : q * (v1 * bs + v2) ≤ top * bs + u2 := by omega
  have h5 : q * (v1 * bs + v2) * P ≤ (top * bs + u2) * P := Nat.mul_le_mul_right _ h4
  rcases Nat.eq_zero_or_pos q with h0 | h0
  · subst h0
    have : 0 < v := by
      rcases Nat.eq_zero_or_pos P with hP | hP
      · subst hP; simp at hv
      · exact Nat.lt_of_lt_of_le (Nat.mul_pos (by decide) hP) hv2
    omega
  · have h6 : q * v < q * ((v1 * bs + v2 + 1) * P) := Nat.mul_lt_mul_of_pos_left hv h0
    have h7 : q * ((v1 * bs + v2 + 1) * P) = q * (v1 * bs + v2) * P + q * P := by rw [← Nat.mul_assoc, Nat.mul_add, Nat.mul_one, Nat.add_mul]
    have h8 : q * P ≤ bs * P := Nat.mul_le_mul_right _ (Nat.le_of_lt hq)
    omega
/-- So it is the digit, or one more. -/
theorem est_one {v w q : Nat} (hv : 0 < v) (h1 : w / v ≤ q) (h2 : q * v < w + v) : q = w / v ∧ q * v ≤ w ∨ q = w / v + 1 ∧ w < q * v := by
  have h3 : w / v * v ≤ w := Nat.div_mul_le_self w v
  have h4 : w < (w / v + 1) * v := by
    have h5 := Nat.div_add_mod w v
    have h6 := Nat.mod_lt w hv
    rw [Nat.add_mul, Nat.one_mul, Nat.mul_comm (w / v) v]; omega
  rcases Nat.lt_or_ge q (w / v + 1) with h5 | h5
  · have : q = w / v := by omega
    left
    exact ⟨this, by rw [this]; exact h3⟩
  · right
    have h6 : q < w / v + 2 := by
      have : q * v < (w / v + 2) * v := by
        rw [show (w / v + 2) * v = (w / v + 1) * v + v by rw [Nat.add_mul, Nat.add_mul]; omega]
        omega
      exact Nat.lt_of_mul_lt_mul_right this
    have : q = w / v + 1 := by omega
    exact ⟨this, by rw [this]; exact h4⟩
/-- The estimate, as the code makes it. -/
def estL (v1 v2 u2 : Nat) : Nat → Nat → Nat → Nat
  | 0, q, _ => q
  | f + 1, q, r => if q ≥ bs ∨ q * v2 > r * bs + u2 then (if r + v1 ≥ bs then q - 1 else estL v1 v2 u2 f (q - 1) (r + v1)) else q
theorem estL_ok {top v1 v2 u2 v w P : Nat} (hv1 : 0 < v1) (hv2l : v2 < bs) (hvl : (v1 * bs + v2) * P ≤ v) (hvu : v < (v1 * bs + v2 + 1) * P) (hwl : (top * bs + u2) * P ≤ w) (hwu : w < (top * bs + u2 + 1) * P) (hvb : bs * P ≤ v) (hwv : w < v * bs) (htop : top < (v1 + 1) * bs) :
    ∀ (f q r : Nat), q * v1 + r = top → w / v ≤ q → r < bs → q < f → estL v1 v2 u2 f q r * v < w + v ∧ w / v ≤ estL v1 v2 u2 f q r ∧ estL v1 v2 u2 f q r < bs
  | 0, q, r, _, _, _, hf => by omega
  | f + 1, q, r, hr, hq, hrb, hf => by
    have hvp : 0 < v := by
      rcases Nat.eq_zero_or_pos v with h | h
      · subst h; simp at hwv
      · exact h
    unfold estL
    by_cases hc : q ≥ bs ∨ q * v2 > r * bs + u2
    · rw [if_pos hc]
      have hgt : w / v < q := by
        rcases hc with hc | hc
        · exact Nat.lt_of_lt_of_le ((Nat.div_lt_iff_lt_mul hvp).2 (by rw [Nat.mul_comm]; exact hwv)) hc
        · exact (Nat.div_lt_iff_lt_mul hvp).2 (est_dec hvl hwu hr hc)
      have hq0 : 0 < q := Nat.lt_of_le_of_lt (Nat.zero_le _) hgt
      have hq1 : w / v ≤ q - 1 := Nat.le_sub_one_of_lt hgt
      have hr' : (q - 1) * v1 + (r + v1) = top := by
        obtain ⟨p, rfl⟩ : ∃ p, q = p + 1 := ⟨q - 1, by omega⟩
        rw [Nat.add_mul, Nat.one_mul] at hr
        rw [Nat.add_sub_cancel]; omega
      by_cases hb : r + v1 ≥ bs
      · rw [if_pos hb]
        have hlt : q - 1 < bs := by
          rcases Nat.lt_or_ge (q - 1) bs with h | h
          · exact h
          · exfalso
            have : bs * v1 ≤ (q - 1) * v1 := Nat.mul_le_mul_right _ h
            rw [Nat.add_mul, Nat.one_mul, Nat.mul_comm v1 bs] at htop
            omega
        have hle : (q - 1) * v2 ≤ (r + v1) * bs + u2 := by
          have h1 : (q - 1) * v2 ≤ bs * bs := Nat.mul_le_mul (Nat.le_of_lt hlt) (Nat.le_of_lt hv2l)
          have h2 : bs * bs ≤ (r + v1) * bs := Nat.mul_le_mul_right _ hb
          omega
        exact ⟨est_ok hwl hvu hvb hr' hle hlt, hq1, hlt⟩
      · rw [if_neg hb]
        exact estL_ok hv1 hv2l hvl hvu hwl hwu hvb hwv htop f (q - 1) (r + v1) hr' hq1 (Nat.not_le.1 hb) (by clear hgt hq1 hq; omega)
    · rw [if_neg hc]
      rw [not_or] at hc
      exact ⟨est_ok hwl hvu hvb hr (by omega) (by omega), hq, by omega⟩
end Go.Proofs.YtjaakbkneeojnaaDoor
