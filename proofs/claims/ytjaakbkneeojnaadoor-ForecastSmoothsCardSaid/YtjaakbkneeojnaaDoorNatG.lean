/- Numbers: one digit of a quotient (plain). -/
import Derived.Test.YtjaakbkneeojnaaDoorAwZl
import Derived.Test.YtjaakbkneeojnaaDoorNatR
import Derived.Test.YtjaakbkneeojnaaDoorNatQ
set_option linter.unusedVariables false
set_option linter.unusedSimpArgs false
namespace Go.Proofs.YtjaakbkneeojnaaDoor
open Go.Proofs.YtjaakbkneeojnaaDoor.Aw
attribute [local go_sem] Int.natCast_zero Int.natCast_one bne_self_eq_false beq_self_eq_true Bool.not_true Bool.not_false Option.isSome_none Option.isSome_some Aw.bkM_nil Option.getD_some Option.getD_none Nat.sub_zero Int.toNat_zero Aw.frzS Aw.frzT Aw.frzA Aw.frzL Aw.frzR Aw.frzO Aw.frzOL Aw.frzOT Aw.frzOR Aw.killS Aw.mapT Aw.mapR Aw.killM Aw.resAVs Aw.resAV Aw.quietOps Aw.wpP Aw.wpT Aw.wpS Aw.AOp.mild List.getElem?_cons_zero List.getElem?_cons_succ Bool.and_false Bool.and_self Bool.false_and Aw.opOb Aw.gdB Aw.Rnd Aw.subTm List.length_map Int.toNat_natCast and_self Aw.SeqC Aw.stops Aw.Ends Aw.looks Aw.renA Aw.renL Aw.renT Aw.renS Aw.wpO Aw.aop Aw.putTm Aw.St.ev Aw.St.put Aw.St.putO Aw.binAV Aw.intBin Aw.strBin Aw.pickAV Aw.optInt Aw.AV.strip Aw.AV.guard Aw.AV.cells Aw.gdOb Aw.AOp.opds Aw.AOp.still Aw.ptrCells Aw.St.reg Aw.fillAV Aw.fillOb Aw.elsOb Aw.splice Aw.firm Aw.cellish Aw.AV.shut Aw.shutAll Aw.Seq Aw.Blk Aw.retS_nil Aw.mapA Aw.mapL Aw.borA Aw.borOb Aw.allOb Aw.tupOf Aw.params Aw.Opd.of Array.toList Value.cells List.map_cons List.map_nil List.getD_cons_zero List.getD_cons_succ List.getD_nil List.length_cons List.length_nil List.take_succ_cons List.take_zero List.take_nil List.drop_zero List.drop_succ_cons List.drop_nil List.set_cons_zero List.set_cons_succ List.append_nil List.nil_append List.cons_append List.all_cons List.all_nil cond_false cond_true if_true if_false true_and and_true Bool.and_true Bool.true_and Option.map_some Option.map_none false_implies forall_const implies_true forall_eq imp_self Bool.cond_false_right Bool.cond_true_left beq_true beq_false Bool.not_eq_true' Bool.false_eq_true Nat.zero_add Nat.add_zero Aw.eqCells Aw.stopDraw Aw.skipS Aw.exactCap Aw.revealS Aw.srcEls Aw.srcSz
attribute [local go_sem ↓] Aw.look_nil Aw.look_ite Aw.wpL_nil Aw.wpL_op Aw.wpL_gd Aw.wpQ_nil Aw.wpQ_op Aw.wpQ_gd Aw.wpC_draw Aw.wpC_reg Aw.wpC_skip Aw.wpC_ret Aw.wpC_exit Aw.wpC_seq Aw.wpC_block Aw.wpC_loop Aw.wpC_cond Aw.stopAt_nil Aw.stopAt_cons Aw.wpD_skip Aw.wpD_ret Aw.wpD_exit Aw.wpD_region Aw.wpD_draw Aw.wpM_nil Aw.wpM_op Aw.wpM_gd Aw.wpD_seq Aw.wpD_block Aw.wpD_loop Aw.wpD_cond
theorem bs_pos : 0 < bs := by decide
/-- The value of two digits. -/
def topN (d0 d1 : Nat) : Nat := d0 * bs + d1
/-- What is known where a digit is estimated. -/
structure Est (A V : List Nat) (k : Nat) : Prop where
  hv1 : 0 < V.getD (V.length - 1) 0
  hvl : (V.getD (V.length - 1) 0 * bs + V.getD (V.length - 2) 0) * bs ^ (V.length - 2) ≤ val V
  hvu : val V < (V.getD (V.length - 1) 0 * bs + V.getD (V.length - 2) 0 + 1) * bs ^ (V.length - 2)
  hwl : (topN (A.getD (k + V.length) 0) (A.getD (k + V.length - 1) 0) * bs + A.getD (k + V.length - 2) 0) * bs ^ (V.length - 2) ≤ val A / bs ^ k
  hwu : val A / bs ^ k < (topN (A.getD (k + V.length) 0) (A.getD (k + V.length - 1) 0) * bs + A.getD (k + V.length - 2) 0 + 1) * bs ^ (V.length - 2)
  hvb : bs * bs ^ (V.length - 2) ≤ val V
  hwv : val A / bs ^ k < val V * bs
  htop : topN (A.getD (k + V.length) 0) (A.getD (k + V.length - 1) 0) < (V.getD (V.length - 1) 0 + 1) * bs
  hq0 : val A / bs ^ k / val V ≤ topN (A.getD (k + V.length) 0) (A.getD (k + V.length - 1) 0) / V.getD (V.length - 1) 0
  hzero : val (A.drop (k + V.length + 1)) = 0
theorem est_arith {b P d1 d2 e0 e1 e2 tv tw v w : Nat} (hb : 0 < b) (hP : 0 < P) (hv1 : 0 < d1) (hV : v = tv + (d1 * b + d2) * P) (htv : tv < P) (hW : w = tw + ((e0 * b + e1) * b + e2) * P) (htw : tw < P) (d2l : d2 < b) (e2l : e2 < b) (hwv : w < v * b) :
    (d1 * b + d2) * P ≤ v ∧ v < (d1 * b + d2 + 1) * P ∧ ((e0 * b + e1) * b + e2) * P ≤ w ∧ w < ((e0 * b + e1) * b + e2 + 1) * P ∧ b * P ≤ v ∧ e0 * b + e1 < (d1 + 1) * b ∧ w / v ≤ (e0 * b + e1) / d1 := by
  have q1 : (d1 * b + d2) * P ≤ v := by rw [hV]; exact Nat.le_add_left _ _
  have q2 : v < (d1 * b + d2 + 1) * P := by rw [hV, Nat.add_mul (d1 * b + d2), Nat.one_mul]; omega
  have q3 : ((e0 * b + e1) * b + e2) * P ≤ w := by rw [hW]; exact Nat.le_add_left _ _
  have q4 : w < ((e0 * b + e1) * b + e2 + 1) * P := by rw [hW, Nat.add_mul ((e0 * b + e1) * b + e2), Nat.one_mul]; omega
  have q5 : b * P ≤ v := by
    refine Nat.le_trans (Nat.mul_le_mul_right _ ?_) q1
    have : 1 * b ≤ d1 * b := Nat.mul_le_mul_right _ hv1
    omega
  have q6 : e0 * b + e1 < (d1 + 1) * b := by
    have h1 : (e0 * b + e1) * b * P ≤ w := Nat.le_trans (Nat.mul_le_mul_right _ (Nat.le_add_right _ _)) q3
    have h2 : v ≤ (d1 + 1) * b * P := by
      refine Nat.le_trans (Nat.le_of_lt q2) (Nat.mul_le_mul_right _ ?_)
      rw [Nat.add_mul, Nat.one_mul]; omega
    have h3 : (e0 * b + e1) * (b * P) < ((d1 + 1) * b) * (b * P) := by
      rw [← Nat.mul_assoc]
      refine Nat.lt_of_le_of_lt h1 (Nat.lt_of_lt_of_le hwv ?_)
      rw [Nat.mul_comm b P, ← Nat.mul_assoc]
      exact Nat.mul_le_mul_right _ h2
    exact Nat.lt_of_mul_lt_mul_right h3
  have q7 : w / v ≤ (e0 * b + e1) / d1 := by
    refine est_up (P := b * P) hv1 ?_ ?_
    · rw [← Nat.mul_assoc]
      exact Nat.le_trans (Nat.mul_le_mul_right _ (Nat.le_add_right _ _)) q1
    · refine Nat.lt_of_lt_of_le q4 ?_
      rw [← Nat.mul_assoc]
      refine Nat.mul_le_mul_right _ ?_
      rw [Nat.add_mul (e0 * b + e1), Nat.one_mul]; omega
  exact ⟨q1, q2, q3, q4, q5, q6, q7⟩
theorem low_zero {b P n1 k1 a v : Nat} (h : a < b * v) (hv : v < P) (hb : 0 < b) : a / (b * P) = 0 :=
  Nat.div_eq_of_lt (Nat.lt_of_lt_of_le h (Nat.mul_le_mul_left _ (Nat.le_of_lt hv)))
theorem est_of {A V : List Nat} {k : Nat} (hdA : Dig A) (hdV : Dig V) (hn : 2 ≤ V.length) (hv1 : 0 < V.getD (V.length - 1) 0) (hA : val A < bs ^ (k + 1) * val V) : Est A V k := by
  obtain ⟨n, hn2⟩ : ∃ n, V.length = n + 2 := ⟨V.length - 2, by omega⟩
  have a1 : V.length - 1 = n + 1 := by omega
  have a2 : V.length - 2 = n := by omega
  have a3 : k + V.length = k + n + 2 := by omega
  have a4 : k + V.length - 1 = k + n + 1 := by omega
  have a5 : k + V.length - 2 = k + n := by omega
  rw [a1] at hv1
  have hvlt : val V < bs ^ (n + 2) := by rw [← hn2]; exact val_lt hdV
  have hP : 0 < bs ^ n := Nat.pow_pos bs_pos
  have hk : 0 < bs ^ k := Nat.pow_pos bs_pos
  have hwv : val A / bs ^ k < val V * bs := by
    rw [Nat.div_lt_iff_lt_mul hk]
    rw [Nat.pow_succ] at hA
    have : val V * bs * bs ^ k = bs ^ k * bs * val V := by ac_rfl
    rw [this]; exact hA
  have hzero : val (A.drop (k + n + 2 + 1)) = 0 := by
    rw [val_dropdiv hdA, show k + n + 2 + 1 = (k + 1) + (n + 2) by omega, Nat.pow_add]
    exact low_zero (n1 := 0) (k1 := 0) hA hvlt (Nat.pow_pos bs_pos)
  have v0 := val_cut V n
  have v1 := val_drop1 V n
  have v2 := val_drop1 V (n + 1)
  have v3 : V.drop (n + 1 + 1) = [] := List.drop_of_length_le (by omega)
  have v5 : val (V.drop (n + 1 + 1)) = 0 := by rw [v3]; rfl
  rw [v5, Nat.mul_zero, Nat.add_zero] at v2
  have v4 := val_takelt hdV n
  have w0 := val_cut (A.drop k) n
  rw [List.drop_drop, val_dropdiv hdA k] at w0
  have w1 := val_drop1 A (k + n)
  have w2 := val_drop1 A (k + n + 1)
  have w3 := val_drop1 A (k + n + 1 + 1)
  rw [show k + n + 2 + 1 = k + n + 1 + 1 + 1 from rfl] at hzero
  rw [hzero, Nat.mul_zero, Nat.add_zero] at w3
  have w4 := val_takelt (hdA.drop k) n
  have d2l := dget hdV n
  have e2l := dget hdA (k + n)
  rw [v1, v2] at v0
  rw [w1, w2, w3] at w0
  have r := est_arith (b := bs) (P := bs ^ n) (d1 := V.getD (n + 1) 0) (d2 := V.getD n 0) (e0 := A.getD (k + n + 1 + 1) 0) (e1 := A.getD (k + n + 1) 0) (e2 := A.getD (k + n) 0) bs_pos hP hv1 (v0.trans (by ac_rfl)) v4 (w0.trans (by ac_rfl)) w4 d2l e2l hwv
  obtain ⟨q1, q2, q3, q4, q5, q6, q7⟩ := r
  have a6 : k + n + 1 + 1 = k + n + 2 := rfl
  rw [a6] at q3 q4 q6 q7
  have a7 : k + n + 1 + 1 + 1 = k + n + 2 + 1 := rfl
  rw [a7] at hzero
  exact ⟨by rw [a1]; exact hv1, by rw [a1, a2]; exact q1, by rw [a1, a2]; exact q2, by rw [a4, a5, a3, a2, topN]; exact q3, by rw [a4, a5, a3, a2, topN]; exact q4, by rw [a2]; exact q5, hwv, by rw [a4, a3, a1, topN]; exact q6, by rw [a4, a3, a1, topN]; exact q7, by rw [a3]; exact hzero⟩
/-- The rest behind a digit. -/
theorem div_post {a a' v B w Q : Nat} (hB : 0 < B) (hv : 0 < v) (hw : w = a / B) (hQ : Q = w / v) (h : a' + B * (Q * v) = a) : a' < B * v := by
  have h1 := Nat.mod_add_div a B
  have h2 := Nat.mod_lt a hB
  rw [← hw] at h1
  have h3 := Nat.mod_add_div w v
  have h4 := Nat.mod_lt w hv
  rw [← hQ] at h3
  have h5 : B * (w % v + v * Q) = B * w := by rw [h3]
  rw [Nat.mul_add, Nat.mul_comm v Q] at h5
  have h6 : B * (w % v + 1) ≤ B * v := Nat.mul_le_mul_left _ h4
  rw [Nat.mul_add, Nat.mul_one] at h6
  omega
theorem drop_lt {A : List Nat} (hdA : Dig A) {j : Nat} (h : val (A.drop j) = 0) : val A < bs ^ j := by
  have h1 := val_cut A j
  have h2 := val_takelt hdA j
  rw [h, Nat.mul_zero] at h1
  omega
/-- minus without a borrow. -/
theorem div_case0 {a a' v B w Q : Nat} (hB : 0 < B) (hv : 0 < v) (hw : w = a / B) (hQ : Q = w / v ∧ Q * v ≤ w ∨ Q = w / v + 1 ∧ w < Q * v) (h : a' + B * (Q * v) = a) : Q = w / v ∧ a' < B * v := by
  have h1 : Q * v ≤ w := by
    rw [hw, Nat.le_div_iff_mul_le hB, Nat.mul_comm]; omega
  rcases hQ with ⟨h2, _⟩ | ⟨_, h2⟩
  · exact ⟨h2, div_post hB hv hw h2 h⟩
  · omega
/-- minus with a borrow, then plus. -/
theorem div_case1 {a a' a'' v B X w Q c : Nat} (hB : 0 < B) (hv : 0 < v) (hw : w = a / B) (hQ : Q = w / v ∧ Q * v ≤ w ∨ Q = w / v + 1 ∧ w < Q * v) (h : a' + B * (Q * v) = a + X) (hX : a' < X) (ha : a < X) (hX2 : a'' < X) (hc : c ≤ 1) (h2 : a'' + X * c = a' + B * v) :
    Q = w / v + 1 ∧ a'' + B * (w / v * v) = a ∧ a'' < B * v := by
  have h3 : w < Q * v := by
    rw [hw, Nat.div_lt_iff_lt_mul hB, Nat.mul_comm]; omega
  rcases hQ with ⟨_, h4⟩ | ⟨h4, _⟩
  · omega
  have h5 : w / v * v ≤ w := Nat.div_mul_le_self w v
  have h6 : B * (w / v * v) ≤ a := by
    rw [Nat.mul_comm, ← Nat.le_div_iff_mul_le hB, ← hw]; exact h5
  rw [h4, Nat.add_mul, Nat.one_mul, Nat.mul_add] at h
  have h7 : a'' + B * (w / v * v) = a := by
    have hc2 : c = 0 ∨ c = 1 := by omega
    rcases hc2 with rfl | rfl <;> omega
  exact ⟨h4, h7, div_post hB hv hw rfl h7⟩
end Go.Proofs.YtjaakbkneeojnaaDoor
