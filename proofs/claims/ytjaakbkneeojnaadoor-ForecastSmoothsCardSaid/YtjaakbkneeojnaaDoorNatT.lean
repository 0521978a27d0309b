/- Numbers as texts (plain). -/
import Derived.Test.YtjaakbkneeojnaaDoorAwZl
import Derived.Test.YtjaakbkneeojnaaDoorNatR
set_option linter.unusedVariables false
set_option linter.unusedSimpArgs false
namespace Go.Proofs.YtjaakbkneeojnaaDoor
open Go.Proofs.YtjaakbkneeojnaaDoor.Aw
attribute [local go_sem] Int.natCast_zero Int.natCast_one bne_self_eq_false beq_self_eq_true Bool.not_true Bool.not_false Option.isSome_none Option.isSome_some Aw.bkM_nil Option.getD_some Option.getD_none Nat.sub_zero Int.toNat_zero Aw.frzS Aw.frzT Aw.frzA Aw.frzL Aw.frzR Aw.frzO Aw.frzOL Aw.frzOT Aw.frzOR Aw.killS Aw.mapT Aw.mapR Aw.killM Aw.resAVs Aw.resAV Aw.quietOps Aw.wpP Aw.wpT Aw.wpS Aw.AOp.mild List.getElem?_cons_zero List.getElem?_cons_succ Bool.and_false Bool.and_self Bool.false_and Aw.opOb Aw.gdB Aw.Rnd Aw.subTm List.length_map Int.toNat_natCast and_self Aw.SeqC Aw.stops Aw.Ends Aw.looks Aw.renA Aw.renL Aw.renT Aw.renS Aw.wpO Aw.aop Aw.putTm Aw.St.ev Aw.St.put Aw.St.putO Aw.binAV Aw.intBin Aw.strBin Aw.pickAV Aw.optInt Aw.AV.strip Aw.AV.guard Aw.AV.cells Aw.gdOb Aw.AOp.opds Aw.AOp.still Aw.ptrCells Aw.St.reg Aw.fillAV Aw.fillOb Aw.elsOb Aw.splice Aw.firm Aw.cellish Aw.AV.shut Aw.shutAll Aw.Seq Aw.Blk Aw.retS_nil Aw.mapA Aw.mapL Aw.borA Aw.borOb Aw.allOb Aw.tupOf Aw.params Aw.Opd.of Array.toList Value.cells List.map_cons List.map_nil List.getD_cons_zero List.getD_cons_succ List.getD_nil List.length_cons List.length_nil List.take_succ_cons List.take_zero List.take_nil List.drop_zero List.drop_succ_cons List.drop_nil List.set_cons_zero List.set_cons_succ List.append_nil List.nil_append List.cons_append List.all_cons List.all_nil cond_false cond_true if_true if_false true_and and_true Bool.and_true Bool.true_and Option.map_some Option.map_none false_implies forall_const implies_true forall_eq imp_self Bool.cond_false_right Bool.cond_true_left beq_true beq_false Bool.not_eq_true' Bool.false_eq_true Nat.zero_add Nat.add_zero Aw.eqCells Aw.stopDraw Aw.skipS Aw.exactCap Aw.revealS Aw.srcEls Aw.srcSz
attribute [local go_sem ↓] Aw.look_nil Aw.look_ite Aw.wpL_nil Aw.wpL_op Aw.wpL_gd Aw.wpQ_nil Aw.wpQ_op Aw.wpQ_gd Aw.wpC_draw Aw.wpC_reg Aw.wpC_skip Aw.wpC_ret Aw.wpC_exit Aw.wpC_seq Aw.wpC_block Aw.wpC_loop Aw.wpC_cond Aw.stopAt_nil Aw.stopAt_cons Aw.wpD_skip Aw.wpD_ret Aw.wpD_exit Aw.wpD_region Aw.wpD_draw Aw.wpM_nil Aw.wpM_op Aw.wpM_gd Aw.wpD_seq Aw.wpD_block Aw.wpD_loop Aw.wpD_cond
/-- The last k decimal digits of a number, the most significant one first. -/
def decs : Nat → Nat → List Nat
  | 0, _ => []
  | k + 1, n => (n / 10 ^ k % 10) :: decs k n
theorem decs_len (k n : Nat) : (decs k n).length = k := by
  induction k with
  | zero => rfl
  | succ k ih => rw [decs, List.length_cons, ih]
theorem decs_lt (k n : Nat) : ∀ d ∈ decs k n, d < 10 := by
  induction k with
  | zero => intro d hd; cases hd
  | succ k ih =>
    intro d hd
    rcases List.mem_cons.1 hd with rfl | hd
    · exact Nat.mod_lt _ (by decide)
    · exact ih d hd
/-- The value of decimal digits. -/
def num (l : List Nat) : Nat := l.foldl (fun a d => a * 10 + d) 0
theorem foldl_num (l : List Nat) (a : Nat) : l.foldl (fun a d => a * 10 + d) a = a * 10 ^ l.length + num l := by
  induction l generalizing a with
  | nil => simp [num]
  | cons d l ih =>
    unfold num
    rw [List.foldl_cons, ih, List.foldl_cons, ih (0 * 10 + d), List.length_cons, Nat.pow_succ, Nat.add_mul, Nat.zero_mul, Nat.zero_add]
    rw [Nat.mul_assoc, Nat.mul_comm 10 (10 ^ l.length)]
    omega
theorem num_cons (d : Nat) (l : List Nat) : num (d :: l) = d * 10 ^ l.length + num l := by
  unfold num
  rw [List.foldl_cons, foldl_num, Nat.zero_mul, Nat.zero_add]
  rfl
theorem num_append (l m : List Nat) : num (l ++ m) = num l * 10 ^ m.length + num m := by
  unfold num
  rw [List.foldl_append, foldl_num]
  rfl
theorem num_lt {l : List Nat} (h : ∀ d ∈ l, d < 10) : num l < 10 ^ l.length := by
  induction l with
  | nil => simp [num]
  | cons d l ih =>
    have h1 := ih fun x hx => h x (List.mem_cons_of_mem _ hx)
    have h2 : d < 10 := h d List.mem_cons_self
    rw [num_cons, List.length_cons, Nat.pow_succ]
    have h3 : (d + 1) * 10 ^ l.length ≤ 10 * 10 ^ l.length := Nat.mul_le_mul_right _ h2
    rw [Nat.add_mul, Nat.one_mul] at h3
    omega
theorem num_decs (k n : Nat) : num (decs k n) = n % 10 ^ k := by
  induction k with
  | zero => simp [decs, num, Nat.mod_one]
  | succ k ih =>
    rw [decs, num_cons, decs_len, ih, Nat.pow_succ, Nat.mod_mul]
    rw [Nat.mul_comm (10 ^ k)]
    omega
theorem decs_mod (k j n : Nat) (h : k ≤ j) : decs k (n % 10 ^ j) = decs k n := by
  induction k with
  | zero => rfl
  | succ k ih =>
    rw [decs, decs, ih (by omega)]
    congr 1
    obtain ⟨i, rfl⟩ : ∃ i, j = k + (1 + i) := ⟨j - k - 1, by omega⟩
    rw [Nat.pow_add, Nat.mod_mul_right_div_self, Nat.pow_add, Nat.pow_one, Nat.mod_mul_right_mod]
theorem decs_add (a b n : Nat) : decs (a + b) n = decs a (n / 10 ^ b) ++ decs b n := by
  induction a with
  | zero => rw [Nat.zero_add]; rfl
  | succ a ih =>
    rw [show a + 1 + b = (a + b) + 1 by omega, decs, ih, decs, List.cons_append]
    congr 2
    rw [Nat.div_div_eq_div_mul, ← Nat.pow_add, Nat.add_comm b a]
theorem decs_split (a : Nat) (x d : Nat) (hd : d < bs) : decs (a + 9) (d + bs * x) = decs a x ++ decs 9 d := by
  rw [decs_add]
  have e : (10 : Nat) ^ 9 = bs := rfl
  rw [e]
  have h1 : (d + bs * x) / bs = x := by rw [Nat.add_mul_div_left _ _ (by decide), Nat.div_eq_of_lt hd, Nat.zero_add]
  have h2 : decs 9 (d + bs * x) = decs 9 d := by
    rw [← decs_mod 9 9 (d + bs * x) (Nat.le_refl _), e, Nat.add_mul_mod_self_left, Nat.mod_eq_of_lt hd]
  rw [h1, h2]
/-- A digit's character. -/
def ch (d : Nat) : UInt8 := UInt8.ofNat (48 + d)
theorem ch_nat {d : Nat} (h : d < 10) : (ch d).toNat = 48 + d := by
  unfold ch
  rw [UInt8.toNat_ofNat']
  exact Nat.mod_eq_of_lt (by omega)
/-- The text of a number. -/
def txtL (n : Nat) : List UInt8 := if n = 0 then [48] else ((decs (9 * nl n) n).map ch).dropWhile (· == 48)
/-- The digits that a text shows. -/
def dgs (l : List UInt8) : List Nat := l.map fun c => c.toNat - 48
/-- A canonical text. -/
def IsNum (l : List UInt8) : Prop := l ≠ [] ∧ (∀ c ∈ l, 48 ≤ c.toNat ∧ c.toNat ≤ 57) ∧ (l.head? = some 48 → l.length = 1)
theorem dgs_lt {l : List UInt8} (h : ∀ c ∈ l, 48 ≤ c.toNat ∧ c.toNat ≤ 57) : ∀ d ∈ dgs l, d < 10 := fun d hd => by
  obtain ⟨c, hc, rfl⟩ := List.mem_map.1 hd
  have := h c hc
  omega
theorem dgs_ch {l : List UInt8} (h : ∀ c ∈ l, 48 ≤ c.toNat ∧ c.toNat ≤ 57) : (dgs l).map ch = l := by
  induction l with
  | nil => rfl
  | cons c l ih =>
    have h1 := h c List.mem_cons_self
    have h2 := ih fun x hx => h x (List.mem_cons_of_mem _ hx)
    show (ch (c.toNat - 48)) :: (dgs l).map ch = c :: l
    rw [h2]
    congr 1
    apply UInt8.toNat_inj.1
    rw [ch_nat (by omega)]
    omega
theorem ch_dgs {l : List Nat} (h : ∀ d ∈ l, d < 10) : dgs (l.map ch) = l := by
  induction l with
  | nil => rfl
  | cons d l ih =>
    have h1 := h d List.mem_cons_self
    have h2 := ih fun x hx => h x (List.mem_cons_of_mem _ hx)
    show ((ch d).toNat - 48) :: dgs (l.map ch) = d :: l
    rw [h2, ch_nat h1]
    congr 1
    omega
/-- Digits with the same value and as many. -/
theorem decs_num {l : List Nat} (h : ∀ d ∈ l, d < 10) : decs l.length (num l) = l := by
  induction l with
  | nil => rfl
  | cons d l ih =>
    have h1 : d < 10 := h d List.mem_cons_self
    have h3 : ∀ x ∈ l, x < 10 := fun x hx => h x (List.mem_cons_of_mem _ hx)
    have h2 := ih h3
    have h4 := num_lt h3
    rw [List.length_cons, decs, num_cons]
    have e1 : (d * 10 ^ l.length + num l) / 10 ^ l.length = d := by
      rw [Nat.mul_comm, Nat.mul_add_div (Nat.pow_pos (by decide)), Nat.div_eq_of_lt h4, Nat.add_zero]
    have e2 : decs l.length (d * 10 ^ l.length + num l) = decs l.length (num l) := by
      rw [← decs_mod l.length l.length (d * 10 ^ l.length + num l) (Nat.le_refl _), Nat.mul_add_mod_self_right, decs_mod _ _ _ (Nat.le_refl _)]
    rw [e1, e2, h2, Nat.mod_eq_of_lt h1]
theorem drop_zeros (k : Nat) (l : List UInt8) : (List.replicate k 48 ++ l).dropWhile (· == (48 : UInt8)) = l.dropWhile (· == 48) := by
  induction k with
  | zero => rfl
  | succ k ih =>
    rw [List.replicate_succ, List.cons_append, List.dropWhile_cons, if_pos (by rfl), ih]
theorem drop_split (l : List UInt8) : ∃ k, l = List.replicate k 48 ++ l.dropWhile (· == 48) := by
  induction l with
  | nil => exact ⟨0, rfl⟩
  | cons c l ih =>
    rw [List.dropWhile_cons]
    by_cases h : c = 48
    · subst h
      obtain ⟨k, hk⟩ := ih
      refine ⟨k + 1, ?_⟩
      rw [if_pos (by rfl), List.replicate_succ, List.cons_append, ← hk]
    · rw [if_neg (by simpa using h)]
      exact ⟨0, rfl⟩
theorem num_zeros (k : Nat) (l : List Nat) : num (List.replicate k 0 ++ l) = num l := by
  induction k with
  | zero => rfl
  | succ k ih => rw [List.replicate_succ, List.cons_append, num_cons, ih]; omega
theorem pow9 (k : Nat) : 10 ^ (9 * k) = bs ^ k := by rw [Nat.pow_mul]
theorem decs_zero_of (a k n : Nat) (h : n < 10 ^ k) : decs (a + k) n = List.replicate a 0 ++ decs k n := by
  rw [decs_add, Nat.div_eq_of_lt h]
  congr 1
  clear h
  induction a with
  | zero => rfl
  | succ a ih => rw [decs, ih, Nat.zero_div, List.replicate_succ]
/-- The text of the value of a canonical text. -/
theorem txt_num {l : List UInt8} (h : IsNum l) : txtL (num (dgs l)) = l := by
  obtain ⟨hne, hd, hz⟩ := h
  have hlt := dgs_lt hd
  have hch := dgs_ch hd
  cases l with
  | nil => exact absurd rfl hne
  | cons c l =>
    have hl : (dgs (c :: l)).length = l.length + 1 := by simp [dgs]
    unfold txtL
    by_cases h0 : num (dgs (c :: l)) = 0
    · rw [if_pos h0]
      have hc : c.toNat - 48 = 0 := by
        have : num (dgs (c :: l)) = (c.toNat - 48) * 10 ^ (dgs l).length + num (dgs l) := num_cons _ _
        have h2 : 0 < 10 ^ (dgs l).length := Nat.pow_pos (by decide)
        rcases Nat.eq_zero_or_pos (c.toNat - 48) with h3 | h3
        · exact h3
        · have := Nat.mul_pos h3 h2
          omega
      have h1 := hd c List.mem_cons_self
      have hc2 : c = 48 := UInt8.toNat_inj.1 (by show c.toNat = 48; omega)
      subst hc2
      have := hz rfl
      rw [List.length_cons] at this
      have : l = [] := List.eq_nil_of_length_eq_zero (by omega)
      rw [this]
    · rw [if_neg h0]
      have hge : l.length + 1 ≤ 9 * nl (num (dgs (c :: l))) := by
        rcases Nat.lt_or_ge (9 * nl (num (dgs (c :: l)))) (l.length + 1) with h1 | h1
        · exfalso
          have h2 := lt_nl (num (dgs (c :: l)))
          rw [← pow9] at h2
          have h3 : 10 ^ (9 * nl (num (dgs (c :: l)))) ≤ 10 ^ l.length := Nat.pow_le_pow_right (by decide) (by omega)
          have h4 : num (dgs (c :: l)) = (c.toNat - 48) * 10 ^ (dgs l).length + num (dgs l) := num_cons _ _
          have h5 : (dgs l).length = l.length := by simp [dgs]
          rw [h5] at h4
          have h6 : c.toNat - 48 = 0 := by
            rcases Nat.eq_zero_or_pos (c.toNat - 48) with h7 | h7
            · exact h7
            · have : 1 * 10 ^ l.length ≤ (c.toNat - 48) * 10 ^ l.length := Nat.mul_le_mul_right _ h7
              omega
          have h8 := hd c List.mem_cons_self
          have hc2 : c = 48 := UInt8.toNat_inj.1 (by show c.toNat = 48; omega)
          subst hc2
          have h9 := hz rfl
          rw [List.length_cons] at h9
          have h10 : l = [] := List.eq_nil_of_length_eq_zero (by omega)
          subst h10
          exact h0 rfl
        · exact h1
      obtain ⟨a, ha⟩ : ∃ a, 9 * nl (num (dgs (c :: l))) = a + (l.length + 1) := ⟨9 * nl (num (dgs (c :: l))) - (l.length + 1), by omega⟩
      have hnl := num_lt hlt
      rw [hl] at hnl
      have hdn := decs_num hlt
      rw [hl] at hdn
      rw [ha, decs_zero_of a (l.length + 1) _ hnl, hdn, List.map_append, List.map_replicate, hch]
      have e : ch 0 = 48 := rfl
      rw [e, drop_zeros]
      rw [List.dropWhile_cons, if_neg ?_]
      intro h48
      have hc2 : c = 48 := by simpa using h48
      subst hc2
      have h9 := hz rfl
      rw [List.length_cons] at h9
      have h10 : l = [] := List.eq_nil_of_length_eq_zero (by omega)
      subst h10
      exact h0 rfl
theorem txt_digit (n : Nat) : ∀ c ∈ txtL n, 48 ≤ c.toNat ∧ c.toNat ≤ 57 := by
  unfold txtL
  intro c hc
  split at hc
  · rw [List.mem_singleton.1 hc]; decide
  · have h1 := List.dropWhile_sublist (l := (decs (9 * nl n) n).map ch) (· == (48 : UInt8))
    obtain ⟨d, hd, rfl⟩ := List.mem_map.1 (h1.subset hc)
    have := decs_lt _ _ d hd
    rw [ch_nat this]; omega
/-- The value of the text of a number. -/
theorem num_txt (n : Nat) : num (dgs (txtL n)) = n := by
  unfold txtL
  by_cases h0 : n = 0
  · rw [if_pos h0, h0]; rfl
  · rw [if_neg h0]
    obtain ⟨k, hk⟩ := drop_split ((decs (9 * nl n) n).map ch)
    have h1 := congrArg (fun l => num (dgs l)) hk
    rw [ch_dgs (decs_lt _ _), num_decs] at h1
    have h2 := lt_nl n
    rw [← pow9] at h2
    rw [Nat.mod_eq_of_lt h2] at h1
    have h3 : ∀ l, dgs (List.replicate k (48 : UInt8) ++ l) = List.replicate k 0 ++ dgs l := fun l => by
      unfold dgs
      rw [List.map_append, List.map_replicate]; rfl
    rw [h3, num_zeros] at h1
    exact h1.symm
theorem txt_isnum (n : Nat) : IsNum (txtL n) := by
  refine ⟨fun h => ?_, txt_digit n, fun h => ?_⟩
  · have := num_txt n
    rw [h] at this
    have h0 : n = 0 := this.symm
    subst h0
    exact absurd h (by decide)
  · unfold txtL at h ⊢
    split
    · rfl
    · rename_i h0
      rw [if_neg h0] at h
      exfalso
      have : ∀ l : List UInt8, (l.dropWhile (· == 48)).head? ≠ some 48 := fun l => by
        induction l with
        | nil => intro h; cases h
        | cons c l ih =>
          rw [List.dropWhile_cons]
          by_cases hc : c = 48
          · rw [if_pos (by simpa using hc)]; exact ih
          · rw [if_neg (by simpa using hc)]
            intro h; exact hc (by simpa using h)
      exact this _ h
theorem txt_len (n : Nat) : (txtL n).length ≤ 9 * nl n + 1 := by
  unfold txtL
  split
  · exact Nat.succ_le_succ (Nat.zero_le _)
  · have h1 := List.dropWhile_sublist (l := (decs (9 * nl n) n).map ch) (· == (48 : UInt8))
    have := h1.length_le
    rw [List.length_map, decs_len] at this
    omega
theorem num_inj {n m : Nat} (h : txtL n = txtL m) : n = m := by
  rw [← num_txt n, ← num_txt m, h]
end Go.Proofs.YtjaakbkneeojnaaDoor
