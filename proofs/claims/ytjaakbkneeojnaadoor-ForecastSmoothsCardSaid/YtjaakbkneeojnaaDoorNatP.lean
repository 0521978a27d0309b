/- Numbers by digits in the base 10^9 (plain). -/
import Derived.Test.YtjaakbkneeojnaaDoorAwZl
set_option linter.unusedVariables false
set_option linter.unusedSimpArgs false
namespace Go.Proofs.YtjaakbkneeojnaaDoor
open Go.Proofs.YtjaakbkneeojnaaDoor.Aw
attribute [local go_sem] Int.natCast_zero Int.natCast_one bne_self_eq_false beq_self_eq_true Bool.not_true Bool.not_false Option.isSome_none Option.isSome_some Aw.bkM_nil Option.getD_some Option.getD_none Nat.sub_zero Int.toNat_zero Aw.frzS Aw.frzT Aw.frzA Aw.frzL Aw.frzR Aw.frzO Aw.frzOL Aw.frzOT Aw.frzOR Aw.killS Aw.mapT Aw.mapR Aw.killM Aw.resAVs Aw.resAV Aw.quietOps Aw.wpP Aw.wpT Aw.wpS Aw.AOp.mild List.getElem?_cons_zero List.getElem?_cons_succ Bool.and_false Bool.and_self Bool.false_and Aw.opOb Aw.gdB Aw.Rnd Aw.subTm List.length_map Int.toNat_natCast and_self Aw.SeqC Aw.stops Aw.Ends Aw.looks Aw.renA Aw.renL Aw.renT Aw.renS Aw.wpO Aw.aop Aw.putTm Aw.St.ev Aw.St.put Aw.St.putO Aw.binAV Aw.intBin Aw.strBin Aw.pickAV Aw.optInt Aw.AV.strip Aw.AV.guard Aw.AV.cells Aw.gdOb Aw.AOp.opds Aw.AOp.still Aw.ptrCells Aw.St.reg Aw.fillAV Aw.fillOb Aw.elsOb Aw.splice Aw.firm Aw.cellish Aw.AV.shut Aw.shutAll Aw.Seq Aw.Blk Aw.retS_nil Aw.mapA Aw.mapL Aw.borA Aw.borOb Aw.allOb Aw.tupOf Aw.params Aw.Opd.of Array.toList Value.cells List.map_cons List.map_nil List.getD_cons_zero List.getD_cons_succ List.getD_nil List.length_cons List.length_nil List.take_succ_cons List.take_zero List.take_nil List.drop_zero List.drop_succ_cons List.drop_nil List.set_cons_zero List.set_cons_succ List.append_nil List.nil_append List.cons_append List.all_cons List.all_nil cond_false cond_true if_true if_false true_and and_true Bool.and_true Bool.true_and Option.map_some Option.map_none false_implies forall_const implies_true forall_eq imp_self Bool.cond_false_right Bool.cond_true_left beq_true beq_false Bool.not_eq_true' Bool.false_eq_true Nat.zero_add Nat.add_zero Aw.eqCells Aw.stopDraw Aw.skipS Aw.exactCap Aw.revealS Aw.srcEls Aw.srcSz
attribute [local go_sem ↓] Aw.look_nil Aw.look_ite Aw.wpL_nil Aw.wpL_op Aw.wpL_gd Aw.wpQ_nil Aw.wpQ_op Aw.wpQ_gd Aw.wpC_draw Aw.wpC_reg Aw.wpC_skip Aw.wpC_ret Aw.wpC_exit Aw.wpC_seq Aw.wpC_block Aw.wpC_loop Aw.wpC_cond Aw.stopAt_nil Aw.stopAt_cons Aw.wpD_skip Aw.wpD_ret Aw.wpD_exit Aw.wpD_region Aw.wpD_draw Aw.wpM_nil Aw.wpM_op Aw.wpM_gd Aw.wpD_seq Aw.wpD_block Aw.wpD_loop Aw.wpD_cond
/-- The base. -/
abbrev bs : Nat := 1000000000
/-- The digits of a number, the least significant one first. -/
def digs (n : Nat) : List Nat := if h : n = 0 then [] else n % bs :: digs (n / bs)
termination_by n
decreasing_by exact Nat.div_lt_self (Nat.pos_of_ne_zero h) (by decide)
def val : List Nat → Nat
  | [] => 0
  | d :: l => d + bs * val l
/-- All digits are less than the base. -/
def Dig (l : List Nat) : Prop := ∀ d ∈ l, d < bs
theorem digs_zero : digs 0 = [] := by rw [digs]; rfl
theorem digs_pos {n : Nat} (h : n ≠ 0) : digs n = n % bs :: digs (n / bs) := by rw [digs, dif_neg h]
theorem val_digs (n : Nat) : val (digs n) = n := by
  induction n using Nat.strongRecOn with
  | _ n ih =>
    by_cases h : n = 0
    · subst h; rw [digs_zero]; rfl
    · rw [digs_pos h, val, ih (n / bs) (Nat.div_lt_self (Nat.pos_of_ne_zero h) (by decide))]
      exact Nat.mod_add_div n bs
theorem dig_digs (n : Nat) : Dig (digs n) := by
  induction n using Nat.strongRecOn with
  | _ n ih =>
    by_cases h : n = 0
    · subst h; rw [digs_zero]; intro d hd; cases hd
    · rw [digs_pos h]
      intro d hd
      rcases List.mem_cons.1 hd with rfl | hd
      · exact Nat.mod_lt _ (by decide)
      · exact ih (n / bs) (Nat.div_lt_self (Nat.pos_of_ne_zero h) (by decide)) d hd
theorem digs_nil {n : Nat} : digs n = [] ↔ n = 0 := by
  by_cases h : n = 0
  · subst h; exact ⟨fun _ => rfl, fun _ => digs_zero⟩
  · rw [digs_pos h]; exact ⟨fun h => (by cases h), fun h2 => absurd h2 h⟩
theorem Dig.tail {d : Nat} {l : List Nat} (h : Dig (d :: l)) : Dig l := fun x hx => h x (List.mem_cons_of_mem _ hx)
theorem val_append (l m : List Nat) : val (l ++ m) = val l + bs ^ l.length * val m := by
  induction l with
  | nil => simp [val]
  | cons d l ih =>
    rw [List.cons_append, val, ih, val, List.length_cons, Nat.pow_succ, Nat.mul_add, Nat.mul_comm (bs ^ l.length) bs, Nat.mul_assoc]
    omega
theorem val_lt {l : List Nat} (h : Dig l) : val l < bs ^ l.length := by
  induction l with
  | nil => simp [val]
  | cons d l ih =>
    have h1 := ih h.tail
    have h2 : d < bs := h d List.mem_cons_self
    rw [val, List.length_cons, Nat.pow_succ, Nat.mul_comm (bs ^ l.length) bs]
    have h3 : val l + 1 ≤ bs ^ l.length := h1
    calc d + bs * val l < bs * (val l + 1) := by rw [Nat.mul_add]; omega
      _ ≤ bs * bs ^ l.length := Nat.mul_le_mul_left _ h3
/-- No zero at the end. -/
def Canon (l : List Nat) : Prop := Dig l ∧ ∀ h : l ≠ [], l.getLast h ≠ 0
theorem canon_digs (n : Nat) : Canon (digs n) := by
  refine ⟨dig_digs n, ?_⟩
  induction n using Nat.strongRecOn with
  | _ n ih =>
    intro hne
    by_cases h : n = 0
    · subst h; exact absurd digs_zero hne
    · have hlt : n / bs < n := Nat.div_lt_self (Nat.pos_of_ne_zero h) (by decide)
      by_cases h2 : n / bs = 0
      · have e : digs n = [n % bs] := by rw [digs_pos h, h2, digs_zero]
        have : (digs n).getLast hne = n % bs := by
          have key : ∀ (l : List Nat) (h : l ≠ []), l = [n % bs] → l.getLast h = n % bs := fun l h e => by subst e; rfl
          exact key _ hne e
        rw [this]
        have := Nat.mod_add_div n bs
        rw [h2] at this
        omega
      · have h3 : digs (n / bs) ≠ [] := fun e => h2 (digs_nil.1 e)
        have : (digs n).getLast hne = (digs (n / bs)).getLast h3 := by
          have key : ∀ (l : List Nat) (h : l ≠ []), l = n % bs :: digs (n / bs) → l.getLast h = (digs (n / bs)).getLast h3 := fun l h e => by subst e; exact List.getLast_cons h3
          exact key _ hne (digs_pos h)
        rw [this]
        exact ih _ hlt h3
theorem Canon.tail {d : Nat} {l : List Nat} (h : Canon (d :: l)) : Canon l := ⟨h.1.tail, fun hne => by
  have := h.2 (by simp)
  rwa [List.getLast_cons hne] at this⟩
theorem canon_val_pos {l : List Nat} (h : Canon l) (hne : l ≠ []) : 0 < val l := by
  induction l with
  | nil => exact absurd rfl hne
  | cons d l ih =>
    rw [val]
    by_cases hl : l = []
    · subst hl
      have := h.2 hne
      simp only [List.getLast_singleton] at this
      omega
    · have := ih h.tail hl
      have : 0 < bs * val l := Nat.mul_pos (by decide) this
      omega
/-- Canonical digits are those of the value. -/
theorem canon_eq {l : List Nat} (h : Canon l) : digs (val l) = l := by
  induction l with
  | nil => exact digs_zero
  | cons d l ih =>
    have hp := canon_val_pos h (by simp)
    have hd : d < bs := h.1 d List.mem_cons_self
    rw [digs_pos (by omega), val]
    have h1 : (d + bs * val l) % bs = d := by rw [Nat.add_mul_mod_self_left, Nat.mod_eq_of_lt hd]
    have h2 : (d + bs * val l) / bs = val l := by rw [Nat.add_mul_div_left _ _ (by decide), Nat.div_eq_of_lt hd, Nat.zero_add]
    rw [h1, h2, ih h.tail]
theorem digs_len_le {n k : Nat} (h : n < bs ^ k) : (digs n).length ≤ k := by
  induction k generalizing n with
  | zero =>
    have : n = 0 := by simpa using h
    subst this; rw [digs_zero]; exact Nat.le_refl _
  | succ k ih =>
    by_cases hn : n = 0
    · subst hn; rw [digs_zero]; exact Nat.zero_le _
    · rw [digs_pos hn, List.length_cons]
      have : n / bs < bs ^ k := by
        rw [Nat.div_lt_iff_lt_mul (by decide)]
        rwa [Nat.pow_succ] at h
      exact Nat.succ_le_succ (ih this)
theorem digs_len_ge {n k : Nat} (h : bs ^ k ≤ n) : k < (digs n).length := by
  rcases Nat.lt_or_ge k (digs n).length with h1 | h1
  · exact h1
  · have h2 := val_lt (dig_digs n)
    rw [val_digs] at h2
    have : bs ^ (digs n).length ≤ bs ^ k := Nat.pow_le_pow_right (by decide) h1
    omega
/-- Zeros at the end taken off. -/
def trimL (l : List Nat) : List Nat := (l.reverse.dropWhile (· == 0)).reverse
theorem trim_val (l : List Nat) (h : Dig l) : digs (val l) = trimL l := by
  have key : ∀ (m : List Nat), Dig m.reverse → Canon (m.dropWhile (· == 0)).reverse ∧ val (m.dropWhile (· == 0)).reverse = val m.reverse := fun m => by
    induction m with
    | nil => intro _; exact ⟨⟨fun d hd => (by cases hd), fun h => absurd rfl h⟩, rfl⟩
    | cons d m ih =>
      intro hd
      rw [List.reverse_cons] at hd
      have hdm : Dig m.reverse := fun x hx => hd x (List.mem_append_left _ hx)
      by_cases h0 : d = 0
      · subst h0
        obtain ⟨i1, i2⟩ := ih hdm
        rw [List.dropWhile_cons, if_pos (by rfl)]
        refine ⟨i1, ?_⟩
        rw [i2, List.reverse_cons, val_append]; simp [val]
      · rw [List.dropWhile_cons, if_neg (by simpa using h0)]
        refine ⟨⟨by rw [List.reverse_cons]; exact hd, fun hne => ?_⟩, rfl⟩
        have : ((d :: m).reverse).getLast hne = d := by
          have k2 : ∀ (l : List Nat) (h : l ≠ []), l = m.reverse ++ [d] → l.getLast h = d := fun l h e => by subst e; simp
          exact k2 _ hne (List.reverse_cons)
        rw [this]; exact h0
  obtain ⟨k1, k2⟩ := key l.reverse (by rw [List.reverse_reverse]; exact h)
  rw [List.reverse_reverse] at k2
  rw [← k2, canon_eq k1]; rfl
end Go.Proofs.YtjaakbkneeojnaaDoor
