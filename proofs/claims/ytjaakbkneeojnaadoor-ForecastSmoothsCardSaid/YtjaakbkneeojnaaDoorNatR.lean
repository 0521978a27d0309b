/- Numbers by digits: what is written into an array of digits (plain). -/
import Derived.Test.YtjaakbkneeojnaaDoorAwZl
import Derived.Test.YtjaakbkneeojnaaDoorNatP
set_option linter.unusedVariables false
set_option linter.unusedSimpArgs false
namespace Go.Proofs.YtjaakbkneeojnaaDoor
open Go.Proofs.YtjaakbkneeojnaaDoor.Aw
attribute [local go_sem] Int.natCast_zero Int.natCast_one bne_self_eq_false beq_self_eq_true Bool.not_true Bool.not_false Option.isSome_none Option.isSome_some Aw.bkM_nil Option.getD_some Option.getD_none Nat.sub_zero Int.toNat_zero Aw.frzS Aw.frzT Aw.frzA Aw.frzL Aw.frzR Aw.frzO Aw.frzOL Aw.frzOT Aw.frzOR Aw.killS Aw.mapT Aw.mapR Aw.killM Aw.resAVs Aw.resAV Aw.quietOps Aw.wpP Aw.wpT Aw.wpS Aw.AOp.mild List.getElem?_cons_zero List.getElem?_cons_succ Bool.and_false Bool.and_self Bool.false_and Aw.opOb Aw.gdB Aw.Rnd Aw.subTm List.length_map Int.toNat_natCast and_self Aw.SeqC Aw.stops Aw.Ends Aw.looks Aw.renA Aw.renL Aw.renT Aw.renS Aw.wpO Aw.aop Aw.putTm Aw.St.ev Aw.St.put Aw.St.putO Aw.binAV Aw.intBin Aw.strBin Aw.pickAV Aw.optInt Aw.AV.strip Aw.AV.guard Aw.AV.cells Aw.gdOb Aw.AOp.opds Aw.AOp.still Aw.ptrCells Aw.St.reg Aw.fillAV Aw.fillOb Aw.elsOb Aw.splice Aw.firm Aw.cellish Aw.AV.shut Aw.shutAll Aw.Seq Aw.Blk Aw.retS_nil Aw.mapA Aw.mapL Aw.borA Aw.borOb Aw.allOb Aw.tupOf Aw.params Aw.Opd.of Array.toList Value.cells List.map_cons List.map_nil List.getD_cons_zero List.getD_cons_succ List.getD_nil List.length_cons List.length_nil List.take_succ_cons List.take_zero List.take_nil List.drop_zero List.drop_succ_cons List.drop_nil List.set_cons_zero List.set_cons_succ List.append_nil List.nil_append List.cons_append List.all_cons List.all_nil cond_false cond_true if_true if_false true_and and_true Bool.and_true Bool.true_and Option.map_some Option.map_none false_implies forall_const implies_true forall_eq imp_self Bool.cond_false_right Bool.cond_true_left beq_true beq_false Bool.not_eq_true' Bool.false_eq_true Nat.zero_add Nat.add_zero Aw.eqCells Aw.stopDraw Aw.skipS Aw.exactCap Aw.revealS Aw.srcEls Aw.srcSz
attribute [local go_sem ↓] Aw.look_nil Aw.look_ite Aw.wpL_nil Aw.wpL_op Aw.wpL_gd Aw.wpQ_nil Aw.wpQ_op Aw.wpQ_gd Aw.wpC_draw Aw.wpC_reg Aw.wpC_skip Aw.wpC_ret Aw.wpC_exit Aw.wpC_seq Aw.wpC_block Aw.wpC_loop Aw.wpC_cond Aw.stopAt_nil Aw.stopAt_cons Aw.wpD_skip Aw.wpD_ret Aw.wpD_exit Aw.wpD_region Aw.wpD_draw Aw.wpM_nil Aw.wpM_op Aw.wpM_gd Aw.wpD_seq Aw.wpD_block Aw.wpD_loop Aw.wpD_cond
theorem dget {l : List Nat} (hl : Dig l) (i : Nat) : l.getD i 0 < bs := by
  rw [List.getD_eq_getElem?_getD]
  rcases Nat.lt_or_ge i l.length with h | h
  · rw [List.getElem?_eq_getElem h]; exact hl _ (List.getElem_mem h)
  · rw [List.getElem?_eq_none h]; decide
theorem val_take1 (l : List Nat) (i : Nat) : val (l.take (i + 1)) = val (l.take i) + bs ^ i * l.getD i 0 := by
  rcases Nat.lt_or_ge i l.length with hi | hi
  · rw [List.take_add_one, List.getElem?_eq_getElem hi]
    rw [val_append, List.length_take, Nat.min_eq_left (Nat.le_of_lt hi), List.getD_eq_getElem?_getD, List.getElem?_eq_getElem hi]
    simp [val]
  · rw [List.take_of_length_le hi, List.take_of_length_le (by omega), List.getD_eq_getElem?_getD, List.getElem?_eq_none hi]; simp
theorem val_drop1 (l : List Nat) (i : Nat) : val (l.drop i) = l.getD i 0 + bs * val (l.drop (i + 1)) := by
  rcases Nat.lt_or_ge i l.length with hi | hi
  · rw [List.drop_eq_getElem_cons hi, val, List.getD_eq_getElem?_getD, List.getElem?_eq_getElem hi]; rfl
  · rw [List.drop_of_length_le hi, List.drop_of_length_le (by omega), List.getD_eq_getElem?_getD, List.getElem?_eq_none hi]; simp [val]
theorem val_cut (l : List Nat) (j : Nat) : val l = val (l.take j) + bs ^ j * val (l.drop j) := by
  rcases Nat.lt_or_ge j l.length with hj | hj
  · have h := val_append (l.take j) (l.drop j)
    rw [List.take_append_drop, List.length_take, Nat.min_eq_left (Nat.le_of_lt hj)] at h
    exact h
  · rw [List.take_of_length_le hj, List.drop_of_length_le hj]; simp [val]
theorem Dig.take {l : List Nat} (h : Dig l) (n : Nat) : Dig (l.take n) := fun d hd => h d (List.mem_of_mem_take hd)
theorem Dig.drop {l : List Nat} (h : Dig l) (n : Nat) : Dig (l.drop n) := fun d hd => h d (List.mem_of_mem_drop hd)
theorem Dig.set {l : List Nat} (h : Dig l) (j d : Nat) (hd : d < bs) : Dig (l.set j d) := fun x hx => by
  rcases List.mem_or_eq_of_mem_set hx with h1 | h1
  · exact h x h1
  · rw [h1]; exact hd
theorem Dig.app {l m : List Nat} (h : Dig l) (k : Dig m) : Dig (l ++ m) := fun x hx => by
  rcases List.mem_append.1 hx with h1 | h1
  · exact h x h1
  · exact k x h1
theorem Dig.one {d : Nat} (h : d < bs) : Dig [d] := fun x hx => by rw [List.mem_singleton.1 hx]; exact h
theorem Dig.zeros (n : Nat) : Dig (List.replicate n 0) := fun x hx => by rw [List.eq_of_mem_replicate hx]; decide
theorem val_zeros (n : Nat) : val (List.replicate n 0) = 0 := by
  induction n with
  | zero => rfl
  | succ n ih => rw [List.replicate_succ, val, ih, Nat.mul_zero]
theorem val_set {l : List Nat} {j : Nat} (d : Nat) (hj : j < l.length) : val (l.set j d) + bs ^ j * l.getD j 0 = val l + bs ^ j * d := by
  have h1 := val_cut (l.set j d) j
  have h2 := val_cut l j
  have h3 := val_drop1 (l.set j d) j
  have h4 := val_drop1 l j
  rw [List.take_set_of_le (Nat.le_refl _)] at h1
  rw [List.drop_set_of_lt (by omega : j < j + 1)] at h3
  have h5 : (l.set j d).getD j 0 = d := by rw [List.getD_eq_getElem?_getD, List.getElem?_set_self hj]; rfl
  rw [h5] at h3
  rw [h1, h2, h3, h4, Nat.mul_add, Nat.mul_add]
  omega
/-- Digits above the value are zero. -/
theorem get_zero {l : List Nat} {j k : Nat} (h : val l < bs ^ j) (hk : j ≤ k) : l.getD k 0 = 0 := by
  have h1 := val_cut l k
  have h2 := val_drop1 l k
  have h3 : bs ^ j ≤ bs ^ k := Nat.pow_le_pow_right (by decide) hk
  rcases Nat.eq_zero_or_pos (val (l.drop k)) with h0 | h0
  · omega
  · exfalso
    have : bs ^ k * 1 ≤ bs ^ k * val (l.drop k) := Nat.mul_le_mul_left _ h0
    omega
theorem val_len {l : List Nat} (h : Dig l) {n : Nat} (hn : l.length ≤ n) : val l < bs ^ n :=
  Nat.lt_of_lt_of_le (val_lt h) (Nat.pow_le_pow_right (by decide) hn)
theorem val_takelt {l : List Nat} (h : Dig l) (j : Nat) : val (l.take j) < bs ^ j := val_len (h.take j) (by rw [List.length_take]; omega)
theorem val_dropdiv {l : List Nat} (h : Dig l) (j : Nat) : val (l.drop j) = val l / bs ^ j := by
  have h1 := val_cut l j
  rw [h1, Nat.add_mul_div_left _ _ (Nat.pow_pos (by decide)), Nat.div_eq_of_lt (val_takelt h j), Nat.zero_add]
theorem trim_len (l : List Nat) : (trimL l).length ≤ l.length := by
  unfold trimL
  rw [List.length_reverse]
  exact Nat.le_trans (List.dropWhile_suffix _).length_le (by rw [List.length_reverse]; exact Nat.le_refl _)
theorem trim_take (l : List Nat) : l.take (trimL l).length = trimL l := by
  have h : trimL l <+: l := by
    unfold trimL
    have := List.dropWhile_suffix (l := l.reverse) (· == 0)
    have h2 := List.reverse_prefix.2 this
    rwa [List.reverse_reverse] at h2
  exact (List.prefix_iff_eq_take.1 h).symm
theorem trim_digs {l : List Nat} (h : Dig l) : trimL l = digs (val l) := (trim_val l h).symm
theorem digs_len_mono {n m : Nat} (h : n ≤ m) : (digs n).length ≤ (digs m).length := by
  have h1 := val_lt (dig_digs m)
  rw [val_digs] at h1
  exact digs_len_le (Nat.lt_of_le_of_lt h h1)
/-- The number of digits. -/
abbrev nl (n : Nat) : Nat := (digs n).length
theorem lt_nl (n : Nat) : n < bs ^ nl n := by
  have := val_lt (dig_digs n)
  rwa [val_digs] at this
theorem nl_le {n k : Nat} (h : n < bs ^ k) : nl n ≤ k := digs_len_le h
theorem nl_add (n m : Nat) : nl (n + m) ≤ max (nl n) (nl m) + 1 := by
  apply nl_le
  have h1 : n < bs ^ max (nl n) (nl m) := Nat.lt_of_lt_of_le (lt_nl n) (Nat.pow_le_pow_right (by decide) (Nat.le_max_left _ _))
  have h2 : m < bs ^ max (nl n) (nl m) := Nat.lt_of_lt_of_le (lt_nl m) (Nat.pow_le_pow_right (by decide) (Nat.le_max_right _ _))
  rw [Nat.pow_succ]
  generalize bs ^ max (nl n) (nl m) = X at *
  show n + m < X * 1000000000
  omega
theorem nl_mul (n m : Nat) : nl (n * m) ≤ nl n + nl m := by
  apply nl_le
  rw [Nat.pow_add]
  exact Nat.mul_lt_mul'' (lt_nl n) (lt_nl m)
theorem nl_mono {n m : Nat} (h : n ≤ m) : nl n ≤ nl m := digs_len_mono h
theorem nl_zero : nl 0 = 0 := by unfold nl; rw [digs_zero]; rfl
theorem nl_pos {n : Nat} (h : 0 < n) : 0 < nl n := by unfold nl; rw [digs_pos (by omega)]; exact Nat.succ_pos _
theorem nl_one : nl 1 = 1 := by unfold nl; rw [digs_pos (by decide), show (1 : Nat) / bs = 0 by decide, digs_zero]; rfl
theorem ge_nl {n : Nat} (h : 0 < n) : bs ^ (nl n - 1) ≤ n := by
  rcases Nat.lt_or_ge n (bs ^ (nl n - 1)) with h1 | h1
  · have := nl_le h1
    have := nl_pos h
    omega
  · exact h1
/-! Each step of a loop -/
theorem add_step {c p q a b i d o : Nat} (h : p + bs ^ i * c = q) (hd : d = a + c + b) (ho : o = d % bs) : (p + bs ^ i * o) + bs ^ (i + 1) * (d / bs) = q + bs ^ i * (a + b) := by
  subst ho
  have h1 := Nat.mod_add_div d bs
  have h2 : bs ^ i * (d % bs) + bs ^ (i + 1) * (d / bs) = bs ^ i * d := by
    rw [Nat.pow_succ, Nat.mul_assoc, ← Nat.mul_add, h1]
  rw [Nat.add_assoc, h2, hd, ← h]
  simp only [Nat.mul_add]
  omega
theorem sub_step {c c' p q r a b i o : Nat} (h : r + bs ^ i * c = p + q) (ho : a + bs * c' = o + b + c) : (r + bs ^ i * a) + bs ^ (i + 1) * c' = (p + bs ^ i * o) + (q + bs ^ i * b) := by
  have h2 : bs ^ i * a + bs ^ (i + 1) * c' = bs ^ i * o + bs ^ i * b + bs ^ i * c := by
    rw [Nat.pow_succ, Nat.mul_assoc, ← Nat.mul_add, ho, Nat.mul_add, Nat.mul_add]
  omega
end Go.Proofs.YtjaakbkneeojnaaDoor
