/- Rationals: what the values mean (plain). -/
import Derived.Test.YtjaakbkneeojnaaDoorAwZl
import Derived.Test.YtjaakbkneeojnaaDoorRatD
set_option linter.unusedVariables false
set_option linter.unusedSimpArgs false
namespace Go.Proofs.YtjaakbkneeojnaaDoor
open Go.Proofs.YtjaakbkneeojnaaDoor.Aw
attribute [local go_sem] Int.natCast_zero Int.natCast_one bne_self_eq_false beq_self_eq_true Bool.not_true Bool.not_false Option.isSome_none Option.isSome_some Aw.bkM_nil Option.getD_some Option.getD_none Nat.sub_zero Int.toNat_zero Aw.frzS Aw.frzT Aw.frzA Aw.frzL Aw.frzR Aw.frzO Aw.frzOL Aw.frzOT Aw.frzOR Aw.killS Aw.mapT Aw.mapR Aw.killM Aw.resAVs Aw.resAV Aw.quietOps Aw.wpP Aw.wpT Aw.wpS Aw.AOp.mild List.getElem?_cons_zero List.getElem?_cons_succ Bool.and_false Bool.and_self Bool.false_and Aw.opOb Aw.gdB Aw.Rnd Aw.subTm List.length_map Int.toNat_natCast and_self Aw.SeqC Aw.stops Aw.Ends Aw.looks Aw.renA Aw.renL Aw.renT Aw.renS Aw.wpO Aw.aop Aw.putTm Aw.St.ev Aw.St.put Aw.St.putO Aw.binAV Aw.intBin Aw.strBin Aw.pickAV Aw.optInt Aw.AV.strip Aw.AV.guard Aw.AV.cells Aw.gdOb Aw.AOp.opds Aw.AOp.still Aw.ptrCells Aw.St.reg Aw.fillAV Aw.fillOb Aw.elsOb Aw.splice Aw.firm Aw.cellish Aw.AV.shut Aw.shutAll Aw.Seq Aw.Blk Aw.retS_nil Aw.mapA Aw.mapL Aw.borA Aw.borOb Aw.allOb Aw.tupOf Aw.params Aw.Opd.of Array.toList Value.cells List.map_cons List.map_nil List.getD_cons_zero List.getD_cons_succ List.getD_nil List.length_cons List.length_nil List.take_succ_cons List.take_zero List.take_nil List.drop_zero List.drop_succ_cons List.drop_nil List.set_cons_zero List.set_cons_succ List.append_nil List.nil_append List.cons_append List.all_cons List.all_nil cond_false cond_true if_true if_false true_and and_true Bool.and_true Bool.true_and Option.map_some Option.map_none false_implies forall_const implies_true forall_eq imp_self Bool.cond_false_right Bool.cond_true_left beq_true beq_false Bool.not_eq_true' Bool.false_eq_true Nat.zero_add Nat.add_zero Aw.eqCells Aw.stopDraw Aw.skipS Aw.exactCap Aw.revealS Aw.srcEls Aw.srcSz
attribute [local go_sem ↓] Aw.look_nil Aw.look_ite Aw.wpL_nil Aw.wpL_op Aw.wpL_gd Aw.wpQ_nil Aw.wpQ_op Aw.wpQ_gd Aw.wpC_draw Aw.wpC_reg Aw.wpC_skip Aw.wpC_ret Aw.wpC_exit Aw.wpC_seq Aw.wpC_block Aw.wpC_loop Aw.wpC_cond Aw.stopAt_nil Aw.stopAt_cons Aw.wpD_skip Aw.wpD_ret Aw.wpD_exit Aw.wpD_region Aw.wpD_draw Aw.wpM_nil Aw.wpM_op Aw.wpM_gd Aw.wpD_seq Aw.wpD_block Aw.wpD_loop Aw.wpD_cond
def sg (neg : Bool) (n : Nat) : Int := if neg = true then -(n : Int) else n
/-- The rational. -/
def rOf (q : QQ) : Rat := mkRat (sg q.neg q.num) q.whole
/-- In lowest terms. -/
def Can (q : QQ) : Prop := Nat.gcd q.num q.whole = 1 ∧ (q.num = 0 → q.neg = false)
theorem sg_abs (neg : Bool) (n : Nat) : (sg neg n).natAbs = n := by
  unfold sg; split <;> omega
theorem mkRat_low {n : Int} {d : Nat} (hd : d ≠ 0) (h : Nat.gcd n.natAbs d = 1) : (mkRat n d).num = n ∧ (mkRat n d).den = d := by
  rw [Rat.mkRat_def, dif_neg hd, Rat.normalize_eq hd]
  simp only [h, Nat.div_one]
  exact ⟨by simp, trivial⟩
theorem Can.num {q : QQ} (h : Can q) : (rOf q).num = sg q.neg q.num ∧ (rOf q).den = q.whole :=
  mkRat_low (Nat.ne_of_gt (whole_pos q)) (by rw [sg_abs]; exact h.1)
/-- The lowest terms of a rational. -/
def QQ.of (r : Rat) : QQ := ⟨decide (r.num < 0), r.num.natAbs, r.den⟩
theorem of_whole (r : Rat) : (QQ.of r).whole = r.den := by
  unfold QQ.whole QQ.of
  rw [if_neg r.den_nz]
theorem of_can (r : Rat) : Can (QQ.of r) := by
  refine ⟨by rw [of_whole]; exact r.reduced, fun h => ?_⟩
  have h : r.num.natAbs = 0 := h
  show decide (r.num < 0) = false
  exact decide_eq_false (by omega)
theorem sg_of (n : Int) : sg (decide (n < 0)) n.natAbs = n := by
  unfold sg
  by_cases h : n < 0
  · rw [if_pos (decide_eq_true h)]; omega
  · rw [if_neg (by simpa using h)]; omega
theorem rOf_of (r : Rat) : rOf (QQ.of r) = r := by
  unfold rOf
  rw [of_whole]
  show mkRat (sg (decide (r.num < 0)) r.num.natAbs) r.den = r
  rw [sg_of, Rat.mkRat_self]
theorem Can.of {q : QQ} (h : Can q) : (QQ.of (rOf q)).neg = q.neg ∧ (QQ.of (rOf q)).num = q.num ∧ (QQ.of (rOf q)).den = q.whole := by
  obtain ⟨h1, h2⟩ := h.num
  refine ⟨?_, ?_, h2⟩
  · show decide ((rOf q).num < 0) = q.neg
    rw [h1]
    unfold sg
    cases hn : q.neg with
    | true =>
      rw [if_pos rfl]
      have : q.num ≠ 0 := fun h0 => by rw [h.2 h0] at hn; cases hn
      exact decide_eq_true (by omega)
    | false => rw [if_neg Bool.false_ne_true]; exact decide_eq_false (by omega)
  · show (rOf q).num.natAbs = q.num
    rw [h1, sg_abs]
/-- The text of a rational. -/
def txtR (r : Rat) : List UInt8 := outL (QQ.of r)
/-- Its parts are not too long. -/
def fitsR (r : Rat) : Prop := fitsQ (QQ.of r) = 0
instance (r : Rat) : Decidable (fitsR r) := inferInstanceAs (Decidable (fitsQ (QQ.of r) = 0))
theorem Can.out {q : QQ} (h : Can q) : outL q = txtR (rOf q) := by
  obtain ⟨h1, h2, h3⟩ := h.of
  unfold txtR outL
  rw [of_whole, h.num.2, h1, h2]
theorem txt_zero : txtL 0 = [48] := rfl
theorem len_one : (txtL 1).length = 1 := by
  have : txtL 1 = [49] := by rw [show (1 : Nat) = num (dgs [49]) from rfl]; exact txt_num ⟨by simp, by simp, by simp⟩
  rw [this]; rfl
theorem Can.fits {q : QQ} (h : Can q) : fitsQ q = fitsQ (QQ.of (rOf q)) := by
  obtain ⟨h1, h2, h3⟩ := h.of
  have e : (txtL q.den).length > 2000 ↔ (txtL q.whole).length > 2000 := by
    unfold QQ.whole
    by_cases h0 : q.den = 0
    · rw [if_pos h0, h0, len_one, txt_zero]; exact Iff.rfl
    · rw [if_neg h0]
  unfold fitsQ
  rw [h2, h3]
  simp only [e]
theorem fits_two (q : QQ) : fitsQ q = 0 ∨ fitsQ q = 2 := by
  unfold fitsQ; split
  · exact .inr rfl
  · exact .inl rfl
/-- What is told of a rational. -/
def toldR (r : Rat) : List UInt8 × Int := toldQ (QQ.of r)
theorem toldR_fits {r : Rat} (h : fitsR r) : toldR r = (txtR r, 0) := by
  unfold fitsR at h
  unfold toldR toldQ
  rw [h]; rfl
theorem toldR_large {r : Rat} (h : ¬ fitsR r) : toldR r = ([], 2) := by
  unfold fitsR at h
  unfold toldR toldQ
  rcases fits_two (QQ.of r) with h1 | h1
  · exact absurd h1 h
  · rw [h1]; rfl
theorem Can.told {q : QQ} (h : Can q) : toldQ q = toldR (rOf q) := by
  unfold toldR toldQ
  rw [h.out, h.fits]
  rfl
/-! Operations -/
theorem zero_can : Can QQ.zero := ⟨rfl, fun _ => rfl⟩
theorem zero_r : rOf QQ.zero = 0 := rfl
theorem num_zero {q : QQ} (h : q.num = 0) : rOf q = 0 := by
  unfold rOf sg
  rw [h]
  split <;> simp
theorem low_can {neg : Bool} {n d : Nat} (hd : 0 < d) : Can (lowQ neg n d) := by
  unfold lowQ
  split
  · exact zero_can
  · rename_i hn
    have hg : 0 < Nat.gcd n d := Nat.gcd_pos_of_pos_right _ hd
    have hw : (QQ.whole ⟨neg, n / Nat.gcd n d, d / Nat.gcd n d⟩) = d / Nat.gcd n d := by
      unfold QQ.whole
      rw [if_neg (Nat.ne_of_gt (Nat.div_pos (Nat.gcd_le_right _ hd) hg))]
    refine ⟨by rw [hw]; exact Nat.gcd_div_gcd_div_gcd_of_pos_right hd, fun h => ?_⟩
    exfalso
    have : 0 < n / Nat.gcd n d := Nat.div_pos (Nat.gcd_le_left _ (Nat.pos_of_ne_zero hn)) hg
    have h : n / Nat.gcd n d = 0 := h
    omega
theorem low_r {neg : Bool} {n d : Nat} (hd : 0 < d) : rOf (lowQ neg n d) = mkRat (sg neg n) d := by
  unfold lowQ
  split
  · rename_i h0
    subst h0
    rw [zero_r]
    unfold sg
    split <;> simp
  · rename_i hn
    have hg : 0 < Nat.gcd n d := Nat.gcd_pos_of_pos_right _ hd
    unfold rOf
    have hw : (QQ.whole ⟨neg, n / Nat.gcd n d, d / Nat.gcd n d⟩) = d / Nat.gcd n d := by
      unfold QQ.whole
      rw [if_neg (Nat.ne_of_gt (Nat.div_pos (Nat.gcd_le_right _ hd) hg))]
    rw [hw]
    show mkRat (sg neg (n / Nat.gcd n d)) (d / Nat.gcd n d) = mkRat (sg neg n) d
    have e1 : n / Nat.gcd n d * Nat.gcd n d = n := Nat.div_mul_cancel (Nat.gcd_dvd_left n d)
    have e2 : d / Nat.gcd n d * Nat.gcd n d = d := Nat.div_mul_cancel (Nat.gcd_dvd_right n d)
    have e3 : sg neg n = sg neg (n / Nat.gcd n d) * (Nat.gcd n d : Int) := by
      unfold sg
      split
      · rw [Int.neg_mul, ← Int.natCast_mul, e1]
      · rw [← Int.natCast_mul, e1]
    rw [e3]
    have h1 := Rat.mkRat_mul_right (n := sg neg (n / Nat.gcd n d)) (d := d / Nat.gcd n d) (a := Nat.gcd n d) (Nat.ne_of_gt hg)
    rw [e2] at h1
    exact h1.symm
theorem rdiv (q : QQ) : rOf q = (sg q.neg q.num : Rat) / (q.whole : Rat) := Rat.mkRat_eq_div _ _
theorem whole_ne (q : QQ) : (q.whole : Rat) ≠ 0 := by
  have := whole_pos q
  intro h
  have h2 : q.whole = 0 := by exact_mod_cast h
  omega
theorem neg_can {q : QQ} (h : Can q) : Can q.negQ := by
  unfold QQ.negQ
  split
  · exact h
  · exact ⟨h.1, fun h0 => by contradiction⟩
theorem neg_r (q : QQ) : rOf q.negQ = -rOf q := by
  unfold QQ.negQ
  split
  · rename_i h
    rw [num_zero h]; rfl
  · unfold rOf
    rw [Rat.neg_mkRat]
    congr 1
    unfold sg
    cases q.neg <;> simp
theorem add_can {a b : QQ} (ha : Can a) (hb : Can b) : Can (addQ a b) := by
  have hd := Nat.mul_pos (whole_pos a) (whole_pos b)
  unfold addQ
  split
  · exact hb
  · split
    · exact ha
    · split
      · exact low_can hd
      · split <;> exact low_can hd
theorem add_r (a b : QQ) : rOf (addQ a b) = rOf a + rOf b := by
  have hd := Nat.mul_pos (whole_pos a) (whole_pos b)
  have hw1 := whole_pos a
  have hw2 := whole_pos b
  unfold addQ
  split
  · rename_i h
    rw [num_zero h, Rat.zero_add]
  · split
    · rename_i h
      rw [num_zero h, Rat.add_zero]
    · have e : rOf a + rOf b = mkRat (sg a.neg a.num * b.whole + sg b.neg b.num * a.whole) (a.whole * b.whole) :=
        Rat.mkRat_add_mkRat _ _ (Nat.ne_of_gt hw1) (Nat.ne_of_gt hw2)
      rw [e]
      split
      · rename_i hs
        rw [low_r hd, hs]
        congr 1
        unfold sg
        split <;> simp only [Int.natCast_add, Int.natCast_mul, Int.neg_mul] <;> omega
      · rename_i hs
        have hs' : b.neg = !a.neg := by
          revert hs
          cases a.neg <;> cases b.neg <;> simp
        split
        · rename_i hle
          rw [low_r hd, hs']
          congr 1
          have : ((a.num * b.whole - b.num * a.whole : Nat) : Int) = (a.num : Int) * b.whole - (b.num : Int) * a.whole := by
            rw [Int.natCast_sub hle]; simp
          unfold sg
          cases a.neg <;> simp only [Bool.not_true, Bool.not_false, Bool.false_eq_true, if_true, if_false, this, Int.neg_mul] <;> omega
        · rename_i hle
          rw [low_r hd, hs']
          congr 1
          have : ((b.num * a.whole - a.num * b.whole : Nat) : Int) = (b.num : Int) * a.whole - (a.num : Int) * b.whole := by
            rw [Int.natCast_sub (by omega)]; simp
          unfold sg
          cases a.neg <;> simp only [Bool.not_true, Bool.not_false, Bool.false_eq_true, if_true, if_false, this, Int.neg_mul] <;> omega
theorem sub_can {a b : QQ} (ha : Can a) (hb : Can b) : Can (subQ a b) := add_can ha (neg_can hb)
theorem sub_r (a b : QQ) : rOf (subQ a b) = rOf a - rOf b := by
  unfold subQ
  rw [add_r, neg_r, Rat.sub_eq_add_neg]
theorem sg_mul (p q : Bool) (n m : Nat) : sg (p != q) (n * m) = sg p n * sg q m := by
  unfold sg
  cases p <;> cases q <;> simp [Int.mul_neg, Int.neg_mul]
theorem mul_can (a b : QQ) : Can (mulQ a b) := by
  unfold mulQ
  split
  · exact zero_can
  · exact low_can (Nat.mul_pos (whole_pos a) (whole_pos b))
theorem mul_r (a b : QQ) : rOf (mulQ a b) = rOf a * rOf b := by
  unfold mulQ
  split
  · rename_i h
    rw [zero_r]
    rcases h with h | h
    · rw [num_zero h, Rat.zero_mul]
    · rw [num_zero h, Rat.mul_zero]
  · rw [low_r (Nat.mul_pos (whole_pos a) (whole_pos b)), sg_mul]
    unfold rOf
    rw [Rat.mkRat_mul_mkRat]
theorem quo_can (a b : QQ) : Can (quoQ a b) := by
  unfold quoQ
  split
  · exact zero_can
  · rename_i h
    exact low_can (Nat.mul_pos (whole_pos a) (Nat.pos_of_ne_zero fun h2 => h (.inr h2)))
theorem quo_r (a b : QQ) : rOf (quoQ a b) = rOf a / rOf b := by
  unfold quoQ
  split
  · rename_i h
    rw [zero_r]
    rcases h with h | h
    · rw [num_zero h, Rat.div_def, Rat.zero_mul]
    · rw [num_zero h, Rat.div_def]; simp
  · rename_i h
    have hb : b.num ≠ 0 := fun h2 => h (.inr h2)
    rw [low_r (Nat.mul_pos (whole_pos a) (Nat.pos_of_ne_zero hb)), sg_mul, Rat.mkRat_eq_div, rdiv a, rdiv b]
    have hwa := whole_ne a
    have hwb := whole_ne b
    have hbn : (b.num : Rat) ≠ 0 := by
      intro h2
      exact hb (by exact_mod_cast h2)
    have hs : ∀ n : Nat, ((sg b.neg n : Int) : Rat) = if b.neg = true then -(n : Rat) else (n : Rat) := fun n => by
      unfold sg
      split
      · rw [Rat.intCast_neg, Rat.intCast_natCast]
      · rw [Rat.intCast_natCast]
    rw [Rat.intCast_mul, hs, hs, Rat.natCast_mul]
    split <;> grind
theorem int_can (n : Int) : Can (intQ n) := by
  unfold intQ
  refine ⟨by show Nat.gcd n.natAbs 1 = 1; simp, fun h => ?_⟩
  have h : n.natAbs = 0 := h
  exact decide_eq_false (by omega)
theorem int_r (n : Int) : rOf (intQ n) = (n : Rat) := by
  unfold rOf intQ
  show mkRat (sg (decide (n < 0)) n.natAbs) 1 = (n : Rat)
  rw [sg_of, Rat.mkRat_eq_div]
  show (n : Rat) / 1 = n
  grind
theorem ofQ_r (n d : Int) : ofQ n d = if d = 0 then ([], 10) else toldR ((n : Rat) / (d : Rat)) := by
  unfold ofQ
  split
  · rfl
  · rename_i hd
    have hd' : 0 < d.natAbs := by omega
    rw [Can.told (low_can hd'), low_r hd']
    congr 1
    rw [Rat.mkRat_eq_div]
    have hd2 : (d : Rat) ≠ 0 := by
      intro h; exact hd (by exact_mod_cast h)
    have e1 : ((sg (decide (n < 0) != decide (d < 0)) n.natAbs : Int) : Rat) * (d : Rat) = (n : Rat) * ((d.natAbs : Nat) : Rat) := by
      have : sg (decide (n < 0) != decide (d < 0)) n.natAbs * d = n * (d.natAbs : Int) := by
        have h1 := sg_mul (decide (n < 0)) (decide (d < 0)) n.natAbs d.natAbs
        rw [sg_of, sg_of] at h1
        unfold sg at h1 ⊢
        rcases Int.lt_or_le d 0 with h2 | h2
        · have : (d.natAbs : Int) = -d := by omega
          rw [this]
          rcases Int.lt_or_le n 0 with h3 | h3
          · have h4 : (n.natAbs : Int) = -n := by omega
            rw [decide_eq_true h2, decide_eq_true h3, h4]
            simp [Int.mul_neg, Int.neg_mul]
          · have h4 : (n.natAbs : Int) = n := by omega
            rw [decide_eq_true h2, decide_eq_false (by omega : ¬ n < 0), h4]
            simp [Int.mul_neg, Int.neg_mul]
        · have : (d.natAbs : Int) = d := by omega
          rw [this]
          rcases Int.lt_or_le n 0 with h3 | h3
          · have h4 : (n.natAbs : Int) = -n := by omega
            rw [decide_eq_false (by omega : ¬ d < 0), decide_eq_true h3, h4]
            simp [Int.mul_neg, Int.neg_mul]
          · have h4 : (n.natAbs : Int) = n := by omega
            rw [decide_eq_false (by omega : ¬ d < 0), decide_eq_false (by omega : ¬ n < 0), h4]
            simp [Int.mul_neg, Int.neg_mul]
      exact_mod_cast this
    have hd3 : ((d.natAbs : Nat) : Rat) ≠ 0 := by
      intro h
      have : d.natAbs = 0 := by exact_mod_cast h
      omega
    generalize ((sg (decide (n < 0) != decide (d < 0)) n.natAbs : Int) : Rat) = A at *
    generalize ((d.natAbs : Nat) : Rat) = D at *
    generalize (n : Rat) = N at *
    generalize (d : Rat) = D2 at *
    grind
theorem sign_r {q : QQ} (h : Can q) : q.sign = if rOf q = 0 then 0 else if rOf q < 0 then -1 else 1 := by
  have h1 := h.num.1
  unfold QQ.sign
  by_cases h0 : q.num = 0
  · rw [if_pos h0, if_pos (num_zero h0)]
  · have hne : rOf q ≠ 0 := fun h2 => by
      rw [h2] at h1
      have : (0 : Rat).num = 0 := rfl
      rw [this] at h1
      have := congrArg Int.natAbs h1
      rw [sg_abs] at this
      exact h0 this.symm
    rw [if_neg h0, if_neg hne]
    have h3 : (0 ≤ rOf q) ↔ 0 ≤ sg q.neg q.num := by rw [← h1]; exact Rat.num_nonneg.symm
    have h4 : rOf q < 0 ↔ ¬ (0 ≤ rOf q) := by exact Rat.not_le.symm
    unfold sg at h3
    cases hn : q.neg with
    | true =>
      rw [if_pos rfl, if_pos ?_]
      rw [h4, h3, hn, if_pos rfl]; omega
    | false =>
      rw [if_neg Bool.false_ne_true, if_neg ?_]
      rw [h4, h3, hn, if_neg Bool.false_ne_true]; omega
end Go.Proofs.YtjaakbkneeojnaaDoor
