/- Forecasts: the line of least squares (plain). -/
import Derived.Test.YtjaakbkneeojnaaDoorAwZl
import Derived.Test.YtjaakbkneeojnaaDoorFcaB
set_option linter.unusedVariables false
set_option linter.unusedSimpArgs false
namespace Go.Proofs.YtjaakbkneeojnaaDoor
open Go.Proofs.YtjaakbkneeojnaaDoor.Aw
attribute [local go_sem] Int.natCast_zero Int.natCast_one bne_self_eq_false beq_self_eq_true Bool.not_true Bool.not_false Option.isSome_none Option.isSome_some Aw.bkM_nil Option.getD_some Option.getD_none Nat.sub_zero Int.toNat_zero Aw.frzS Aw.frzT Aw.frzA Aw.frzL Aw.frzR Aw.frzO Aw.frzOL Aw.frzOT Aw.frzOR Aw.killS Aw.mapT Aw.mapR Aw.killM Aw.resAVs Aw.resAV Aw.quietOps Aw.wpP Aw.wpT Aw.wpS Aw.AOp.mild List.getElem?_cons_zero List.getElem?_cons_succ Bool.and_false Bool.and_self Bool.false_and Aw.opOb Aw.gdB Aw.Rnd Aw.subTm List.length_map Int.toNat_natCast and_self Aw.SeqC Aw.stops Aw.Ends Aw.looks Aw.renA Aw.renL Aw.renT Aw.renS Aw.wpO Aw.aop Aw.putTm Aw.St.ev Aw.St.put Aw.St.putO Aw.binAV Aw.intBin Aw.strBin Aw.pickAV Aw.optInt Aw.AV.strip Aw.AV.guard Aw.AV.cells Aw.gdOb Aw.AOp.opds Aw.AOp.still Aw.ptrCells Aw.St.reg Aw.fillAV Aw.fillOb Aw.elsOb Aw.splice Aw.firm Aw.cellish Aw.AV.shut Aw.shutAll Aw.Seq Aw.Blk Aw.retS_nil Aw.mapA Aw.mapL Aw.borA Aw.borOb Aw.allOb Aw.tupOf Aw.params Aw.Opd.of Array.toList Value.cells List.map_cons List.map_nil List.getD_cons_zero List.getD_cons_succ List.getD_nil List.length_cons List.length_nil List.take_succ_cons List.take_zero List.take_nil List.drop_zero List.drop_succ_cons List.drop_nil List.set_cons_zero List.set_cons_succ List.append_nil List.nil_append List.cons_append List.all_cons List.all_nil cond_false cond_true if_true if_false true_and and_true Bool.and_true Bool.true_and Option.map_some Option.map_none false_implies forall_const implies_true forall_eq imp_self Bool.cond_false_right Bool.cond_true_left beq_true beq_false Bool.not_eq_true' Bool.false_eq_true Nat.zero_add Nat.add_zero Aw.eqCells Aw.stopDraw Aw.skipS Aw.exactCap Aw.revealS Aw.srcEls Aw.srcSz
attribute [local go_sem ↓] Aw.look_nil Aw.look_ite Aw.wpL_nil Aw.wpL_op Aw.wpL_gd Aw.wpQ_nil Aw.wpQ_op Aw.wpQ_gd Aw.wpC_draw Aw.wpC_reg Aw.wpC_skip Aw.wpC_ret Aw.wpC_exit Aw.wpC_seq Aw.wpC_block Aw.wpC_loop Aw.wpC_cond Aw.stopAt_nil Aw.stopAt_cons Aw.wpD_skip Aw.wpD_ret Aw.wpD_exit Aw.wpD_region Aw.wpD_draw Aw.wpM_nil Aw.wpM_op Aw.wpM_gd Aw.wpD_seq Aw.wpD_block Aw.wpD_loop Aw.wpD_cond
theorem tri_succ {i : Nat} (h : i ≤ 48) : tri (i + 1) = tri i + i := by
  have : ∀ n : Nat, n < 49 → tri (n + 1) = tri n + n := by decide
  exact this i (by omega)
/-- What both numbers of a difference are made of. -/
def resN (l : List Int) (i : Nat) : Int := (l.length * divD l.length) * l.getD i 0 - divD l.length * tot l + tri l.length * numN l - (l.length * i) * numN l
def allD (l : List Int) : Int := l.length * divD l.length
theorem allD_pos {l : List Int} (h2 : 2 ≤ l.length) (h48 : l.length ≤ 48) : 0 < allD l ∧ allD l ≤ 254803968 := by
  have hD := divD_pos h2 h48
  have := mul_bound (i := (l.length : Int)) (v := divD l.length) (a := 48) (b := 5308416) (by omega) (by omega) (by omega) (by omega) (by decide)
  have h0 : 0 < (l.length : Int) * divD l.length := Int.mul_pos (by omega) hD.1
  unfold allD
  omega
theorem res_field (n D Y N x y i : Rat) (hn : n ≠ 0) (hD : D ≠ 0) : y - ((Y - N / D * x) / n + N / D * i) = (n * D * y - D * Y + x * N - n * i * N) / (n * D) := by
  grind
theorem res_eq {l : List Int} (h2 : 2 ≤ l.length) (h48 : l.length ≤ 48) (i : Nat) : resR l i = (resN l i : Rat) / (allD l : Rat) := by
  have hD := divD_pos h2 h48
  have hn : ((l.length : Int) : Rat) ≠ 0 := cast_ne (by omega)
  have hd : ((divD l.length : Int) : Rat) ≠ 0 := cast_ne (by omega)
  unfold resR atR heightR slopeR resN allD
  rw [res_field _ _ _ _ _ _ _ hn hd]
  simp only [Rat.intCast_mul, Rat.intCast_add, Rat.intCast_sub]
theorem res_bound {l : List Int} (hv : valsOk l) (h2 : 2 ≤ l.length) (h48 : l.length ≤ 48) {i : Nat} (hi : i < l.length) : -130000000000000 ≤ resN l i ∧ resN l i ≤ 130000000000000 := by
  have hD := divD_pos h2 h48
  have hA := allD_pos h2 h48
  have hN := num_bound hv h48
  have hY := tot_bound hv
  have ht := tri_bound l.length h48
  have hy := hv l[i] (List.getElem_mem hi)
  have d3 : l.getD i 0 = l[i] := by rw [List.getD_eq_getElem?_getD, List.getElem?_eq_getElem hi]; rfl
  have b1 := mul_bound (i := allD l) (v := l[i]) (a := 254803968) (b := 100000) (by omega) hA.2 hy.1 hy.2 (by decide)
  have b2 := mul_bound (i := divD l.length) (v := tot l) (a := 5308416) (b := 4800000) (by omega) (by omega) (by omega) (by omega) (by decide)
  have b3 := mul_bound (i := tri l.length) (v := numN l) (a := 1128) (b := 20000000000) (by omega) (by omega) (by omega) (by omega) (by decide)
  have b4 := mul_bound (i := (l.length : Int)) (v := i) (a := 48) (b := 48) (by omega) (by omega) (by omega) (by omega) (by decide)
  have b4' : 0 ≤ (l.length : Int) * i := Int.mul_nonneg (by omega) (by omega)
  have b5 := mul_bound (i := (l.length : Int) * i) (v := numN l) (a := 2304) (b := 20000000000) (by omega) (by omega) (by omega) (by omega) (by decide)
  unfold allD at b1
  unfold resN
  rw [d3]
  omega
def sumN (l : List Int) (i : Nat) : Int := (l.length * divD l.length) * tot (l.take i) - i * (divD l.length * tot l) + i * (tri l.length * numN l) - (l.length * tri i) * numN l
theorem sumN_succ {l : List Int} {i : Nat} (h48 : l.length ≤ 48) (hi : i < l.length) : sumN l (i + 1) = sumN l i + resN l i := by
  have d3 : l.getD i 0 = l[i] := by rw [List.getD_eq_getElem?_getD, List.getElem?_eq_getElem hi]; rfl
  unfold sumN resN
  rw [tot_take hi, tri_succ (by omega), d3]
  push_cast
  generalize divD l.length * tot l = a
  generalize tri l.length * numN l = b
  generalize numN l = c
  generalize (l.length : Int) * divD l.length = d
  grind
theorem sumN_end (l : List Int) : sumN l l.length = 0 := by
  unfold sumN
  rw [List.take_of_length_le (Nat.le_refl _)]
  grind
def wtN (l : List Int) (i : Nat) : Int := (l.length * divD l.length) * wt 0 (l.take i) - tri i * (divD l.length * tot l) + tri i * (tri l.length * numN l) - (l.length * sq i) * numN l
theorem wtN_succ {l : List Int} {i : Nat} (h48 : l.length ≤ 48) (hi : i < l.length) : wtN l (i + 1) = wtN l i + i * resN l i := by
  have d3 : l.getD i 0 = l[i] := by rw [List.getD_eq_getElem?_getD, List.getElem?_eq_getElem hi]; rfl
  unfold wtN resN
  rw [wt_take hi, tri_succ (by omega), d3, sq]
  generalize divD l.length * tot l = a
  generalize tri l.length * numN l = b
  generalize numN l = c
  generalize (l.length : Int) * divD l.length = d
  grind
theorem wtN_end (l : List Int) : wtN l l.length = 0 := by
  unfold wtN numN divD
  rw [List.take_of_length_le (Nat.le_refl _)]
  grind
theorem sumN_bound {l : List Int} (hv : valsOk l) (h2 : 2 ≤ l.length) (h48 : l.length ≤ 48) : ∀ i, i ≤ l.length → -(i * 130000000000000 : Int) ≤ sumN l i ∧ sumN l i ≤ (i * 130000000000000 : Int)
  | 0, _ => by
    have : sumN l 0 = 0 := by
      unfold sumN
      rw [List.take_zero, show tri 0 = 0 from rfl, tot]
      grind
    rw [this]; exact ⟨Int.le_refl _, Int.le_refl _⟩
  | i + 1, hi => by
    have ih := sumN_bound hv h2 h48 i (by omega)
    have hb := res_bound hv h2 h48 (i := i) (by omega)
    rw [sumN_succ h48 (by omega)]
    omega
theorem wtN_bound {l : List Int} (hv : valsOk l) (h2 : 2 ≤ l.length) (h48 : l.length ≤ 48) : ∀ i, i ≤ l.length → -(i * 6240000000000000 : Int) ≤ wtN l i ∧ wtN l i ≤ (i * 6240000000000000 : Int)
  | 0, _ => by
    have : wtN l 0 = 0 := by
      unfold wtN
      rw [List.take_zero, show tri 0 = 0 from rfl, show sq 0 = 0 from rfl, wt]
      grind
    rw [this]; exact ⟨Int.le_refl _, Int.le_refl _⟩
  | i + 1, hi => by
    have ih := wtN_bound hv h2 h48 i (by omega)
    have hb := res_bound hv h2 h48 (i := i) (by omega)
    have := mul_bound (i := (i : Int)) (v := resN l i) (a := 48) (b := 130000000000000) (by omega) (by omega) hb.1 hb.2 (by decide)
    rw [wtN_succ h48 (by omega)]
    omega
/-- The differences, each multiplied by its place. -/
def plR (l : List Int) (i : Nat) : Rat := ((i : Int) : Rat) * resR l i
def plTake (l : List Int) (i : Nat) : List Rat := (List.range i).map (plR l)
theorem plTake_len (l : List Int) (i : Nat) : (plTake l i).length = i := by unfold plTake; rw [List.length_map, List.length_range]
theorem plTake_succ (l : List Int) (i : Nat) : plTake l i ++ [plR l i] = plTake l (i + 1) := by unfold plTake; rw [List.range_succ, List.map_append]; rfl
theorem add_div (a b c : Rat) : a / c + b / c = (a + b) / c := by grind
theorem zero_div' (c : Rat) : (0 : Rat) / c = 0 := by grind
theorem res_sum {l : List Int} (h2 : 2 ≤ l.length) (h48 : l.length ≤ 48) : ∀ i, i ≤ l.length → sumR (resTake l i) = (sumN l i : Rat) / (allD l : Rat)
  | 0, _ => by
    have : sumN l 0 = 0 := by
      unfold sumN
      rw [List.take_zero, show tri 0 = 0 from rfl, tot]
      grind
    rw [this]
    show (0 : Rat) = _
    exact (zero_div' _).symm
  | i + 1, hi => by
    rw [← resL_take, sumR_append, res_sum h2 h48 i (by omega), sumR, sumR, res_eq h2 h48, sumN_succ h48 (by omega), Rat.intCast_add, ← add_div]
    grind
theorem pl_eq {l : List Int} (h2 : 2 ≤ l.length) (h48 : l.length ≤ 48) (i : Nat) : plR l i = ((i * resN l i : Int) : Rat) / (allD l : Rat) := by
  unfold plR
  rw [res_eq h2 h48, Rat.intCast_mul]
  grind
theorem pl_sum {l : List Int} (h2 : 2 ≤ l.length) (h48 : l.length ≤ 48) : ∀ i, i ≤ l.length → sumR (plTake l i) = (wtN l i : Rat) / (allD l : Rat)
  | 0, _ => by
    have : wtN l 0 = 0 := by
      unfold wtN
      rw [List.take_zero, show tri 0 = 0 from rfl, show sq 0 = 0 from rfl, wt]
      grind
    rw [this]
    show (0 : Rat) = _
    exact (zero_div' _).symm
  | i + 1, hi => by
    rw [← plTake_succ, sumR_append, pl_sum h2 h48 i (by omega), sumR, sumR, pl_eq h2 h48, wtN_succ h48 (by omega), Rat.intCast_add, ← add_div]
    grind
theorem res_fits {l : List Int} (hv : valsOk l) (h2 : 2 ≤ l.length) (h48 : l.length ≤ 48) {i : Nat} (hi : i < l.length) : fitsR (resR l i) ∧ fitsR (plR l i) := by
  have hA := allD_pos h2 h48
  have hb := res_bound hv h2 h48 hi
  have := mul_bound (i := (i : Int)) (v := resN l i) (a := 48) (b := 130000000000000) (by omega) (by omega) hb.1 hb.2 (by decide)
  rw [res_eq h2 h48, pl_eq h2 h48]
  exact ⟨of_fits (by omega) (by omega) (by omega), of_fits (by omega) (by omega) (by omega)⟩
theorem sum_fits {l : List Int} (hv : valsOk l) (h2 : 2 ≤ l.length) (h48 : l.length ≤ 48) {i : Nat} (hi : i ≤ l.length) : fitsR (sumR (resTake l i)) ∧ fitsR (sumR (plTake l i)) := by
  have hA := allD_pos h2 h48
  have hb := sumN_bound hv h2 h48 i hi
  have hc := wtN_bound hv h2 h48 i hi
  rw [res_sum h2 h48 i hi, pl_sum h2 h48 i hi]
  exact ⟨of_fits (by omega) (by omega) (by omega), of_fits (by omega) (by omega) (by omega)⟩
theorem sum_zero {l : List Int} (h2 : 2 ≤ l.length) (h48 : l.length ≤ 48) : sumR (resTake l l.length) = 0 ∧ sumR (plTake l l.length) = 0 := by
  rw [res_sum h2 h48 _ (Nat.le_refl _), pl_sum h2 h48 _ (Nat.le_refl _), sumN_end, wtN_end]
  exact ⟨zero_div' _, zero_div' _⟩
end Go.Proofs.YtjaakbkneeojnaaDoor
