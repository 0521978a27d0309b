/- Forecasts: smoothing. -/
import Derived.Test.YtjaakbkneeojnaaDoorAwZl
import Derived.Test.YtjaakbkneeojnaaDoorFcaC
set_option linter.unusedVariables false
set_option linter.unusedSimpArgs false
namespace Go.Proofs.YtjaakbkneeojnaaDoor
open Go.Proofs.YtjaakbkneeojnaaDoor.Aw
attribute [local go_sem] Int.natCast_zero Int.natCast_one bne_self_eq_false beq_self_eq_true Bool.not_true Bool.not_false Option.isSome_none Option.isSome_some Aw.bkM_nil Option.getD_some Option.getD_none Nat.sub_zero Int.toNat_zero Aw.frzS Aw.frzT Aw.frzA Aw.frzL Aw.frzR Aw.frzO Aw.frzOL Aw.frzOT Aw.frzOR Aw.killS Aw.mapT Aw.mapR Aw.killM Aw.resAVs Aw.resAV Aw.quietOps Aw.wpP Aw.wpT Aw.wpS Aw.AOp.mild List.getElem?_cons_zero List.getElem?_cons_succ Bool.and_false Bool.and_self Bool.false_and Aw.opOb Aw.gdB Aw.Rnd Aw.subTm List.length_map Int.toNat_natCast and_self Aw.SeqC Aw.stops Aw.Ends Aw.looks Aw.renA Aw.renL Aw.renT Aw.renS Aw.wpO Aw.aop Aw.putTm Aw.St.ev Aw.St.put Aw.St.putO Aw.binAV Aw.intBin Aw.strBin Aw.pickAV Aw.optInt Aw.AV.strip Aw.AV.guard Aw.AV.cells Aw.gdOb Aw.AOp.opds Aw.AOp.still Aw.ptrCells Aw.St.reg Aw.fillAV Aw.fillOb Aw.elsOb Aw.splice Aw.firm Aw.cellish Aw.AV.shut Aw.shutAll Aw.Seq Aw.Blk Aw.retS_nil Aw.mapA Aw.mapL Aw.borA Aw.borOb Aw.allOb Aw.tupOf Aw.params Aw.Opd.of Array.toList Value.cells List.map_cons List.map_nil List.getD_cons_zero List.getD_cons_succ List.getD_nil List.length_cons List.length_nil List.take_succ_cons List.take_zero List.take_nil List.drop_zero List.drop_succ_cons List.drop_nil List.set_cons_zero List.set_cons_succ List.append_nil List.nil_append List.cons_append List.all_cons List.all_nil cond_false cond_true if_true if_false true_and and_true Bool.and_true Bool.true_and Option.map_some Option.map_none false_implies forall_const implies_true forall_eq imp_self Bool.cond_false_right Bool.cond_true_left beq_true beq_false Bool.not_eq_true' Bool.false_eq_true Nat.zero_add Nat.add_zero Aw.eqCells Aw.stopDraw Aw.skipS Aw.exactCap Aw.revealS Aw.srcEls Aw.srcSz
attribute [local go_sem ↓] Aw.look_nil Aw.look_ite Aw.wpL_nil Aw.wpL_op Aw.wpL_gd Aw.wpQ_nil Aw.wpQ_op Aw.wpQ_gd Aw.wpC_draw Aw.wpC_reg Aw.wpC_skip Aw.wpC_ret Aw.wpC_exit Aw.wpC_seq Aw.wpC_block Aw.wpC_loop Aw.wpC_cond Aw.stopAt_nil Aw.stopAt_cons Aw.wpD_skip Aw.wpD_ret Aw.wpD_exit Aw.wpD_region Aw.wpD_draw Aw.wpM_nil Aw.wpM_op Aw.wpM_gd Aw.wpD_seq Aw.wpD_block Aw.wpD_loop Aw.wpD_cond
/- gridhall/forecast.Smooth -/
def a35 : ACode :=
  (.seq (.region false [] [
     ⟨(some 6), none, (.mov (.v (.string ⟨#[]⟩)))⟩,
     ⟨(some 7), none, (.mov (.v (.int .i64 0)))⟩])
  (.seq (.seq (.region false [] [
     ⟨(some 13), none, (.mov (.t 0))⟩,
     ⟨(some 14), none, (.call 59 [(.t 13)])⟩,
     ⟨(some 8), none, (.mov (.t 14))⟩])
  (.seq (.region false [] [
     ⟨(some 15), none, (.mov (.t 8))⟩,
     ⟨(some 16), none, (.bin .neq 25 (.t 15) (.v (.int .i64 0)))⟩])
  (.cond (.t 16)
    (.seq (.region false [] [
       ⟨(some 17), none, (.mov (.t 8))⟩,
       ⟨(some 6), none, (.mov (.v (.string ⟨#[]⟩)))⟩,
       ⟨(some 7), none, (.mov (.t 17))⟩])
    .ret)
    .skip)))
  (.seq (.block 0 (.seq (.region false [] [
      ⟨(some 19), none, (.mov (.t 2))⟩,
      ⟨(some 20), none, (.bin .lss 3 (.t 19) (.v (.int .i64 1)))⟩,
      ⟨(some 21), none, (.mov (.t 20))⟩,
      ⟨(some 22), (some (21, false)), (.mov (.t 2))⟩,
      ⟨(some 23), (some (21, false)), (.bin .gtr 3 (.t 22) (.v (.int .i64 1000)))⟩,
      ⟨(some 24), none, (.pick (.t 21) (.v (.bool true)) (.t 23))⟩,
      ⟨(some 25), none, (.mov (.t 24))⟩,
      ⟨(some 26), (some (25, false)), (.mov (.t 1))⟩,
      ⟨(some 27), (some (25, false)), (.bin .lss 3 (.t 26) (.v (.int .i64 0)))⟩,
      ⟨(some 28), none, (.pick (.t 25) (.v (.bool true)) (.t 27))⟩,
      ⟨(some 29), none, (.mov (.t 28))⟩,
      ⟨(some 30), (some (29, false)), (.mov (.t 1))⟩,
      ⟨(some 31), (some (29, false)), (.mov (.t 2))⟩,
      ⟨(some 32), (some (29, false)), (.bin .gtr 3 (.t 30) (.t 31))⟩,
      ⟨(some 33), none, (.pick (.t 29) (.v (.bool true)) (.t 32))⟩,
      ⟨(some 18), none, (.mov (.t 33))⟩])
   (.cond (.t 18)
     (.seq (.region false [] [
        ⟨(some 6), none, (.mov (.v (.string ⟨#[]⟩)))⟩,
        ⟨(some 7), none, (.mov (.v (.int .i64 1)))⟩])
     .ret)
     (.seq (.region false [] [
        ⟨(some 35), none, (.mov (.t 0))⟩,
        ⟨(some 36), none, (.len (.t 35))⟩,
        ⟨(some 37), none, (.bin .eql 3 (.t 36) (.v (.int .i64 0)))⟩,
        ⟨(some 34), none, (.mov (.t 37))⟩])
     (.cond (.t 34)
       (.seq (.region false [] [
          ⟨(some 6), none, (.mov (.v (.string ⟨#[]⟩)))⟩,
          ⟨(some 7), none, (.mov (.v (.int .i64 8)))⟩])
       .ret)
       .skip)))))
  (.seq (.region false [] [
     ⟨(some 38), none, (.mov (.t 0))⟩,
     ⟨(some 39), none, (.idx 1 (.t 38) (.v (.int .i64 0)))⟩,
     ⟨(some 40), none, (.load 1 false (.t 39))⟩,
     ⟨(some 41), none, (.call 42 [(.t 40)])⟩,
     ⟨(some 42), none, (.mov (.t 1))⟩,
     ⟨(some 43), none, (.call 42 [(.t 42)])⟩,
     ⟨(some 44), none, (.mov (.t 2))⟩,
     ⟨(some 45), none, (.call 42 [(.t 44)])⟩,
     ⟨(some 46), none, (.call 52 [(.t 43), (.t 45)])⟩,
     ⟨(some 9), none, (.alloc 62 (.agg #[(.bool false), (.slice none 0 0), (.slice none 0 0)]))⟩,
     ⟨(some 10), none, (.alloc 62 (.agg #[(.bool false), (.slice none 0 0), (.slice none 0 0)]))⟩,
     ⟨none, none, (.store 3 (.t 9) (.t 41))⟩,
     ⟨none, none, (.store 3 (.t 10) (.t 46))⟩])
  (.seq (.seq (.region false [] [
     ⟨(some 47), none, (.mov (.t 0))⟩,
     ⟨(some 48), none, (.slc 1 (.t 47) (some (.v (.int .i64 1))) none none)⟩,
     ⟨(some 49), none, (.len (.t 48))⟩,
     ⟨(some 50), none, (.mov (.v (.int .i64 0)))⟩])
  (.block 1 (.loop (.seq (.region false [] [
       ⟨(some 51), none, (.bin .lss 3 (.t 50) (.t 49))⟩])
    (.seq (.cond (.t 51)
      .skip
      (.exit 1))
    (.seq (.block 2 (.seq (.region false [] [
        ⟨(some 52), none, (.idx 1 (.t 48) (.t 50))⟩,
        ⟨(some 53), none, (.load 1 false (.t 52))⟩,
        ⟨(some 12), none, (.mov (.t 53))⟩])
     (.region true [[], [], [], [2], [], [3, 4, 3], [1, 5, 5], [0, 6, 6], [7, 7, 0, 1, 2, 3, 4, 5, 6, 7]] [
        ⟨(some 54), none, (.load 3 true (.t 9))⟩,
        ⟨(some 55), none, (.load 3 true (.t 10))⟩,
        ⟨(some 56), none, (.mov (.t 12))⟩,
        ⟨(some 57), none, (.call 42 [(.t 56)])⟩,
        ⟨(some 58), none, (.load 3 true (.t 9))⟩,
        ⟨(some 59), none, (.call 48 [(.t 57), (.t 58)])⟩,
        ⟨(some 60), none, (.call 43 [(.t 55), (.t 59)])⟩,
        ⟨(some 61), none, (.call 46 [(.t 54), (.t 60)])⟩,
        ⟨none, none, (.store 3 (.t 9) (.t 61))⟩])))
    (.region false [] [
       ⟨(some 62), none, (.bin .add 3 (.t 50) (.v (.int .i64 1)))⟩,
       ⟨(some 50), none, (.mov (.t 62))⟩])))))))
  (.seq (.region false [] [
     ⟨(some 63), none, (.load 3 true (.t 9))⟩,
     ⟨(some 64), none, (.call 55 [(.t 63)])⟩,
     ⟨(some 6), none, (.mov (.t 64))⟩,
     ⟨(some 7), none, (.mov (.v (.int .i64 0)))⟩])
  .ret))))))
theorem k35 : FnIs Tryd.prog 35 65 [.t 6, .t 7] a35 := ⟨_, _, Tryd.func35, rfl, by kernel_rfl, by kernel_rfl, rfl⟩

/-- A rational with small parts. -/
theorem can_QB {q : QQ} (h : Can q) {n : Int} {d k : Nat} (hd : d ≠ 0) (hr : rOf q = mkRat n d) (hn : nl n.natAbs ≤ k) (hk : nl d ≤ k) : QB k q := by
  obtain ⟨h1, h2⟩ := h.num
  obtain ⟨m, hm, e1, e2⟩ := Rat.mkRat_num_den (z' := (rOf q).den_nz) (c := (rOf q).reduced) hd (show mkRat n d = (⟨(rOf q).num, (rOf q).den, _, _⟩ : Rat) from hr.symm)
  have g1 : q.num ≤ n.natAbs := by
    have : (rOf q).num.natAbs = q.num := by rw [h1, sg_abs]
    rw [← this, e1, Int.natAbs_mul]
    exact Nat.le_mul_of_pos_right _ (by rw [Int.natAbs_natCast]; omega)
  have g2 : q.den ≤ d := by
    have : q.den ≤ q.whole := by unfold QQ.whole; split <;> omega
    rw [h2] at e2
    have : q.whole ≤ d := by rw [e2]; exact Nat.le_mul_of_pos_right _ (Nat.pos_of_ne_zero hm)
    omega
  exact ⟨Nat.le_trans (nl_mono g1) hn, Nat.le_trans (nl_mono g2) hk⟩
theorem frac_QB {q : QQ} (h : Can q) {n d : Int} {k : Nat} (hd : 0 < d) (hr : rOf q = (n : Rat) / (d : Rat)) (hn : nl n.natAbs ≤ k) (hk : nl d.natAbs ≤ k) : QB k q := by
  refine can_QB h (n := n) (d := d.natAbs) (by omega) ?_ hn hk
  rw [hr, Rat.mkRat_eq_div]
  have : ((d.natAbs : Nat) : Int) = d := by omega
  have e : ((d.natAbs : Nat) : Rat) = (d : Rat) := by
    rw [← this]
    exact_mod_cast rfl
  rw [e]
theorem frac_fits {n d : Int} (hd : 0 < d) (hn : nl n.natAbs ≤ 200) (hk : nl d.natAbs ≤ 200) : fitsR ((n : Rat) / (d : Rat)) := by
  have h := small_fits (frac_QB (of_can ((n : Rat) / (d : Rat))) hd (rOf_of _) hn hk) (of_can _)
  rwa [rOf_of] at h
/-- Smoothing: both numbers of a fraction. -/
def smI (p q : Int) : Int × Int → List Int → Int × Int
  | x, [] => x
  | x, v :: l => smI p q (x.1 * (q - p) + p * v * x.2, x.2 * q) l
def smV (l : List Int) (p q : Int) : Int × Int := smI p q (l.headD 0, 1) l.tail
def smR (l : List Int) (p q : Int) : Rat := ((smV l p q).1 : Rat) / ((smV l p q).2 : Rat)
def smArg (p q : Int) : Prop := 1 ≤ q ∧ q ≤ 1000 ∧ 0 ≤ p ∧ p ≤ q
instance (p q : Int) : Decidable (smArg p q) := by unfold smArg; infer_instance
def smoothS (l : List Int) (p q : Int) : List UInt8 × Int :=
  if checkV l ≠ 0 then ([], checkV l) else if smArg p q then if l.length = 0 then ([], 8) else (txtR (smR l p q), 0) else ([], 1)
theorem smI_drop {p q : Int} {x : Int × Int} {l : List Int} {i : Nat} (h : i < l.length) : smI p q x (l.drop i) = smI p q (x.1 * (q - p) + p * l[i] * x.2, x.2 * q) (l.drop (i + 1)) := by
  rw [List.drop_eq_getElem_cons h, smI]
/-- What holds of both numbers. -/
def SmOk (i : Nat) (x : Int × Int) : Prop := 0 < x.2 ∧ x.2 ≤ 10 ^ (3 * i) ∧ -(100000 * x.2) ≤ x.1 ∧ x.1 ≤ 100000 * x.2
theorem smOk_step {p q : Int} (ha : smArg p q) {x : Int × Int} {i : Nat} (h : SmOk i x) {v : Int} (hv : -100000 ≤ v ∧ v ≤ 100000) : SmOk (i + 1) (x.1 * (q - p) + p * v * x.2, x.2 * q) := by
  obtain ⟨a1, a2, a3, a4⟩ := ha
  obtain ⟨h1, h2, h3, h4⟩ := h
  obtain ⟨N, D⟩ := x
  dsimp only at *
  have e1 : N * (q - p) ≤ 100000 * D * (q - p) := Int.mul_le_mul_of_nonneg_right h4 (by omega)
  have e2 : -(100000 * D) * (q - p) ≤ N * (q - p) := Int.mul_le_mul_of_nonneg_right h3 (by omega)
  have hpd : 0 ≤ p * D := Int.mul_nonneg a3 (by omega)
  have e3 : p * D * v ≤ p * D * 100000 := Int.mul_le_mul_of_nonneg_left hv.2 hpd
  have e4 : p * D * (-100000) ≤ p * D * v := Int.mul_le_mul_of_nonneg_left hv.1 hpd
  have e5 : p * v * D = p * D * v := by rw [Int.mul_assoc, Int.mul_comm v D, ← Int.mul_assoc]
  refine ⟨Int.mul_pos h1 (by omega), ?_, ?_, ?_⟩
  · show D * q ≤ 10 ^ (3 * (i + 1))
    rw [show 3 * (i + 1) = 3 * i + 3 by omega, Int.pow_add]
    exact Int.mul_le_mul h2 (by omega) (by omega) (Int.le_trans (by omega) h2)
  · show -(100000 * (D * q)) ≤ N * (q - p) + p * v * D
    rw [e5]
    grind
  · show N * (q - p) + p * v * D ≤ 100000 * (D * q)
    rw [e5]
    grind
theorem smOk_nl {i : Nat} (hi : i ≤ 48) {x : Int × Int} (h : SmOk i x) : nl x.1.natAbs ≤ 20 ∧ nl x.2.natAbs ≤ 20 := by
  obtain ⟨h1, h2, h3, h4⟩ := h
  have e0 : ((10 ^ (3 * i) : Nat) : Int) = 10 ^ (3 * i) := by simp
  have e1 : 10 ^ (3 * i + 6) = 10 ^ (3 * i) * 1000000 := by rw [Nat.pow_add]
  generalize hP : 10 ^ (3 * i) = P at *
  have g : (x.2 : Int) ≤ P := by rw [← e0] at h2; exact h2
  have hPpos : 0 < P := by rw [← hP]; exact Nat.pow_pos (by decide)
  exact ⟨nl_le10 (k := 3 * i + 6) (by rw [e1]; omega) (by omega), nl_le10 (k := 3 * i + 6) (by rw [e1]; omega) (by omega)⟩
theorem sm_field (N D p q v : Rat) (hD : D ≠ 0) (hq : q ≠ 0) : N / D + p / q * (v - N / D) = (N * (q - p) + p * v * D) / (D * q) := by grind
set_option maxRecDepth 20000 in
set_option maxHeartbeats 1000000 in
theorem s35 (nl' fl) (l : List Int) (p q : Int) (hl : l.length ≤ 9223372036854775807) : Aw.Spec Tryd.prog 35 [] [ints nl' fl l, I p, I q] (Gives (· = .tup [S (bA (smoothS l p q).1), I (smoothS l p q).2])) := by
  refine Spec.shut (Post := fun rg v => v = .tup [S (bA (smoothS l p q).1), I (smoothS l p q).2]) ?_ fun rg v h => by subst h; exact ⟨rfl, rfl, rfl⟩
  refine Aw.Spec.regsW k35 rfl rfl fun E hn hnp hp => ?_
  unfold a35
  have pin : ∀ r, E.pin r = none := fun r => hp.none hnp (Nat.zero_le _)
  refine AWp.ofD [999] [] hn mixed rfl ?_
  simp (config := { maxSteps := 2000000 }) only [go_sem, ↓reduceIte, Int.reduceToNat, Nat.reduceMul, Int.reduceBEq, Int.reduceBNe, Nat.reduceBEq, Nat.reduceAdd, Nat.reduceSub, Nat.reduceLeDiff, Nat.reduceEqDiff, Nat.reduceLT, reduceCtorEq]
  (refine AWpL.calle (s59 nl' fl l hl) rfl (by rw [hn]; rfl) (by simp (config := { maxSteps := 2000000 }) only [go_sem, ↓reduceIte, Int.reduceToNat, Nat.reduceMul, Int.reduceBEq, Int.reduceBNe, Nat.reduceBEq, Nat.reduceAdd, Nat.reduceSub, Nat.reduceLeDiff, Nat.reduceEqDiff, Nat.reduceLT, reduceCtorEq]) (AWpL.ofM hn rfl ?_); simp (config := { maxSteps := 2000000 }) only [go_sem, ↓reduceIte, Int.reduceToNat, Nat.reduceMul, Int.reduceBEq, Int.reduceBNe, Nat.reduceBEq, Nat.reduceAdd, Nat.reduceSub, Nat.reduceLeDiff, Nat.reduceEqDiff, Nat.reduceLT, reduceCtorEq])
  unfold smoothS
  refine ⟨fun h => ?_, fun h => ⟨fun h2 => ?_, fun h2 => ⟨fun h3 => ?_, fun h3 => ?_⟩⟩⟩
  · have h0 : checkV l ≠ 0 := by simpa using h
    rw [if_pos h0]
    refine Retn.ret (π := []) hp hnp ⟨rfl, ?_⟩
    simp (config := { maxSteps := 2000000 }) only [go_sem, ↓reduceIte, Int.reduceToNat, Nat.reduceMul, Int.reduceBEq, Int.reduceBNe, Nat.reduceBEq, Nat.reduceAdd, Nat.reduceSub, Nat.reduceLeDiff, Nat.reduceEqDiff, Nat.reduceLT, reduceCtorEq, Aw.renR, Aw.pos]
    rfl
  · have h0 : checkV l = 0 := by simpa using h
    simp only [Bool.or_eq_true, decide_eq_true_eq] at h2
    rw [if_neg (by simp [h0]), if_neg (by unfold smArg; omega)]
    refine Retn.ret (π := []) hp hnp ⟨rfl, ?_⟩
    simp (config := { maxSteps := 2000000 }) only [go_sem, ↓reduceIte, Int.reduceToNat, Nat.reduceMul, Int.reduceBEq, Int.reduceBNe, Nat.reduceBEq, Nat.reduceAdd, Nat.reduceSub, Nat.reduceLeDiff, Nat.reduceEqDiff, Nat.reduceLT, reduceCtorEq, Aw.renR, Aw.pos]
    rfl
  · have h0 : checkV l = 0 := by simpa using h
    simp only [Bool.or_eq_false_iff, decide_eq_false_iff_not] at h2
    have hlz : l.length = 0 := by simpa using h3
    rw [if_neg (by simp [h0]), if_pos (by unfold smArg; omega), if_pos hlz]
    refine Retn.ret (π := []) hp hnp ⟨rfl, ?_⟩
    simp (config := { maxSteps := 2000000 }) only [go_sem, ↓reduceIte, Int.reduceToNat, Nat.reduceMul, Int.reduceBEq, Int.reduceBNe, Nat.reduceBEq, Nat.reduceAdd, Nat.reduceSub, Nat.reduceLeDiff, Nat.reduceEqDiff, Nat.reduceLT, reduceCtorEq, Aw.renR, Aw.pos]
    rfl
  have h0 : checkV l = 0 := by simpa using h
  simp only [Bool.or_eq_false_iff, decide_eq_false_iff_not] at h2
  have hlz : l.length ≠ 0 := by
    intro h5
    rw [h5] at h3
    exact absurd h3 (by decide)
  have ha : smArg p q := by unfold smArg; omega
  rw [if_neg (by simp [h0]), if_pos ha, if_neg hlz]
  obtain ⟨h48, hv⟩ := checkV_ok h0
  obtain ⟨x0, t, rfl⟩ : ∃ x0 t, l = x0 :: t := by
    cases l with
    | nil => exact absurd rfl hlz
    | cons x0 t => exact ⟨x0, t, rfl⟩
  have hx0 := hv x0 List.mem_cons_self
  have hvt : ∀ v ∈ t, -100000 ≤ v ∧ v ≤ 100000 := fun v h => hv v (List.mem_cons_of_mem _ h)
  have ht47 : t.length ≤ 47 := by rw [List.length_cons] at h48; omega
  have qi : ∀ {n : Int}, -9223372036854775807 ≤ n → n ≤ 9223372036854775807 → QB 3 (intQ n) := fun h0 h1 => intQ_QB h0 h1
  have qp : QB 3 (intQ p) := qi (by omega) (by omega)
  have qq : QB 3 (intQ q) := qi (by omega) (by omega)
  have qby : QB 6 (quoQ (intQ p) (intQ q)) := quoQ_QB (k := 3) qp qq (by decide)
  simp (config := { maxSteps := 2000000 }) only [go_sem, ↓reduceIte, Int.reduceToNat, Nat.reduceMul, Int.reduceBEq, Int.reduceBNe, Nat.reduceBEq, Nat.reduceAdd, Nat.reduceSub, Nat.reduceLeDiff, Nat.reduceEqDiff, Nat.reduceLT, reduceCtorEq]
  (repeat (refine And.intro (by first | omega | (refine ⟨by omega, by omega⟩) | (refine ⟨by omega, by omega, by omega⟩) | (simp only [List.length_map, List.length_range, List.length_append, List.length_cons, List.length_nil, List.length_replicate, List.length_set]; omega) | (simp; omega) | (intro hgd; cases hgd) | (intro hgd; refine ⟨hgd, ?_⟩; first | omega | (refine ⟨by omega, by omega⟩) | (simp; omega))) ?_))
  (refine AWpL.callA [] (s42 x0 (by omega) (by omega)) rfl rfl (by rw [hn]; rfl) rfl (fun r hr => .inr (pin r)) fun rg v hv => ?_; obtain ⟨rfl, rfl⟩ := hv; refine ⟨Nat.le_refl _, AWpL.ofM hn rfl ?_⟩)
  simp (config := { maxSteps := 2000000 }) only [go_sem, ↓reduceIte, Int.reduceToNat, Nat.reduceMul, Int.reduceBEq, Int.reduceBNe, Nat.reduceBEq, Nat.reduceAdd, Nat.reduceSub, Nat.reduceLeDiff, Nat.reduceEqDiff, Nat.reduceLT, reduceCtorEq, Aw.retS, Aw.retRg, Aw.kpM, Aw.bkM, Aw.pos, Aw.isBox]
  (refine AWpL.callA [] (s42 p (by omega) (by omega)) rfl rfl (by rw [hn]; rfl) rfl (fun r hr => .inr (pin r)) fun rg v hv => ?_; obtain ⟨rfl, rfl⟩ := hv; refine ⟨Nat.le_refl _, AWpL.ofM hn rfl ?_⟩)
  simp (config := { maxSteps := 2000000 }) only [go_sem, ↓reduceIte, Int.reduceToNat, Nat.reduceMul, Int.reduceBEq, Int.reduceBNe, Nat.reduceBEq, Nat.reduceAdd, Nat.reduceSub, Nat.reduceLeDiff, Nat.reduceEqDiff, Nat.reduceLT, reduceCtorEq, Aw.retS, Aw.retRg, Aw.kpM, Aw.bkM, Aw.pos, Aw.isBox]
  (refine AWpL.callA [] (s42 q (by omega) (by omega)) rfl rfl (by rw [hn]; rfl) rfl (fun r hr => .inr (pin r)) fun rg v hv => ?_; obtain ⟨rfl, rfl⟩ := hv; refine ⟨Nat.le_refl _, AWpL.ofM hn rfl ?_⟩)
  simp (config := { maxSteps := 2000000 }) only [go_sem, ↓reduceIte, Int.reduceToNat, Nat.reduceMul, Int.reduceBEq, Int.reduceBNe, Nat.reduceBEq, Nat.reduceAdd, Nat.reduceSub, Nat.reduceLeDiff, Nat.reduceEqDiff, Nat.reduceLT, reduceCtorEq, Aw.retS, Aw.retRg, Aw.kpM, Aw.bkM, Aw.pos, Aw.isBox]
  (refine AWpL.callA [] (s52 (intQ p) (intQ q) (qp.mono (by decide)) (qq.mono (by decide))) rfl rfl (by rw [hn]; rfl) rfl (fun r hr => .inr (pin r)) fun rg v hv => ?_; obtain ⟨rfl, rfl⟩ := hv; refine ⟨Nat.le_refl _, AWpL.ofM hn rfl ?_⟩)
  simp (config := { maxSteps := 2000000 }) only [go_sem, ↓reduceIte, Int.reduceToNat, Nat.reduceMul, Int.reduceBEq, Int.reduceBNe, Nat.reduceBEq, Nat.reduceAdd, Nat.reduceSub, Nat.reduceLeDiff, Nat.reduceEqDiff, Nat.reduceLT, reduceCtorEq, Aw.retS, Aw.retRg, Aw.kpM, Aw.bkM, Aw.pos, Aw.isBox]
  (repeat (refine And.intro (by first | omega | (refine ⟨by omega, by omega⟩) | (refine ⟨by omega, by omega, by omega⟩) | (simp only [List.length_map, List.length_range, List.length_append, List.length_cons, List.length_nil, List.length_replicate, List.length_set]; omega) | (simp; omega) | (intro hgd; cases hgd) | (intro hgd; refine ⟨hgd, ?_⟩; first | omega | (refine ⟨by omega, by omega⟩) | (simp; omega))) ?_))
  have htk : List.take t.length (t.map icn) = t.map icn := List.take_of_length_le (by rw [List.length_map]; exact Nat.le_refl _)
  have hq0 : ((q : Int) : Rat) ≠ 0 := cast_ne (by omega)
  refine AWp.loop (fun k s => ∃ (i : Nat) (c : QQ) (x : Int × Int), i + k = t.length ∧ Can c ∧ SmOk i x ∧ rOf c = (x.1 : Rat) / (x.2 : Rat) ∧ smI p q (x0, 1) t = smI p q x (t.drop i) ∧
      Weak E s ⟨[(9, .ptr 0 0 0), (10, .ptr 1 0 0), (48, ints nl' false t), (49, I t.length), (50, I i)], [.box 62 (qv c).cells, .box 62 (qv (quoQ (intQ p) (intQ q))).cells]⟩) (n := t.length)
    ⟨0, intQ x0, (x0, 1), by omega, int_can x0, ⟨by show (0 : Int) < 1; decide, by show (1 : Int) ≤ 10 ^ (3 * 0); decide, by show -(100000 * 1) ≤ x0; omega, by show x0 ≤ 100000 * 1; omega⟩, by rw [int_r]; show (x0 : Rat) = (x0 : Rat) / ((1 : Int) : Rat); rw [show ((1 : Int) : Rat) = 1 from rfl]; grind, rfl, weak_to [0, 1] hp hnp rfl (by simp (config := { maxSteps := 2000000 }) only [go_sem, ↓reduceIte, Int.reduceToNat, Nat.reduceMul, Int.reduceBEq, Int.reduceBNe, Nat.reduceBEq, Nat.reduceAdd, Nat.reduceSub, Nat.reduceLeDiff, Nat.reduceEqDiff, Nat.reduceLT, reduceCtorEq, Aw.pos, htk] <;> rfl) (by simp (config := { maxSteps := 2000000 }) only [go_sem, ↓reduceIte, Int.reduceToNat, Nat.reduceMul, Int.reduceBEq, Int.reduceBNe, Nat.reduceBEq, Nat.reduceAdd, Nat.reduceSub, Nat.reduceLeDiff, Nat.reduceEqDiff, Nat.reduceLT, reduceCtorEq, Aw.renR, Aw.pos] <;> rfl)⟩ ?_
  rintro k s ⟨i, c, x, hi, hc, hok, hr, hsm, hw⟩
  refine AWp.weak hw (AWp.ofD [999] [] hn mixed rfl ?_)
  obtain ⟨n1, n2⟩ := smOk_nl (by omega) hok
  have hqc : QB 20 c := frac_QB hc hok.1 hr n1 n2
  have hx20 : ((x.2 : Int) : Rat) ≠ 0 := cast_ne (by have := hok.1; omega)
  rcases Nat.lt_or_ge i t.length with hlt | hge
  · have d0 : decide ((i : Int) < (t.length : Int)) = true := decide_eq_true (by omega)
    have d1 := getD_map icn hlt
    have d2 : IntKind.i64.wrap ((i : Int) + 1) = ((i + 1 : Nat) : Int) := by rw [w64 (by omega) (by omega)]; rfl
    have hvi := hvt t[i] (List.getElem_mem hlt)
    rw [smI_drop hlt] at hsm
    have hok2 := smOk_step ha hok hvi
    have qv' : QB 3 (intQ t[i]) := qi (by omega) (by omega)
    have qs : QB 41 (subQ (intQ t[i]) c) := subQ_QB (k := 20) (qv'.mono (by decide)) hqc (by decide)
    have qm : QB 82 (mulQ (quoQ (intQ p) (intQ q)) (subQ (intQ t[i]) c)) := mulQ_QB (k := 41) (qby.mono (by decide)) qs (by decide)
    have hca : Can (addQ c (mulQ (quoQ (intQ p) (intQ q)) (subQ (intQ t[i]) c))) := add_can hc (mul_can _ _)
    have hra : rOf (addQ c (mulQ (quoQ (intQ p) (intQ q)) (subQ (intQ t[i]) c))) = ((x.1 * (q - p) + p * t[i] * x.2 : Int) : Rat) / ((x.2 * q : Int) : Rat) := by
      rw [add_r, mul_r, quo_r, sub_r, int_r, int_r, int_r, hr, sm_field _ _ _ _ _ hx20 hq0]
      simp only [Rat.intCast_mul, Rat.intCast_add, Rat.intCast_sub]
    simp (config := { maxSteps := 2000000 }) only [go_sem, ↓reduceIte, Int.reduceToNat, Nat.reduceMul, Int.reduceBEq, Int.reduceBNe, Nat.reduceBEq, Nat.reduceAdd, Nat.reduceSub, Nat.reduceLeDiff, Nat.reduceEqDiff, Nat.reduceLT, reduceCtorEq, d0, d1]
    (repeat (refine And.intro (by first | omega | (refine ⟨by omega, by omega⟩) | (refine ⟨by omega, by omega, by omega⟩) | (simp only [List.length_map, List.length_range, List.length_append, List.length_cons, List.length_nil, List.length_replicate, List.length_set]; omega) | (simp; omega) | (intro hgd; cases hgd) | (intro hgd; refine ⟨hgd, ?_⟩; first | omega | (refine ⟨by omega, by omega⟩) | (simp; omega))) ?_))
    refine AWp.cut ⟨[(9, .ptr 0 0 0), (10, .ptr 1 0 0), (48, ints nl' false t), (49, I t.length), (50, I i)], [.box 62 (qv (addQ c (mulQ (quoQ (intQ p) (intQ q)) (subQ (intQ t[i]) c)))).cells, .box 62 (qv (quoQ (intQ p) (intQ q))).cells]⟩ ?_ ?_
    · refine AWp.plan (.take 0 [false, true, true, true, true, true, true, false, false] (.take 1 [true, false, true, true, true, true, false, false, false] (.take 2 [true, true, false, false, true, false, false, false, false] (.take 4 [true, true, true, true, false, false, false, false, false] (.one 3 (.one 5 (.one 6 (.one 7 (.one 8 .done))))))))) [true, true, true, true, true, true, true, true, false] mixed hn rfl rfl ?_
      simp (config := { maxSteps := 2000000 }) only [go_sem, ↓reduceIte, Int.reduceToNat, Nat.reduceMul, Int.reduceBEq, Int.reduceBNe, Nat.reduceBEq, Nat.reduceAdd, Nat.reduceSub, Nat.reduceLeDiff, Nat.reduceEqDiff, Nat.reduceLT, reduceCtorEq]
      repeat' first | (refine And.intro ?_ ?_) | (refine AOne.callA (s42 t[i] (by omega) (by omega)) rfl (by rw [hn]; rfl) (fun rg v hv => ?_); obtain ⟨rfl, rfl⟩ := hv; rw [retS_nil]; simp (config := { maxSteps := 2000000 }) only [go_sem, ↓reduceIte, Int.reduceToNat, Nat.reduceMul, Int.reduceBEq, Int.reduceBNe, Nat.reduceBEq, Nat.reduceAdd, Nat.reduceSub, Nat.reduceLeDiff, Nat.reduceEqDiff, Nat.reduceLT, reduceCtorEq]) | (refine AOne.callA (s48 (intQ t[i]) c (qv'.mono (by decide)) (hqc.mono (by decide))) rfl (by rw [hn]; rfl) (fun rg v hv => ?_); obtain ⟨rfl, rfl⟩ := hv; rw [retS_nil]; simp (config := { maxSteps := 2000000 }) only [go_sem, ↓reduceIte, Int.reduceToNat, Nat.reduceMul, Int.reduceBEq, Int.reduceBNe, Nat.reduceBEq, Nat.reduceAdd, Nat.reduceSub, Nat.reduceLeDiff, Nat.reduceEqDiff, Nat.reduceLT, reduceCtorEq]) | (refine AOne.callA (s43 (quoQ (intQ p) (intQ q)) (subQ (intQ t[i]) c) (qby.mono (by decide)) (qs.mono (by decide))) rfl (by rw [hn]; rfl) (fun rg v hv => ?_); obtain ⟨rfl, rfl⟩ := hv; rw [retS_nil]; simp (config := { maxSteps := 2000000 }) only [go_sem, ↓reduceIte, Int.reduceToNat, Nat.reduceMul, Int.reduceBEq, Int.reduceBNe, Nat.reduceBEq, Nat.reduceAdd, Nat.reduceSub, Nat.reduceLeDiff, Nat.reduceEqDiff, Nat.reduceLT, reduceCtorEq]) | (refine AOne.callA (s46 c (mulQ (quoQ (intQ p) (intQ q)) (subQ (intQ t[i]) c)) (hqc.mono (by decide)) (qm.mono (by decide))) rfl (by rw [hn]; rfl) (fun rg v hv => ?_); obtain ⟨rfl, rfl⟩ := hv; rw [retS_nil]; simp (config := { maxSteps := 2000000 }) only [go_sem, ↓reduceIte, Int.reduceToNat, Nat.reduceMul, Int.reduceBEq, Int.reduceBNe, Nat.reduceBEq, Nat.reduceAdd, Nat.reduceSub, Nat.reduceLeDiff, Nat.reduceEqDiff, Nat.reduceLT, reduceCtorEq]) | exact weak_to [0, 1] hp hnp rfl (by simp (config := { maxSteps := 2000000 }) only [go_sem, ↓reduceIte, Int.reduceToNat, Nat.reduceMul, Int.reduceBEq, Int.reduceBNe, Nat.reduceBEq, Nat.reduceAdd, Nat.reduceSub, Nat.reduceLeDiff, Nat.reduceEqDiff, Nat.reduceLT, reduceCtorEq, Aw.pos] <;> rfl) (by simp (config := { maxSteps := 2000000 }) only [go_sem, ↓reduceIte, Int.reduceToNat, Nat.reduceMul, Int.reduceBEq, Int.reduceBNe, Nat.reduceBEq, Nat.reduceAdd, Nat.reduceSub, Nat.reduceLeDiff, Nat.reduceEqDiff, Nat.reduceLT, reduceCtorEq, Aw.renR, Aw.pos] <;> rfl)
    simp (config := { maxSteps := 2000000 }) only [go_sem, ↓reduceIte, Int.reduceToNat, Nat.reduceMul, Int.reduceBEq, Int.reduceBNe, Nat.reduceBEq, Nat.reduceAdd, Nat.reduceSub, Nat.reduceLeDiff, Nat.reduceEqDiff, Nat.reduceLT, reduceCtorEq, d2]
    (repeat (refine And.intro (by first | omega | (refine ⟨by omega, by omega⟩) | (refine ⟨by omega, by omega, by omega⟩) | (simp only [List.length_map, List.length_range, List.length_append, List.length_cons, List.length_nil, List.length_replicate, List.length_set]; omega) | (simp; omega) | (intro hgd; cases hgd) | (intro hgd; refine ⟨hgd, ?_⟩; first | omega | (refine ⟨by omega, by omega⟩) | (simp; omega))) ?_))
    exact ⟨k - 1, by omega, i + 1, _, _, by omega, hca, hok2, hra, hsm, weak_to [0, 1] hp hnp rfl (by simp (config := { maxSteps := 2000000 }) only [go_sem, ↓reduceIte, Int.reduceToNat, Nat.reduceMul, Int.reduceBEq, Int.reduceBNe, Nat.reduceBEq, Nat.reduceAdd, Nat.reduceSub, Nat.reduceLeDiff, Nat.reduceEqDiff, Nat.reduceLT, reduceCtorEq, Aw.pos, d2] <;> rfl) (by simp (config := { maxSteps := 2000000 }) only [go_sem, ↓reduceIte, Int.reduceToNat, Nat.reduceMul, Int.reduceBEq, Int.reduceBNe, Nat.reduceBEq, Nat.reduceAdd, Nat.reduceSub, Nat.reduceLeDiff, Nat.reduceEqDiff, Nat.reduceLT, reduceCtorEq, Aw.renR, Aw.pos] <;> rfl)⟩
  have d0 : decide ((i : Int) < (t.length : Int)) = false := decide_eq_false (by omega)
  rw [List.drop_of_length_le hge] at hsm
  have hfin : txtR (smR (x0 :: t) p q) = outL c := by
    rw [hc.out, hr]
    unfold smR smV
    rw [show smI p q ((x0 :: t).headD 0, 1) (x0 :: t).tail = smI p q (x0, 1) t from rfl, hsm]
    rfl
  simp (config := { maxSteps := 2000000 }) only [go_sem, ↓reduceIte, Int.reduceToNat, Nat.reduceMul, Int.reduceBEq, Int.reduceBNe, Nat.reduceBEq, Nat.reduceAdd, Nat.reduceSub, Nat.reduceLeDiff, Nat.reduceEqDiff, Nat.reduceLT, reduceCtorEq, d0]
  refine AWpL.calle (s55 c (hqc.mono (by decide))) rfl (by rw [hn]; rfl) (by simp (config := { maxSteps := 2000000 }) only [go_sem, ↓reduceIte, Int.reduceToNat, Nat.reduceMul, Int.reduceBEq, Int.reduceBNe, Nat.reduceBEq, Nat.reduceAdd, Nat.reduceSub, Nat.reduceLeDiff, Nat.reduceEqDiff, Nat.reduceLT, reduceCtorEq]) (AWpL.ofM hn rfl ?_)
  rw [hfin]
  simp (config := { maxSteps := 2000000 }) only [go_sem, ↓reduceIte, Int.reduceToNat, Nat.reduceMul, Int.reduceBEq, Int.reduceBNe, Nat.reduceBEq, Nat.reduceAdd, Nat.reduceSub, Nat.reduceLeDiff, Nat.reduceEqDiff, Nat.reduceLT, reduceCtorEq]
  refine Retn.ret (π := []) hp hnp ⟨rfl, ?_⟩
  simp (config := { maxSteps := 2000000 }) only [go_sem, ↓reduceIte, Int.reduceToNat, Nat.reduceMul, Int.reduceBEq, Int.reduceBNe, Nat.reduceBEq, Nat.reduceAdd, Nat.reduceSub, Nat.reduceLeDiff, Nat.reduceEqDiff, Nat.reduceLT, reduceCtorEq, Aw.renR, Aw.pos]
end Go.Proofs.YtjaakbkneeojnaaDoor
