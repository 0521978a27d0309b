/- Rationals: texts read and written (plain). -/
import Derived.Test.YtjaakbkneeojnaaDoorAwZl
import Derived.Test.YtjaakbkneeojnaaDoorRatE
set_option linter.unusedVariables false
set_option linter.unusedSimpArgs false
namespace Go.Proofs.YtjaakbkneeojnaaDoor
open Go.Proofs.YtjaakbkneeojnaaDoor.Aw
attribute [local go_sem] Int.natCast_zero Int.natCast_one bne_self_eq_false beq_self_eq_true Bool.not_true Bool.not_false Option.isSome_none Option.isSome_some Aw.bkM_nil Option.getD_some Option.getD_none Nat.sub_zero Int.toNat_zero Aw.frzS Aw.frzT Aw.frzA Aw.frzL Aw.frzR Aw.frzO Aw.frzOL Aw.frzOT Aw.frzOR Aw.killS Aw.mapT Aw.mapR Aw.killM Aw.resAVs Aw.resAV Aw.quietOps Aw.wpP Aw.wpT Aw.wpS Aw.AOp.mild List.getElem?_cons_zero List.getElem?_cons_succ Bool.and_false Bool.and_self Bool.false_and Aw.opOb Aw.gdB Aw.Rnd Aw.subTm List.length_map Int.toNat_natCast and_self Aw.SeqC Aw.stops Aw.Ends Aw.looks Aw.renA Aw.renL Aw.renT Aw.renS Aw.wpO Aw.aop Aw.putTm Aw.St.ev Aw.St.put Aw.St.putO Aw.binAV Aw.intBin Aw.strBin Aw.pickAV Aw.optInt Aw.AV.strip Aw.AV.guard Aw.AV.cells Aw.gdOb Aw.AOp.opds Aw.AOp.still Aw.ptrCells Aw.St.reg Aw.fillAV Aw.fillOb Aw.elsOb Aw.splice Aw.firm Aw.cellish Aw.AV.shut Aw.shutAll Aw.Seq Aw.Blk Aw.retS_nil Aw.mapA Aw.mapL Aw.borA Aw.borOb Aw.allOb Aw.tupOf Aw.params Aw.Opd.of Array.toList Value.cells List.map_cons List.map_nil List.getD_cons_zero List.getD_cons_succ List.getD_nil List.length_cons List.length_nil List.take_succ_cons List.take_zero List.take_nil List.drop_zero List.drop_succ_cons List.drop_nil List.set_cons_zero List.set_cons_succ List.append_nil List.nil_append List.cons_append List.all_cons List.all_nil cond_false cond_true if_true if_false true_and and_true Bool.and_true Bool.true_and Option.map_some Option.map_none false_implies forall_const implies_true forall_eq imp_self Bool.cond_false_right Bool.cond_true_left beq_true beq_false Bool.not_eq_true' Bool.false_eq_true Nat.zero_add Nat.add_zero Aw.eqCells Aw.stopDraw Aw.skipS Aw.exactCap Aw.revealS Aw.srcEls Aw.srcSz
attribute [local go_sem ↓] Aw.look_nil Aw.look_ite Aw.wpL_nil Aw.wpL_op Aw.wpL_gd Aw.wpQ_nil Aw.wpQ_op Aw.wpQ_gd Aw.wpC_draw Aw.wpC_reg Aw.wpC_skip Aw.wpC_ret Aw.wpC_exit Aw.wpC_seq Aw.wpC_block Aw.wpC_loop Aw.wpC_cond Aw.stopAt_nil Aw.stopAt_cons Aw.wpD_skip Aw.wpD_ret Aw.wpD_exit Aw.wpD_region Aw.wpD_draw Aw.wpM_nil Aw.wpM_op Aw.wpM_gd Aw.wpD_seq Aw.wpD_block Aw.wpD_loop Aw.wpD_cond
theorem cut_plain {A : List UInt8} (h : AllDig A) : cutL 47 A = (A, [], false) := by
  unfold cutL
  rw [if_neg]
  intro hm
  have := h 47 hm
  exact absurd this.1 (by decide)
theorem cut_frac {A B : List UInt8} (h : AllDig A) : cutL 47 (A ++ 47 :: B) = (A, B, true) := by
  unfold cutL
  rw [if_pos (by simp)]
  have h1 : ∀ c ∈ A, (c != (47 : UInt8)) = true := fun c hc => by
    rw [bne_iff_ne]
    rintro rfl
    exact absurd (h 47 hc).1 (by decide)
  have e1 : (A ++ 47 :: B).takeWhile (· != (47 : UInt8)) = A := by
    rw [List.takeWhile_append_of_pos h1, List.takeWhile_cons, if_neg (by decide), List.append_nil]
  have e2 : (A ++ 47 :: B).dropWhile (· != (47 : UInt8)) = 47 :: B := by
    rw [List.dropWhile_append_of_pos h1, List.dropWhile_cons, if_neg (by decide)]
  rw [e1, e2]; rfl
/-- A text that was cut. -/
theorem cut_join (c : UInt8) (l : List UInt8) : l = (cutL c l).1 ++ if (cutL c l).2.2 = true then c :: (cutL c l).2.1 else [] := by
  unfold cutL
  by_cases h : c ∈ l
  · rw [if_pos h, if_pos rfl]
    have h1 := (List.takeWhile_append_dropWhile (p := (· != c)) (l := l)).symm
    have h2 : l.dropWhile (· != c) = c :: (l.dropWhile (· != c)).tail := by
      induction l with
      | nil => cases h
      | cons x l ih =>
        rw [List.dropWhile_cons]
        by_cases hx : x = c
        · subst hx; rw [if_neg (by simp)]; rfl
        · rw [if_pos (by simpa using hx)]
          have hm : c ∈ l := by
            rcases List.mem_cons.1 h with h3 | h3
            · exact absurd h3.symm hx
            · exact h3
          exact ih hm (List.takeWhile_append_dropWhile (p := (· != c)) (l := l)).symm
    rw [← h2]; exact h1
  · rw [if_neg h, if_neg Bool.false_ne_true, List.append_nil]
theorem body_join (l : List UInt8) : l = if begins 45 l = true then 45 :: body l else body l := by
  unfold body
  by_cases h : begins 45 l = true
  · rw [if_pos h, if_pos h]
    cases l with
    | nil => simp [begins] at h
    | cons c l =>
      unfold begins at h
      have : c = 45 := by simpa using h
      rw [this]; rfl
  · rw [if_neg h, if_neg h]
theorem num_zero_txt {a : List UInt8} (h : IsNum a) (h0 : num (dgs a) = 0) : a = [48] := by
  rw [← txt_num h, h0]; rfl
theorem txtL_one : txtL 1 = [49] := by rw [show (1 : Nat) = num (dgs [49]) from rfl]; exact txt_num ⟨by simp, by simp, by simp⟩
/-- What a valid text says. -/
theorem in_ok {l : List UInt8} (h : ratCheck l = 0) : Can (ratIn l) ∧ outL (ratIn l) = l ∧ fitsQ (ratIn l) = 0 := by
  obtain ⟨h1, h2, h3, h4⟩ := check_ok h
  have hj1 := body_join l
  have hj2 := cut_join 47 (body l)
  have hj3 : body l = (parts l).1 ++ if (parts l).2.2 = true then 47 :: (parts l).2.1 else [] := hj2
  clear hj2
  unfold ratIn
  generalize parts l = p at *
  generalize body l = bd at *
  obtain ⟨a, b, is⟩ := p
  dsimp only at *
  have ha := txt_num h1
  have hneg : num (dgs a) = 0 → begins 45 l = false := fun h0 => by
    cases hb : begins 45 l with
    | false => rfl
    | true => exact absurd (num_zero_txt h1 h0) (h3 hb)
  cases is with
  | false =>
    rw [if_neg Bool.false_ne_true] at hj3 ⊢
    rw [List.append_nil] at hj3
    subst hj3
    have hw : (QQ.whole ⟨begins 45 l, num (dgs bd), 1⟩) = 1 := rfl
    refine ⟨⟨by rw [hw]; exact Nat.gcd_one_right _, hneg⟩, ?_, ?_⟩
    · unfold outL
      rw [hw, if_pos rfl, List.append_nil]
      dsimp only
      rw [ha]
      split
      · rename_i h0
        rw [hneg h0, if_neg Bool.false_ne_true] at hj1
        rw [hj1]; exact (num_zero_txt h1 h0).symm
      · exact hj1.symm
    · unfold fitsQ
      dsimp only
      rw [ha, if_neg]
      rw [not_or]
      exact ⟨by omega, by rw [txtL_one]; decide⟩
  | true =>
    obtain ⟨g1, g2, g3, g4, g5⟩ := h4 rfl
    rw [if_pos rfl] at hj3 ⊢
    have hb := txt_num g1
    have hbn : num (dgs b) ≠ 0 := fun h0 => g3 (num_zero_txt g1 h0)
    have hb1 : num (dgs b) ≠ 1 := fun h0 => g4 (by rw [← hb, h0, txtL_one])
    have hw : (QQ.whole ⟨begins 45 l, num (dgs a), num (dgs b)⟩) = num (dgs b) := by
      unfold QQ.whole; rw [if_neg hbn]
    refine ⟨⟨by rw [hw]; exact g5, hneg⟩, ?_, ?_⟩
    · unfold outL
      rw [hw, if_neg hb1]
      dsimp only
      have hn0 : num (dgs a) ≠ 0 := fun h0 => by
        rw [h0, Nat.gcd_zero_left] at g5
        exact hb1 g5
      rw [if_neg hn0, ha, hb]
      rw [hj3] at hj1
      cases hbg : begins 45 l with
      | true =>
        rw [hbg, if_pos rfl] at hj1
        rw [if_pos rfl]
        exact hj1.symm
      | false =>
        rw [hbg, if_neg Bool.false_ne_true] at hj1
        rw [if_neg Bool.false_ne_true]
        exact hj1.symm
    · unfold fitsQ
      dsimp only
      rw [ha, hb, if_neg]
      rw [not_or]
      exact ⟨by omega, by omega⟩
/-- The value of a valid text. -/
def inR (l : List UInt8) : Rat := rOf (ratIn l)
theorem valid_txt {l : List UInt8} (h : ratCheck l = 0) : l = txtR (inR l) ∧ fitsR (inR l) := by
  obtain ⟨h1, h2, h3⟩ := in_ok h
  refine ⟨?_, ?_⟩
  · rw [← h2]
    conv => rhs; rw [h2]
    exact h1.out
  · unfold fitsR inR
    rw [← h1.fits]; exact h3
theorem checkN_of {a : List UInt8} (h : IsNum a) (hl : a.length ≤ 2000) : checkN a = 0 := by
  unfold checkN
  rw [if_pos ((isNumB_iff a).2 h), if_neg (by omega)]
theorem txt_ne48 {n : Nat} (h : n ≠ 0) : txtL n ≠ [48] := fun h2 => h (by rw [← num_txt n, h2]; rfl)
theorem txt_ne49 {n : Nat} (h : n ≠ 1) : txtL n ≠ [49] := fun h2 => h (by rw [← num_txt n, h2]; rfl)
theorem begins_dig {A : List UInt8} {R : List UInt8} (h : AllDig A) (hne : A ≠ []) : begins 45 (A ++ R) = false := by
  cases A with
  | nil => exact absurd rfl hne
  | cons c A =>
    unfold begins
    have := (h c List.mem_cons_self).1
    rw [List.cons_append, List.head?_cons, beq_eq_false_iff_ne]
    intro h2
    injection h2 with h2
    subst h2
    exact absurd this (by decide)
/-- The text of a rational says what it is. -/
theorem txt_ok {r : Rat} (h : fitsR r) : ratCheck (txtR r) = 0 ∧ inR (txtR r) = r := by
  have hc := of_can r
  have hr := rOf_of r
  have hw := of_whole r
  have hd : (QQ.of r).den = r.den := rfl
  unfold fitsR at h
  have hfit : (txtL (QQ.of r).num).length ≤ 2000 ∧ (txtL r.den).length ≤ 2000 := by
    unfold fitsQ at h
    rw [hd] at h
    split at h
    · cases h
    · rename_i h1
      rw [not_or] at h1
      exact ⟨by omega, by omega⟩
  unfold txtR inR
  generalize QQ.of r = q at *
  obtain ⟨f1, f2⟩ := hfit
  have hIn := txt_isnum q.num
  have hId := txt_isnum r.den
  by_cases h0 : q.num = 0
  · have ho : outL q = [48] := by unfold outL; rw [if_pos h0]
    rw [ho]
    refine ⟨by decide, ?_⟩
    rw [← hr, num_zero h0]
    rfl
  · have ho : outL q = (if q.neg = true then 45 :: txtL q.num else txtL q.num) ++ if r.den = 1 then [] else 47 :: txtL r.den := by
      unfold outL; rw [if_neg h0, hw]
    have hbeg : begins 45 (outL q) = q.neg := by
      rw [ho]
      cases q.neg with
      | true => rfl
      | false => exact begins_dig hIn.2.1 hIn.1
    have hbody : body (outL q) = txtL q.num ++ if r.den = 1 then [] else 47 :: txtL r.den := by
      unfold body
      rw [hbeg, ho]
      cases q.neg with
      | true => rfl
      | false => rfl
    have hparts : parts (outL q) = (txtL q.num, if r.den = 1 then [] else txtL r.den, decide (r.den ≠ 1)) := by
      unfold parts
      rw [hbody]
      by_cases h1 : r.den = 1
      · rw [if_pos h1, if_pos h1, List.append_nil, cut_plain hIn.2.1, decide_eq_false (by simpa using h1)]
      · rw [if_neg h1, if_neg h1, cut_frac hIn.2.1, decide_eq_true h1]
    have hq : rOf (ratIn (outL q)) = r := by
      unfold ratIn
      rw [hparts, hbeg]
      dsimp only
      rw [num_txt]
      have hr' : mkRat (sg q.neg q.num) r.den = r := by rw [← hw]; exact hr
      unfold rOf
      have : (QQ.whole ⟨q.neg, q.num, if decide (r.den ≠ 1) = true then num (dgs (if r.den = 1 then [] else txtL r.den)) else 1⟩) = r.den := by
        unfold QQ.whole
        by_cases h1 : r.den = 1
        · rw [decide_eq_false (by simpa using h1), if_neg Bool.false_ne_true, h1]; rfl
        · rw [decide_eq_true h1, if_pos rfl, if_neg h1, num_txt, if_neg r.den_nz]
      rw [this]
      exact hr'
    refine ⟨?_, hq⟩
    unfold ratCheck
    rw [hparts, hbeg]
    dsimp only
    rw [checkN_of hIn f1]
    have hg := hc.1
    rw [hw] at hg
    by_cases h1 : r.den = 1
    · rw [decide_eq_false (by simpa using h1), if_neg Bool.false_ne_true, if_neg, if_neg (by simp), if_neg (by simp)]
      rw [not_or, not_or]
      exact ⟨by decide, by decide, fun h2 => txt_ne48 h0 h2.2⟩
    · rw [decide_eq_true h1, if_pos rfl, if_neg h1, checkN_of hId f2, if_neg, if_neg (by simp), if_neg]
      · rw [not_and, not_or, not_or, num_txt, num_txt]
        exact fun _ => ⟨txt_ne48 r.den_nz, txt_ne49 h1, fun h2 => h2 hg⟩
      · rw [not_or, not_or]
        exact ⟨by decide, by decide, fun h2 => txt_ne48 h0 h2.2⟩
theorem in_can {l : List UInt8} (h : ratCheck l = 0) : Can (ratIn l) := (in_ok h).1
/-- The text of a rational is the rational's own. -/
theorem txtR_inj {r s : Rat} (hr : fitsR r) (hs : fitsR s) (h : txtR r = txtR s) : r = s := by
  rw [← (txt_ok hr).2, ← (txt_ok hs).2, h]
theorem told_fst {r : Rat} (h : (toldR r).2 = 0) : fitsR r := by
  by_cases hf : fitsR r
  · exact hf
  · rw [toldR_large hf] at h; cases h
end Go.Proofs.YtjaakbkneeojnaaDoor
