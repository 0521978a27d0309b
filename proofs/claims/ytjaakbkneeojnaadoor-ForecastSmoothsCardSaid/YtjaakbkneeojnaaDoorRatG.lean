/- Rationals: small laws; Sum. -/
import Derived.Test.YtjaakbkneeojnaaDoorAwZl
import Derived.Test.YtjaakbkneeojnaaDoorRatF
set_option linter.unusedVariables false
set_option linter.unusedSimpArgs false
namespace Go.Proofs.YtjaakbkneeojnaaDoor
open Go.Proofs.YtjaakbkneeojnaaDoor.Aw
attribute [local go_sem] Int.natCast_zero Int.natCast_one bne_self_eq_false beq_self_eq_true Bool.not_true Bool.not_false Option.isSome_none Option.isSome_some Aw.bkM_nil Option.getD_some Option.getD_none Nat.sub_zero Int.toNat_zero Aw.frzS Aw.frzT Aw.frzA Aw.frzL Aw.frzR Aw.frzO Aw.frzOL Aw.frzOT Aw.frzOR Aw.killS Aw.mapT Aw.mapR Aw.killM Aw.resAVs Aw.resAV Aw.quietOps Aw.wpP Aw.wpT Aw.wpS Aw.AOp.mild List.getElem?_cons_zero List.getElem?_cons_succ Bool.and_false Bool.and_self Bool.false_and Aw.opOb Aw.gdB Aw.Rnd Aw.subTm List.length_map Int.toNat_natCast and_self Aw.SeqC Aw.stops Aw.Ends Aw.looks Aw.renA Aw.renL Aw.renT Aw.renS Aw.wpO Aw.aop Aw.putTm Aw.St.ev Aw.St.put Aw.St.putO Aw.binAV Aw.intBin Aw.strBin Aw.pickAV Aw.optInt Aw.AV.strip Aw.AV.guard Aw.AV.cells Aw.gdOb Aw.AOp.opds Aw.AOp.still Aw.ptrCells Aw.St.reg Aw.fillAV Aw.fillOb Aw.elsOb Aw.splice Aw.firm Aw.cellish Aw.AV.shut Aw.shutAll Aw.Seq Aw.Blk Aw.retS_nil Aw.mapA Aw.mapL Aw.borA Aw.borOb Aw.allOb Aw.tupOf Aw.params Aw.Opd.of Array.toList Value.cells List.map_cons List.map_nil List.getD_cons_zero List.getD_cons_succ List.getD_nil List.length_cons List.length_nil List.take_succ_cons List.take_zero List.take_nil List.drop_zero List.drop_succ_cons List.drop_nil List.set_cons_zero List.set_cons_succ List.append_nil List.nil_append List.cons_append List.all_cons List.all_nil cond_false cond_true if_true if_false true_and and_true Bool.and_true Bool.true_and Option.map_some Option.map_none false_implies forall_const implies_true forall_eq imp_self Bool.cond_false_right Bool.cond_true_left beq_true beq_false Bool.not_eq_true' Bool.false_eq_true Nat.zero_add Nat.add_zero Aw.eqCells Aw.stopDraw Aw.skipS Aw.exactCap Aw.revealS Aw.srcEls Aw.srcSz
attribute [local go_sem ↓] Aw.look_nil Aw.look_ite Aw.wpL_nil Aw.wpL_op Aw.wpL_gd Aw.wpQ_nil Aw.wpQ_op Aw.wpQ_gd Aw.wpC_draw Aw.wpC_reg Aw.wpC_skip Aw.wpC_ret Aw.wpC_exit Aw.wpC_seq Aw.wpC_block Aw.wpC_loop Aw.wpC_cond Aw.stopAt_nil Aw.stopAt_cons Aw.wpD_skip Aw.wpD_ret Aw.wpD_exit Aw.wpD_region Aw.wpD_draw Aw.wpM_nil Aw.wpM_op Aw.wpM_gd Aw.wpD_seq Aw.wpD_block Aw.wpD_loop Aw.wpD_cond
/- gridhall/rat.Sum -/
def a25 : ACode :=
  (.seq (.region false [] [
     ⟨(some 2), none, (.mov (.v (.string ⟨#[]⟩)))⟩,
     ⟨(some 3), none, (.mov (.v (.int .i64 0)))⟩])
  (.seq (.seq (.region false [] [
     ⟨(some 8), none, (.mov (.t 0))⟩,
     ⟨(some 9), none, (.len (.t 8))⟩,
     ⟨(some 10), none, (.bin .gtr 3 (.t 9) (.v (.int .i64 256)))⟩])
  (.cond (.t 10)
    (.seq (.region false [] [
       ⟨(some 2), none, (.mov (.v (.string ⟨#[]⟩)))⟩,
       ⟨(some 3), none, (.mov (.v (.int .i64 2)))⟩])
    .ret)
    .skip))
  (.seq (.seq (.region false [] [
     ⟨(some 11), none, (.mov (.t 0))⟩,
     ⟨(some 12), none, (.call 56 [(.t 11)])⟩,
     ⟨(some 4), none, (.mov (.t 12))⟩])
  (.seq (.region false [] [
     ⟨(some 13), none, (.mov (.t 4))⟩,
     ⟨(some 14), none, (.bin .neq 25 (.t 13) (.v (.int .i64 0)))⟩])
  (.cond (.t 14)
    (.seq (.region false [] [
       ⟨(some 15), none, (.mov (.t 4))⟩,
       ⟨(some 2), none, (.mov (.v (.string ⟨#[]⟩)))⟩,
       ⟨(some 3), none, (.mov (.t 15))⟩])
    .ret)
    .skip)))
  (.seq (.region false [] [
     ⟨(some 5), none, (.alloc 62 (.agg #[(.bool false), (.slice none 0 0), (.slice none 0 0)]))⟩])
  (.seq (.seq (.region false [] [
     ⟨(some 16), none, (.mov (.t 0))⟩,
     ⟨(some 17), none, (.len (.t 16))⟩,
     ⟨(some 18), none, (.mov (.v (.int .i64 0)))⟩])
  (.block 0 (.loop (.seq (.region false [] [
       ⟨(some 19), none, (.bin .lss 3 (.t 18) (.t 17))⟩])
    (.seq (.cond (.t 19)
      .skip
      (.exit 0))
    (.seq (.block 1 (.seq (.region false [] [
        ⟨(some 20), none, (.idx 1 (.t 16) (.t 18))⟩,
        ⟨(some 21), none, (.load 1 false (.t 20))⟩,
        ⟨(some 7), none, (.mov (.t 21))⟩])
     (.seq (.region true [[], [], [1], [0, 2, 2], [3, 3, 0, 1, 2, 3]] [
        ⟨(some 22), none, (.load 3 true (.t 5))⟩,
        ⟨(some 23), none, (.mov (.t 7))⟩,
        ⟨(some 24), none, (.call 41 [(.t 23)])⟩,
        ⟨(some 25), none, (.call 46 [(.t 22), (.t 24)])⟩,
        ⟨none, none, (.store 3 (.t 5) (.t 25))⟩])
     (.seq (.region false [] [
        ⟨(some 26), none, (.load 3 true (.t 5))⟩,
        ⟨(some 27), none, (.call 57 [(.t 26)])⟩,
        ⟨(some 28), none, (.bin .neq 25 (.t 27) (.v (.int .i64 0)))⟩])
     (.cond (.t 28)
       (.seq (.region false [] [
          ⟨(some 2), none, (.mov (.v (.string ⟨#[]⟩)))⟩,
          ⟨(some 3), none, (.mov (.v (.int .i64 2)))⟩])
       .ret)
       .skip)))))
    (.region false [] [
       ⟨(some 29), none, (.bin .add 3 (.t 18) (.v (.int .i64 1)))⟩,
       ⟨(some 18), none, (.mov (.t 29))⟩])))))))
  (.seq (.region false [] [
     ⟨(some 30), none, (.load 3 true (.t 5))⟩,
     ⟨(some 31), none, (.call 49 [(.t 30)])⟩,
     ⟨(some 32), none, (.ext 0 (.t 31))⟩,
     ⟨(some 33), none, (.ext 1 (.t 31))⟩,
     ⟨(some 2), none, (.mov (.t 32))⟩,
     ⟨(some 3), none, (.mov (.t 33))⟩])
  .ret))))))
theorem k25 : FnIs Tryd.prog 25 34 [.t 2, .t 3] a25 := ⟨_, _, Tryd.func25, rfl, by kernel_rfl, by kernel_rfl, rfl⟩

theorem txt_is {l : List UInt8} {n : Nat} (h : isNumB l = true) (hn : num (dgs l) = n) : txtL n = l := by
  rw [← hn]; exact txt_num ((isNumB_iff l).1 h)
/-- The text of a fraction. -/
theorem txt_frac {l : List UInt8} (h : ratCheck l = 0) {r : Rat} (hr : inR l = r) : txtR r = l ∧ fitsR r := by
  obtain ⟨h1, h2⟩ := valid_txt h
  rw [hr] at h1 h2
  exact ⟨h1.symm, h2⟩
theorem told_cases (r : Rat) : (fitsR r ∧ toldR r = (txtR r, 0)) ∨ (¬ fitsR r ∧ toldR r = ([], 2)) := by
  by_cases h : fitsR r
  · exact .inl ⟨h, toldR_fits h⟩
  · exact .inr ⟨h, toldR_large h⟩
theorem check_nil : ratCheck [] = 5 := by decide
theorem checkAll2 {l m : List UInt8} (h1 : ratCheck l = 0) (h2 : ratCheck m = 0) : checkAll [l, m] = 0 := by
  unfold checkAll
  rw [if_neg (by simp [h1])]
  unfold checkAll
  rw [if_neg (by simp [h2])]
  rfl
theorem add_txt {r s : Rat} (hr : fitsR r) (hs : fitsR s) : twoQ addQ (txtR r) (txtR s) = toldR (r + s) := by
  obtain ⟨h1, h2⟩ := txt_ok hr
  obtain ⟨h3, h4⟩ := txt_ok hs
  unfold twoQ
  rw [if_neg (by rw [checkAll2 h1 h3]; simp), (add_can (in_can h1) (in_can h3)).told, add_r]
  unfold inR at h2 h4
  rw [h2, h4]
theorem sub_txt {r s : Rat} (hr : fitsR r) (hs : fitsR s) : twoQ subQ (txtR r) (txtR s) = toldR (r - s) := by
  obtain ⟨h1, h2⟩ := txt_ok hr
  obtain ⟨h3, h4⟩ := txt_ok hs
  unfold twoQ
  rw [if_neg (by rw [checkAll2 h1 h3]; simp), (sub_can (in_can h1) (in_can h3)).told, sub_r]
  unfold inR at h2 h4
  rw [h2, h4]
theorem mul_txt {r s : Rat} (hr : fitsR r) (hs : fitsR s) : twoQ mulQ (txtR r) (txtR s) = toldR (r * s) := by
  obtain ⟨h1, h2⟩ := txt_ok hr
  obtain ⟨h3, h4⟩ := txt_ok hs
  unfold twoQ
  rw [if_neg (by rw [checkAll2 h1 h3]; simp), (mul_can _ _).told, mul_r]
  unfold inR at h2 h4
  rw [h2, h4]
theorem two_bad {op : QQ → QQ → QQ} {l m : List UInt8} (h : l = [] ∨ m = []) : (twoQ op l m).2 ≠ 0 := by
  have hc : checkAll [l, m] ≠ 0 := fun h0 => by
    obtain ⟨h1, h2⟩ := check2 h0
    rcases h with rfl | rfl
    · rw [check_nil] at h1; cases h1
    · rw [check_nil] at h2; cases h2
  unfold twoQ
  rw [if_pos hc]
  exact hc
theorem told_len (r : Rat) : (toldR r).1.length ≤ 9223372036854775807 := by
  rcases told_cases r with ⟨h1, h2⟩ | ⟨h1, h2⟩
  · rw [h2]
    dsimp only
    unfold fitsR fitsQ at h1
    unfold txtR outL
    have hw := of_whole r
    have hd : (QQ.of r).den = r.den := rfl
    rw [hw]
    rw [hd] at h1
    split at h1
    · cases h1
    · rename_i h3
      rw [not_or] at h3
      split
      · decide
      · rw [List.length_append]
        have g1 : (if (QQ.of r).neg = true then 45 :: txtL (QQ.of r).num else txtL (QQ.of r).num).length ≤ (txtL (QQ.of r).num).length + 1 := by
          split
          · rw [List.length_cons]; omega
          · omega
        have g2 : (if r.den = 1 then [] else 47 :: txtL r.den).length ≤ (txtL r.den).length + 1 := by
          split
          · exact Nat.zero_le _
          · rw [List.length_cons]; omega
        omega
  · rw [h2]; decide
theorem txtR_len {r : Rat} (h : fitsR r) : (txtR r).length ≤ 9223372036854775807 := by
  have := told_len r
  rwa [toldR_fits h] at this
theorem told_err (r : Rat) : (toldR r).2 = 0 ∨ (toldR r).2 = 2 := by
  rcases told_cases r with ⟨_, h⟩ | ⟨_, h⟩ <;> (rw [h]; simp)
theorem told_txt {r : Rat} (h : (toldR r).2 = 0) : (toldR r).1 = txtR r := by rw [toldR_fits (told_fst h)]
theorem small_fits {q : QQ} (hq : QB 200 q) (hc : Can q) : fitsR (rOf q) := by
  unfold fitsR
  rw [← hc.fits]
  unfold fitsQ
  have h1 := txt_len q.num
  have h2 := txt_len q.den
  rw [if_neg]
  rw [not_or]
  obtain ⟨g1, g2⟩ := hq
  exact ⟨by omega, by omega⟩
theorem of_fits {n d : Int} (hd : d ≠ 0) (hn : n.natAbs ≤ 9223372036854775808) (hd2 : d.natAbs ≤ 9223372036854775808) : fitsR ((n : Rat) / (d : Rat)) := by
  have h := ofQ_r n d
  unfold ofQ at h
  rw [if_neg hd, if_neg hd] at h
  have hc : Can (lowQ (decide (n < 0) != decide (d < 0)) n.natAbs d.natAbs) := low_can (by omega)
  have hb : QB 200 (lowQ (decide (n < 0) != decide (d < 0)) n.natAbs d.natAbs) := low_QB (Nat.le_trans (nl64 hn) (by decide)) (Nat.le_trans (nl64 hd2) (by decide))
  have hf := small_fits hb hc
  rw [hc.told, toldR_fits hf] at h
  exact told_fst (by rw [← h])
theorem cast_ne {n : Int} (h : n ≠ 0) : (n : Rat) ≠ 0 := fun h2 => h (by exact_mod_cast h2)
theorem fits_QB {q : QQ} (h : fitsQ q = 0) : QB 223 q := by
  unfold fitsQ at h
  split at h
  · cases h
  · rename_i h1
    rw [not_or] at h1
    refine ⟨?_, ?_⟩
    · have := num_nl (txt_digit q.num) (by omega)
      rwa [num_txt] at this
    · have := num_nl (txt_digit q.den) (by omega)
      rwa [num_txt] at this
abbrev tx (r : Rat) : List AV := bl (txtR r)
theorem map_tx (rs : List Rat) : (rs.map txtR).map bl = rs.map tx := by rw [List.map_map]; rfl
theorem checkAll_ok {ls : List (List UInt8)} (h : ∀ l ∈ ls, ratCheck l = 0) : checkAll ls = 0 := by
  induction ls with
  | nil => rfl
  | cons l ls ih =>
    unfold checkAll
    rw [if_neg (by simp [h l List.mem_cons_self])]
    exact ih fun x hx => h x (List.mem_cons_of_mem _ hx)
/-- The sum of rationals. -/
def sumR : List Rat → Rat
  | [] => 0
  | r :: rs => r + sumR rs
theorem sumR_append (l m : List Rat) : sumR (l ++ m) = sumR l + sumR m := by
  induction l with
  | nil => rw [List.nil_append, sumR]; grind
  | cons r l ih => rw [List.cons_append, sumR, ih, sumR]; grind
theorem sumR_take {l : List Rat} {i : Nat} (h : i < l.length) : sumR (l.take (i + 1)) = sumR (l.take i) + l[i] := by
  rw [take_get h, sumR_append, sumR, sumR]; grind
set_option maxRecDepth 20000 in
theorem s25 (nl' fl) (rs : List Rat) (hlen : rs.length ≤ 256) (hf : ∀ r ∈ rs, fitsR r) (hp' : ∀ i, i ≤ rs.length → fitsR (sumR (rs.take i))) : Aw.Spec Tryd.prog 25 [] [.imm nl' fl 1 (rs.map tx)] (Gives (· = .tup [S (bA (txtR (sumR rs))), I 0])) := by
  refine Spec.shut (Post := fun rg v => v = .tup [S (bA (txtR (sumR rs))), I 0]) ?_ fun rg v h => by subst h; exact ⟨rfl, rfl, rfl⟩
  rw [← map_tx]
  refine Aw.Spec.regsW k25 rfl rfl fun E hn hnp hp => ?_
  unfold a25
  have pin : ∀ r, E.pin r = none := fun r => hp.none hnp (Nat.zero_le _)
  have hall : checkAll (rs.map txtR) = 0 := checkAll_ok fun l hl => by
    obtain ⟨r, hr, rfl⟩ := List.mem_map.1 hl
    exact (txt_ok (hf r hr)).1
  have hlen2 : (rs.map txtR).length = rs.length := List.length_map _
  refine AWp.ofD [999] [] hn mixed rfl ?_
  simp (config := { maxSteps := 2000000 }) only [go_sem, ↓reduceIte, Int.reduceToNat, Nat.reduceMul, Int.reduceBEq, Int.reduceBNe, Nat.reduceBEq, Nat.reduceAdd, Nat.reduceSub, Nat.reduceLeDiff, Nat.reduceEqDiff, Nat.reduceLT, reduceCtorEq]
  refine ⟨fun h => absurd (of_decide_eq_true h) (by omega), fun h => ?_⟩
  (refine AWpL.calle (s56 nl' fl (rs.map txtR) (by omega) (fun l hl => by
    obtain ⟨r, hr, rfl⟩ := List.mem_map.1 hl
    exact txtR_len (hf r hr))) rfl (by rw [hn]; rfl) (by simp (config := { maxSteps := 2000000 }) only [go_sem, ↓reduceIte, Int.reduceToNat, Nat.reduceMul, Int.reduceBEq, Int.reduceBNe, Nat.reduceBEq, Nat.reduceAdd, Nat.reduceSub, Nat.reduceLeDiff, Nat.reduceEqDiff, Nat.reduceLT, reduceCtorEq]) (AWpL.ofM hn rfl ?_); simp (config := { maxSteps := 2000000 }) only [go_sem, ↓reduceIte, Int.reduceToNat, Nat.reduceMul, Int.reduceBEq, Int.reduceBNe, Nat.reduceBEq, Nat.reduceAdd, Nat.reduceSub, Nat.reduceLeDiff, Nat.reduceEqDiff, Nat.reduceLT, reduceCtorEq])
  rw [hall]
  refine ⟨fun h => absurd h (by simp), fun h => ?_⟩
  (repeat (refine And.intro (by first | omega | (refine ⟨by omega, by omega⟩) | (refine ⟨by omega, by omega, by omega⟩) | (simp only [List.length_map, List.length_range, List.length_append, List.length_cons, List.length_nil, List.length_replicate, List.length_set]; omega) | (simp; omega) | (intro hgd; cases hgd) | (intro hgd; refine ⟨hgd, ?_⟩; first | omega | (refine ⟨by omega, by omega⟩) | (simp; omega))) ?_))
  refine AWp.weak (weak_box 0 1 rfl (by rfl) (Ent.ofnil0 1)) ?_
  simp (config := { maxSteps := 2000000 }) only [go_sem, ↓reduceIte, Int.reduceToNat, Nat.reduceMul, Int.reduceBEq, Int.reduceBNe, Nat.reduceBEq, Nat.reduceAdd, Nat.reduceSub, Nat.reduceLeDiff, Nat.reduceEqDiff, Nat.reduceLT, reduceCtorEq]
  refine AWp.weak (weak_box 0 2 rfl (by rfl) (Ent.ofnil0 1)) ?_
  have hz : (qv QQ.zero).cells = [B false, .imm none false 1 [], .imm none false 1 []] := by
    show [B false, nv 0, nv 0] = _
    rw [nv_zero]
  have hfz : fitsR 0 := hp' 0 (Nat.zero_le _)
  refine AWp.loop (fun k s => ∃ (i : Nat) (q : QQ), i + k = rs.length ∧ Can q ∧ QB 223 q ∧ rOf q = sumR (rs.take i) ∧ Weak E s ⟨[(5, .ptr 0 0 0), (16, .imm nl' fl 1 ((rs.map txtR).map bl)), (17, I rs.length), (18, I i)], [.box 62 (qv q).cells]⟩) (n := rs.length)
    ⟨0, QQ.zero, by omega, zero_can, zero_QB 223, zero_r, weak_to [0] hp hnp rfl (by simp (config := { maxSteps := 2000000 }) only [go_sem, ↓reduceIte, Int.reduceToNat, Nat.reduceMul, Int.reduceBEq, Int.reduceBNe, Nat.reduceBEq, Nat.reduceAdd, Nat.reduceSub, Nat.reduceLeDiff, Nat.reduceEqDiff, Nat.reduceLT, reduceCtorEq, Aw.pos] <;> rfl) (by rw [hz]; simp (config := { maxSteps := 2000000 }) only [go_sem, ↓reduceIte, Int.reduceToNat, Nat.reduceMul, Int.reduceBEq, Int.reduceBNe, Nat.reduceBEq, Nat.reduceAdd, Nat.reduceSub, Nat.reduceLeDiff, Nat.reduceEqDiff, Nat.reduceLT, reduceCtorEq, Aw.renR, Aw.pos] <;> rfl)⟩ ?_
  rintro k s ⟨i, q, hi, hc, hqb, hq, hw⟩
  refine AWp.weak hw (AWp.ofD [999] [] hn mixed rfl ?_)
  rcases Nat.lt_or_ge i rs.length with hlt | hge
  · have d0 : decide ((i : Int) < (rs.length : Int)) = true := decide_eq_true (by omega)
    have hlt2 : i < (rs.map txtR).length := by omega
    have d1 : ((rs.map txtR).map bl).getD i [] = bl (txtR rs[i]) := by rw [getD_map bl hlt2, List.getElem_map]
    have d2 : IntKind.i64.wrap ((i : Int) + 1) = ((i + 1 : Nat) : Int) := by rw [w64 (by omega) (by omega)]; rfl
    have hfi := hf rs[i] (List.getElem_mem hlt)
    obtain ⟨hchk, hin⟩ := txt_ok hfi
    have hQ := ratIn_QB hchk
    have hca := add_can hc (in_can hchk)
    have hra : rOf (addQ q (ratIn (txtR rs[i]))) = sumR (rs.take (i + 1)) := by
      rw [add_r, hq, sumR_take hlt]
      unfold inR at hin
      rw [hin]
    have hfa : fitsQ (addQ q (ratIn (txtR rs[i]))) = 0 := by
      rw [hca.fits, hra]
      exact hp' (i + 1) hlt
    have hqa := fits_QB hfa
    simp (config := { maxSteps := 2000000 }) only [go_sem, ↓reduceIte, Int.reduceToNat, Nat.reduceMul, Int.reduceBEq, Int.reduceBNe, Nat.reduceBEq, Nat.reduceAdd, Nat.reduceSub, Nat.reduceLeDiff, Nat.reduceEqDiff, Nat.reduceLT, reduceCtorEq, d0, d1]
    (repeat (refine And.intro (by first | omega | (refine ⟨by omega, by omega⟩) | (refine ⟨by omega, by omega, by omega⟩) | (simp only [List.length_map, List.length_range, List.length_append, List.length_cons, List.length_nil, List.length_replicate, List.length_set]; omega) | (simp; omega) | (intro hgd; cases hgd) | (intro hgd; refine ⟨hgd, ?_⟩; first | omega | (refine ⟨by omega, by omega⟩) | (simp; omega))) ?_))
    refine AWp.cut ⟨[(5, .ptr 0 0 0), (16, .imm nl' fl 1 ((rs.map txtR).map bl)), (17, I rs.length), (18, I i)], [.box 62 (qv (addQ q (ratIn (txtR rs[i])))).cells]⟩ ?_ ?_
    · refine AWp.plan (.take 0 [false, true, true, false, false] (.take 1 [true, false, false, false, false] (.one 2 (.one 3 (.one 4 .done))))) [true, true, true, true, false] mixed hn rfl rfl ?_
      simp (config := { maxSteps := 2000000 }) only [go_sem, ↓reduceIte, Int.reduceToNat, Nat.reduceMul, Int.reduceBEq, Int.reduceBNe, Nat.reduceBEq, Nat.reduceAdd, Nat.reduceSub, Nat.reduceLeDiff, Nat.reduceEqDiff, Nat.reduceLT, reduceCtorEq]
      repeat' first | (refine And.intro ?_ ?_) | (refine AOne.callA (in_of hchk (txtR_len hfi)) rfl (by rw [hn]; rfl) (fun rg v hv => ?_); obtain ⟨rfl, rfl⟩ := hv; rw [retS_nil]; simp (config := { maxSteps := 2000000 }) only [go_sem, ↓reduceIte, Int.reduceToNat, Nat.reduceMul, Int.reduceBEq, Int.reduceBNe, Nat.reduceBEq, Nat.reduceAdd, Nat.reduceSub, Nat.reduceLeDiff, Nat.reduceEqDiff, Nat.reduceLT, reduceCtorEq]) | (refine AOne.callA (s46 q (ratIn (txtR rs[i])) (hqb.mono (by decide)) (hQ.mono (by decide))) rfl (by rw [hn]; rfl) (fun rg v hv => ?_); obtain ⟨rfl, rfl⟩ := hv; rw [retS_nil]; simp (config := { maxSteps := 2000000 }) only [go_sem, ↓reduceIte, Int.reduceToNat, Nat.reduceMul, Int.reduceBEq, Int.reduceBNe, Nat.reduceBEq, Nat.reduceAdd, Nat.reduceSub, Nat.reduceLeDiff, Nat.reduceEqDiff, Nat.reduceLT, reduceCtorEq]) | exact weak_to [0] hp hnp rfl (by simp (config := { maxSteps := 2000000 }) only [go_sem, ↓reduceIte, Int.reduceToNat, Nat.reduceMul, Int.reduceBEq, Int.reduceBNe, Nat.reduceBEq, Nat.reduceAdd, Nat.reduceSub, Nat.reduceLeDiff, Nat.reduceEqDiff, Nat.reduceLT, reduceCtorEq, Aw.pos] <;> rfl) (by simp (config := { maxSteps := 2000000 }) only [go_sem, ↓reduceIte, Int.reduceToNat, Nat.reduceMul, Int.reduceBEq, Int.reduceBNe, Nat.reduceBEq, Nat.reduceAdd, Nat.reduceSub, Nat.reduceLeDiff, Nat.reduceEqDiff, Nat.reduceLT, reduceCtorEq, Aw.renR, Aw.pos] <;> rfl)
    simp (config := { maxSteps := 2000000 }) only [go_sem, ↓reduceIte, Int.reduceToNat, Nat.reduceMul, Int.reduceBEq, Int.reduceBNe, Nat.reduceBEq, Nat.reduceAdd, Nat.reduceSub, Nat.reduceLeDiff, Nat.reduceEqDiff, Nat.reduceLT, reduceCtorEq]
    (refine AWpL.calle (s57 (addQ q (ratIn (txtR rs[i]))) (hqa.mono (by decide))) rfl (by rw [hn]; rfl) (by simp (config := { maxSteps := 2000000 }) only [go_sem, ↓reduceIte, Int.reduceToNat, Nat.reduceMul, Int.reduceBEq, Int.reduceBNe, Nat.reduceBEq, Nat.reduceAdd, Nat.reduceSub, Nat.reduceLeDiff, Nat.reduceEqDiff, Nat.reduceLT, reduceCtorEq]) (AWpL.ofM hn rfl ?_); simp (config := { maxSteps := 2000000 }) only [go_sem, ↓reduceIte, Int.reduceToNat, Nat.reduceMul, Int.reduceBEq, Int.reduceBNe, Nat.reduceBEq, Nat.reduceAdd, Nat.reduceSub, Nat.reduceLeDiff, Nat.reduceEqDiff, Nat.reduceLT, reduceCtorEq])
    rw [hfa]
    refine ⟨fun h => absurd h (by simp), fun h => ?_⟩
    simp (config := { maxSteps := 2000000 }) only [go_sem, ↓reduceIte, Int.reduceToNat, Nat.reduceMul, Int.reduceBEq, Int.reduceBNe, Nat.reduceBEq, Nat.reduceAdd, Nat.reduceSub, Nat.reduceLeDiff, Nat.reduceEqDiff, Nat.reduceLT, reduceCtorEq, d2]
    exact ⟨k - 1, by omega, i + 1, _, by omega, hca, hqa, hra, weak_to [0] hp hnp rfl (by simp (config := { maxSteps := 2000000 }) only [go_sem, ↓reduceIte, Int.reduceToNat, Nat.reduceMul, Int.reduceBEq, Int.reduceBNe, Nat.reduceBEq, Nat.reduceAdd, Nat.reduceSub, Nat.reduceLeDiff, Nat.reduceEqDiff, Nat.reduceLT, reduceCtorEq, Aw.pos, d2] <;> rfl) (by simp (config := { maxSteps := 2000000 }) only [go_sem, ↓reduceIte, Int.reduceToNat, Nat.reduceMul, Int.reduceBEq, Int.reduceBNe, Nat.reduceBEq, Nat.reduceAdd, Nat.reduceSub, Nat.reduceLeDiff, Nat.reduceEqDiff, Nat.reduceLT, reduceCtorEq, Aw.renR, Aw.pos] <;> rfl)⟩
  have d0 : decide ((i : Int) < (rs.length : Int)) = false := decide_eq_false (by omega)
  rw [List.take_of_length_le hge] at hq
  simp (config := { maxSteps := 2000000 }) only [go_sem, ↓reduceIte, Int.reduceToNat, Nat.reduceMul, Int.reduceBEq, Int.reduceBNe, Nat.reduceBEq, Nat.reduceAdd, Nat.reduceSub, Nat.reduceLeDiff, Nat.reduceEqDiff, Nat.reduceLT, reduceCtorEq, d0]
  refine AWpL.calle (s49 q (hqb.mono (by decide))) rfl (by rw [hn]; rfl) (by simp (config := { maxSteps := 2000000 }) only [go_sem, ↓reduceIte, Int.reduceToNat, Nat.reduceMul, Int.reduceBEq, Int.reduceBNe, Nat.reduceBEq, Nat.reduceAdd, Nat.reduceSub, Nat.reduceLeDiff, Nat.reduceEqDiff, Nat.reduceLT, reduceCtorEq]) (AWpL.ofM hn rfl ?_)
  have hfq : fitsQ q = 0 := by
    rw [hc.fits, hq]
    have := hp' rs.length (Nat.le_refl _)
    rwa [List.take_of_length_le (Nat.le_refl _)] at this
  rw [hfq, if_neg (by simp), hc.out, hq]
  simp (config := { maxSteps := 2000000 }) only [go_sem, ↓reduceIte, Int.reduceToNat, Nat.reduceMul, Int.reduceBEq, Int.reduceBNe, Nat.reduceBEq, Nat.reduceAdd, Nat.reduceSub, Nat.reduceLeDiff, Nat.reduceEqDiff, Nat.reduceLT, reduceCtorEq]
  refine Retn.ret (π := []) hp hnp ⟨rfl, ?_⟩
  simp (config := { maxSteps := 2000000 }) only [go_sem, ↓reduceIte, Int.reduceToNat, Nat.reduceMul, Int.reduceBEq, Int.reduceBNe, Nat.reduceBEq, Nat.reduceAdd, Nat.reduceSub, Nat.reduceLeDiff, Nat.reduceEqDiff, Nat.reduceLT, reduceCtorEq, Aw.renR, Aw.pos]
end Go.Proofs.YtjaakbkneeojnaaDoor
