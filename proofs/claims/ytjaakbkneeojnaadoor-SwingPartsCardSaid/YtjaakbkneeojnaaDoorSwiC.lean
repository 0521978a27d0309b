/- Swing: the laws of the steady frequency. -/
import Derived.Test.YtjaakbkneeojnaaDoorAwZl
import Derived.Test.YtjaakbkneeojnaaDoorSwiB
set_option linter.unusedVariables false
set_option linter.unusedSimpArgs false
namespace Go.Proofs.YtjaakbkneeojnaaDoor
open Go.Proofs.YtjaakbkneeojnaaDoor.Aw
attribute [local go_sem] Int.natCast_zero Int.natCast_one bne_self_eq_false beq_self_eq_true Bool.not_true Bool.not_false Option.isSome_none Option.isSome_some Aw.bkM_nil Option.getD_some Option.getD_none Nat.sub_zero Int.toNat_zero Aw.frzS Aw.frzT Aw.frzA Aw.frzL Aw.frzR Aw.frzO Aw.frzOL Aw.frzOT Aw.frzOR Aw.killS Aw.mapT Aw.mapR Aw.killM Aw.resAVs Aw.resAV Aw.quietOps Aw.wpP Aw.wpT Aw.wpS Aw.AOp.mild List.getElem?_cons_zero List.getElem?_cons_succ Bool.and_false Bool.and_self Bool.false_and Aw.opOb Aw.gdB Aw.Rnd Aw.subTm List.length_map Int.toNat_natCast and_self Aw.SeqC Aw.stops Aw.Ends Aw.looks Aw.renA Aw.renL Aw.renT Aw.renS Aw.wpO Aw.aop Aw.putTm Aw.St.ev Aw.St.put Aw.St.putO Aw.binAV Aw.intBin Aw.strBin Aw.pickAV Aw.optInt Aw.AV.strip Aw.AV.guard Aw.AV.cells Aw.gdOb Aw.AOp.opds Aw.AOp.still Aw.ptrCells Aw.St.reg Aw.fillAV Aw.fillOb Aw.elsOb Aw.splice Aw.firm Aw.cellish Aw.AV.shut Aw.shutAll Aw.Seq Aw.Blk Aw.retS_nil Aw.mapA Aw.mapL Aw.borA Aw.borOb Aw.allOb Aw.tupOf Aw.params Aw.Opd.of Array.toList Value.cells List.map_cons List.map_nil List.getD_cons_zero List.getD_cons_succ List.getD_nil List.length_cons List.length_nil List.take_succ_cons List.take_zero List.take_nil List.drop_zero List.drop_succ_cons List.drop_nil List.set_cons_zero List.set_cons_succ List.append_nil List.nil_append List.cons_append List.all_cons List.all_nil cond_false cond_true if_true if_false true_and and_true Bool.and_true Bool.true_and Option.map_some Option.map_none false_implies forall_const implies_true forall_eq imp_self Bool.cond_false_right Bool.cond_true_left beq_true beq_false Bool.not_eq_true' Bool.false_eq_true Nat.zero_add Nat.add_zero Aw.eqCells Aw.stopDraw Aw.skipS Aw.exactCap Aw.revealS Aw.srcEls Aw.srcSz
attribute [local go_sem ↓] Aw.look_nil Aw.look_ite Aw.wpL_nil Aw.wpL_op Aw.wpL_gd Aw.wpQ_nil Aw.wpQ_op Aw.wpQ_gd Aw.wpC_draw Aw.wpC_reg Aw.wpC_skip Aw.wpC_ret Aw.wpC_exit Aw.wpC_seq Aw.wpC_block Aw.wpC_loop Aw.wpC_cond Aw.stopAt_nil Aw.stopAt_cons Aw.wpD_skip Aw.wpD_ret Aw.wpD_exit Aw.wpD_region Aw.wpD_draw Aw.wpM_nil Aw.wpM_op Aw.wpM_gd Aw.wpD_seq Aw.wpD_block Aw.wpD_loop Aw.wpD_cond
/- gridhall/gridhallkeep4.SwingSteady -/
def a4 : ACode :=
  (.seq (.region false [] [
     ⟨(some 1), none, (.box 24 (.t 0))⟩,
     ⟨(some 2), none, (.mov (.v (.bool false)))⟩])
  (.seq (.region false [] [
     ⟨(some 8), none, (.load 5 true (.t 1))⟩,
     ⟨(some 9), none, (.call 17 [(.t 8)])⟩,
     ⟨(some 7), none, (.mov (.t 9))⟩,
     ⟨(some 10), none, (.ext 0 (.t 7))⟩,
     ⟨(some 11), none, (.ext 1 (.t 7))⟩,
     ⟨(some 3), none, (.mov (.t 10))⟩,
     ⟨(some 4), none, (.mov (.t 11))⟩])
  (.seq (.seq (.region false [] [
     ⟨(some 12), none, (.mov (.t 4))⟩,
     ⟨(some 13), none, (.bin .neq 25 (.t 12) (.v (.int .i64 0)))⟩])
  (.cond (.t 13)
    (.seq (.region false [] [
       ⟨(some 14), none, (.call 13 [])⟩,
       ⟨(some 15), none, (.mov (.t 14))⟩,
       ⟨(some 16), (some (15, true)), (.mov (.t 3))⟩,
       ⟨(some 17), (some (15, true)), (.bin .eql 22 (.t 16) (.v (.string ⟨#[]⟩)))⟩,
       ⟨(some 18), none, (.pick (.t 15) (.t 17) (.v (.bool false)))⟩,
       ⟨(some 19), none, (.mov (.t 18))⟩,
       ⟨(some 20), (some (19, true)), (.mov (.t 4))⟩,
       ⟨(some 21), (some (19, true)), (.bin .eql 25 (.t 20) (.v (.int .i64 10)))⟩,
       ⟨(some 22), (some (19, true)), (.mov (.t 21))⟩,
       ⟨(some 23), (some (22, false)), (.mov (.t 4))⟩,
       ⟨(some 24), (some (22, false)), (.load 5 true (.t 1))⟩,
       ⟨(some 25), (some (22, false)), (.call 18 [(.t 24)])⟩,
       ⟨(some 26), (some (22, false)), (.bin .eql 25 (.t 23) (.t 25))⟩,
       ⟨(some 27), (some (19, true)), (.pick (.t 22) (.v (.bool true)) (.t 26))⟩,
       ⟨(some 28), none, (.pick (.t 19) (.t 27) (.v (.bool false)))⟩,
       ⟨(some 2), none, (.mov (.t 28))⟩])
    .ret)
    .skip))
  (.seq (.region false [] [
     ⟨(some 29), none, (.mov (.t 3))⟩,
     ⟨(some 30), none, (.fld 4 (.t 1))⟩,
     ⟨none, none, (.store 1 (.t 30) (.t 29))⟩])
  (.seq (.region false [] [
     ⟨(some 32), none, (.load 5 true (.t 1))⟩,
     ⟨(some 33), none, (.call 12 [(.t 32)])⟩,
     ⟨(some 31), none, (.mov (.t 33))⟩,
     ⟨(some 34), none, (.ext 0 (.t 31))⟩,
     ⟨(some 35), none, (.ext 1 (.t 31))⟩,
     ⟨(some 5), none, (.alloc 24 (.agg #[(.int .i64 0), (.int .i64 0), (.int .i64 0), (.int .i64 0), (.string ⟨#[]⟩)]))⟩,
     ⟨none, none, (.store 5 (.t 5) (.t 34))⟩,
     ⟨(some 6), none, (.mov (.t 35))⟩])
  (.seq (.region false [] [
     ⟨(some 36), none, (.call 13 [])⟩,
     ⟨(some 37), none, (.mov (.t 36))⟩,
     ⟨(some 38), (some (37, true)), (.mov (.t 6))⟩,
     ⟨(some 39), (some (37, true)), (.bin .eql 25 (.t 38) (.v (.int .i64 0)))⟩,
     ⟨(some 40), none, (.pick (.t 37) (.t 39) (.v (.bool false)))⟩,
     ⟨(some 41), none, (.mov (.t 40))⟩,
     ⟨(some 42), (some (41, true)), (.load 5 true (.t 5))⟩,
     ⟨(some 43), (some (41, true)), (.load 5 true (.t 1))⟩,
     ⟨(some 44), (some (41, true)), (.aeq false [.i, .i, .i, .i, .s] (.t 42) (.t 43))⟩,
     ⟨(some 45), none, (.pick (.t 41) (.t 44) (.v (.bool false)))⟩,
     ⟨(some 2), none, (.mov (.t 45))⟩])
  .ret))))))
theorem k4 : FnIs Tryd.prog 4 46 [.t 2] a4 := ⟨_, _, Tryd.func4, rfl, by kernel_rfl, by kernel_rfl, rfl⟩
/- gridhall/gridhallkeep4.SwingNearer -/
def a5 : ACode :=
  (.seq (.region false [] [
     ⟨(some 1), none, (.box 24 (.t 0))⟩,
     ⟨(some 2), none, (.mov (.v (.bool false)))⟩])
  (.seq (.region false [] [
     ⟨(some 16), none, (.load 5 true (.t 1))⟩,
     ⟨(some 17), none, (.call 17 [(.t 16)])⟩,
     ⟨(some 15), none, (.mov (.t 17))⟩,
     ⟨(some 18), none, (.ext 0 (.t 15))⟩,
     ⟨(some 19), none, (.ext 1 (.t 15))⟩,
     ⟨(some 3), none, (.mov (.t 18))⟩,
     ⟨(some 4), none, (.mov (.t 19))⟩])
  (.seq (.region false [] [
     ⟨(some 21), none, (.load 5 true (.t 1))⟩,
     ⟨(some 22), none, (.call 12 [(.t 21)])⟩,
     ⟨(some 20), none, (.mov (.t 22))⟩,
     ⟨(some 23), none, (.ext 0 (.t 20))⟩,
     ⟨(some 24), none, (.ext 1 (.t 20))⟩,
     ⟨(some 5), none, (.alloc 24 (.agg #[(.int .i64 0), (.int .i64 0), (.int .i64 0), (.int .i64 0), (.string ⟨#[]⟩)]))⟩,
     ⟨none, none, (.store 5 (.t 5) (.t 23))⟩,
     ⟨(some 6), none, (.mov (.t 24))⟩])
  (.seq (.seq (.region false [] [
     ⟨(some 25), none, (.mov (.t 4))⟩,
     ⟨(some 26), none, (.bin .neq 25 (.t 25) (.v (.int .i64 0)))⟩,
     ⟨(some 27), none, (.mov (.t 26))⟩,
     ⟨(some 28), (some (27, false)), (.mov (.t 6))⟩,
     ⟨(some 29), (some (27, false)), (.bin .neq 25 (.t 28) (.v (.int .i64 0)))⟩,
     ⟨(some 30), none, (.pick (.t 27) (.v (.bool true)) (.t 29))⟩])
  (.cond (.t 30)
    (.seq (.region false [] [
       ⟨(some 31), none, (.call 13 [])⟩,
       ⟨(some 2), none, (.mov (.t 31))⟩])
    .ret)
    .skip))
  (.seq (.region false [] [
     ⟨(some 33), none, (.fld 4 (.t 1))⟩,
     ⟨(some 34), none, (.load 1 false (.t 33))⟩,
     ⟨(some 35), none, (.mov (.t 3))⟩,
     ⟨(some 36), none, (.call 19 [(.t 34), (.t 35)])⟩,
     ⟨(some 32), none, (.mov (.t 36))⟩,
     ⟨(some 37), none, (.ext 0 (.t 32))⟩,
     ⟨(some 38), none, (.ext 1 (.t 32))⟩,
     ⟨(some 7), none, (.mov (.t 37))⟩,
     ⟨(some 8), none, (.mov (.t 38))⟩])
  (.seq (.region false [] [
     ⟨(some 40), none, (.fld 4 (.t 5))⟩,
     ⟨(some 41), none, (.load 1 false (.t 40))⟩,
     ⟨(some 42), none, (.mov (.t 3))⟩,
     ⟨(some 43), none, (.call 19 [(.t 41), (.t 42)])⟩,
     ⟨(some 39), none, (.mov (.t 43))⟩,
     ⟨(some 44), none, (.ext 0 (.t 39))⟩,
     ⟨(some 45), none, (.ext 1 (.t 39))⟩,
     ⟨(some 9), none, (.mov (.t 44))⟩,
     ⟨(some 10), none, (.mov (.t 45))⟩])
  (.seq (.region false [] [
     ⟨(some 47), none, (.fld 0 (.t 1))⟩,
     ⟨(some 48), none, (.load 1 false (.t 47))⟩,
     ⟨(some 49), none, (.fld 1 (.t 1))⟩,
     ⟨(some 50), none, (.load 1 false (.t 49))⟩,
     ⟨(some 51), none, (.bin .sub 3 (.t 48) (.t 50))⟩,
     ⟨(some 52), none, (.fld 0 (.t 1))⟩,
     ⟨(some 53), none, (.load 1 false (.t 52))⟩,
     ⟨(some 54), none, (.call 20 [(.t 51), (.t 53)])⟩,
     ⟨(some 46), none, (.mov (.t 54))⟩,
     ⟨(some 55), none, (.ext 0 (.t 46))⟩,
     ⟨(some 56), none, (.ext 1 (.t 46))⟩,
     ⟨(some 11), none, (.mov (.t 55))⟩,
     ⟨(some 12), none, (.mov (.t 56))⟩])
  (.seq (.region false [] [
     ⟨(some 58), none, (.mov (.t 7))⟩,
     ⟨(some 59), none, (.mov (.t 11))⟩,
     ⟨(some 60), none, (.call 21 [(.t 58), (.t 59)])⟩,
     ⟨(some 57), none, (.mov (.t 60))⟩,
     ⟨(some 61), none, (.ext 0 (.t 57))⟩,
     ⟨(some 62), none, (.ext 1 (.t 57))⟩,
     ⟨(some 13), none, (.mov (.t 61))⟩,
     ⟨(some 14), none, (.mov (.t 62))⟩])
  (.seq (.seq (.region false [] [
     ⟨(some 63), none, (.mov (.t 8))⟩,
     ⟨(some 64), none, (.bin .neq 25 (.t 63) (.v (.int .i64 0)))⟩,
     ⟨(some 65), none, (.mov (.t 64))⟩,
     ⟨(some 66), (some (65, false)), (.mov (.t 10))⟩,
     ⟨(some 67), (some (65, false)), (.bin .neq 25 (.t 66) (.v (.int .i64 0)))⟩,
     ⟨(some 68), none, (.pick (.t 65) (.v (.bool true)) (.t 67))⟩,
     ⟨(some 69), none, (.mov (.t 68))⟩,
     ⟨(some 70), (some (69, false)), (.mov (.t 12))⟩,
     ⟨(some 71), (some (69, false)), (.bin .neq 25 (.t 70) (.v (.int .i64 0)))⟩,
     ⟨(some 72), none, (.pick (.t 69) (.v (.bool true)) (.t 71))⟩,
     ⟨(some 73), none, (.mov (.t 72))⟩,
     ⟨(some 74), (some (73, false)), (.mov (.t 14))⟩,
     ⟨(some 75), (some (73, false)), (.bin .neq 25 (.t 74) (.v (.int .i64 0)))⟩,
     ⟨(some 76), none, (.pick (.t 73) (.v (.bool true)) (.t 75))⟩])
  (.cond (.t 76)
    (.seq (.region false [] [
       ⟨(some 77), none, (.call 13 [])⟩,
       ⟨(some 2), none, (.mov (.t 77))⟩])
    .ret)
    .skip))
  (.seq (.region false [] [
     ⟨(some 78), none, (.call 13 [])⟩,
     ⟨(some 79), none, (.mov (.t 78))⟩,
     ⟨(some 80), (some (79, true)), (.mov (.t 9))⟩,
     ⟨(some 81), (some (79, true)), (.mov (.t 13))⟩,
     ⟨(some 82), (some (79, true)), (.bin .eql 22 (.t 80) (.t 81))⟩,
     ⟨(some 83), none, (.pick (.t 79) (.t 82) (.v (.bool false)))⟩,
     ⟨(some 2), none, (.mov (.t 83))⟩])
  .ret))))))))))
theorem k5 : FnIs Tryd.prog 5 84 [.t 2] a5 := ⟨_, _, Tryd.func5, rfl, by kernel_rfl, by kernel_rfl, rfl⟩

theorem small_fits {q : QQ} (hq : QB 200 q) (hc : Can q) : fitsR (rOf q) := by
  unfold fitsR
  rw [← hc.fits]
  unfold fitsQ
  have h1 := txt_len q.num
  have h2 := txt_len q.den
  rw [if_neg]
  rw [not_or]
  obtain ⟨g1, g2⟩ := hq
  exact ⟨by omega, by omega⟩
theorem of_fits {n d : Int} (hd : d ≠ 0) (hn : n.natAbs ≤ 9223372036854775808) (hd2 : d.natAbs ≤ 9223372036854775808) : fitsR ((n : Rat) / (d : Rat)) := by
  have h := ofQ_r n d
  unfold ofQ at h
  rw [if_neg hd, if_neg hd] at h
  have hc : Can (lowQ (decide (n < 0) != decide (d < 0)) n.natAbs d.natAbs) := low_can (by omega)
  have hb : QB 200 (lowQ (decide (n < 0) != decide (d < 0)) n.natAbs d.natAbs) := low_QB (Nat.le_trans (nl64 hn) (by decide)) (Nat.le_trans (nl64 hd2) (by decide))
  have hf := small_fits hb hc
  rw [hc.told, toldR_fits hf] at h
  exact told_fst (by rw [← h])
theorem cast_ne {n : Int} (h : n ≠ 0) : (n : Rat) ≠ 0 := fun h2 => h (by exact_mod_cast h2)
theorem steady_ok {x : Isl} (h : (steadyS x).2 = 0) : checkS x = 0 ∧ x.dam ≠ 0 ∧ fitsR (steadyR x) ∧ steadyS x = (txtR (steadyR x), 0) := by
  unfold steadyS at h ⊢
  split at h
  · rename_i h1; exact absurd h h1
  · rename_i h1
    split at h
    · cases h
    · rename_i h2
      have hf := told_fst h
      refine ⟨by omega, h2, hf, ?_⟩
      rw [if_neg h1, if_neg h2, toldR_fits hf]
theorem steady_bad {x : Isl} (h : (steadyS x).2 ≠ 0) : (steadyS x).1 = [] ∧ ((steadyS x).2 = 10 ∨ (steadyS x).2 = checkS x) := by
  unfold steadyS at h ⊢
  split
  · exact ⟨rfl, .inr rfl⟩
  · rename_i h1
    rw [if_neg h1] at h
    split
    · exact ⟨rfl, .inl rfl⟩
    · rename_i h2
      rw [if_neg h2] at h
      exfalso
      obtain ⟨⟨g1, g2, g3, g4, g5, g6, g7, g8⟩, hv⟩ := checkS_ok (x := x) (by omega)
      have hf : fitsR (steadyR x) := of_fits h2 (by omega) (by omega)
      rw [toldR_fits hf] at h
      exact h rfl
theorem steady_len (x : Isl) : (steadyS x).1.length ≤ 9223372036854775807 := by
  unfold steadyS
  split
  · exact Nat.zero_le _
  · split
    · exact Nat.zero_le _
    · exact told_len _
theorem withF_step {x : Isl} (r : Rat) : stepR (x.withF r) = stepR x := rfl
theorem s4 (x : Isl) (hx : Sz x) : Aw.Spec Tryd.prog 4 [] [ia x] (Gives (· = B true)) := by
  refine Spec.shut (Post := fun rg v => v = B true) ?_ fun rg v h => by subst h; exact ⟨rfl, rfl, rfl⟩
  refine Aw.Spec.regsW k4 rfl rfl fun E hn hnp hp => ?_
  unfold a4
  refine AWp.ofD [] [] hn mixed rfl ?_
  simp (config := { maxSteps := 2000000 }) only [go_sem, ↓reduceIte, Int.reduceToNat, Nat.reduceMul, Int.reduceBEq, Int.reduceBNe, Nat.reduceBEq, Nat.reduceAdd, Nat.reduceSub, Nat.reduceLeDiff, Nat.reduceEqDiff, Nat.reduceLT, reduceCtorEq]
  (refine AWpL.calle (s17 x hx) rfl (by rw [hn]; rfl) (by simp (config := { maxSteps := 2000000 }) only [go_sem, ↓reduceIte, Int.reduceToNat, Nat.reduceMul, Int.reduceBEq, Int.reduceBNe, Nat.reduceBEq, Nat.reduceAdd, Nat.reduceSub, Nat.reduceLeDiff, Nat.reduceEqDiff, Nat.reduceLT, reduceCtorEq]) (AWpL.ofM hn rfl ?_); simp (config := { maxSteps := 2000000 }) only [go_sem, ↓reduceIte, Int.reduceToNat, Nat.reduceMul, Int.reduceBEq, Int.reduceBNe, Nat.reduceBEq, Nat.reduceAdd, Nat.reduceSub, Nat.reduceLeDiff, Nat.reduceEqDiff, Nat.reduceLT, reduceCtorEq])
  refine ⟨fun h => ?_, fun h => ?_⟩
  · obtain ⟨h1, h2⟩ := steady_bad (x := x) (by simpa using h)
    rw [h1]
    (refine AWpL.calle (s13) rfl (by rw [hn]; rfl) (by simp (config := { maxSteps := 2000000 }) only [go_sem, ↓reduceIte, Int.reduceToNat, Nat.reduceMul, Int.reduceBEq, Int.reduceBNe, Nat.reduceBEq, Nat.reduceAdd, Nat.reduceSub, Nat.reduceLeDiff, Nat.reduceEqDiff, Nat.reduceLT, reduceCtorEq]) (AWpL.ofM hn rfl ?_); simp (config := { maxSteps := 2000000 }) only [go_sem, ↓reduceIte, Int.reduceToNat, Nat.reduceMul, Int.reduceBEq, Int.reduceBNe, Nat.reduceBEq, Nat.reduceAdd, Nat.reduceSub, Nat.reduceLeDiff, Nat.reduceEqDiff, Nat.reduceLT, reduceCtorEq])
    simp (config := { maxSteps := 2000000 }) only [go_sem, ↓reduceIte, Int.reduceToNat, Nat.reduceMul, Int.reduceBEq, Int.reduceBNe, Nat.reduceBEq, Nat.reduceAdd, Nat.reduceSub, Nat.reduceLeDiff, Nat.reduceEqDiff, Nat.reduceLT, reduceCtorEq, bA_toList, empty_toList]
    by_cases h3 : (steadyS x).2 = 10
    · have e1 : ((steadyS x).2 == 10) = true := by rw [h3]; rfl
      rw [e1]
      refine AWpL.skips hn 22 false 2 (by rfl) rfl (AWpL.weak (weak_ent 26 (y := .opt false (B false)) (by rfl) Ent.off) (AWpL.ofM hn rfl ?_))
      simp (config := { maxSteps := 2000000 }) only [go_sem, ↓reduceIte, Int.reduceToNat, Nat.reduceMul, Int.reduceBEq, Int.reduceBNe, Nat.reduceBEq, Nat.reduceAdd, Nat.reduceSub, Nat.reduceLeDiff, Nat.reduceEqDiff, Nat.reduceLT, reduceCtorEq]
      refine Retn.ret (π := []) hp hnp ⟨rfl, ?_⟩
      simp (config := { maxSteps := 2000000 }) only [go_sem, ↓reduceIte, Int.reduceToNat, Nat.reduceMul, Int.reduceBEq, Int.reduceBNe, Nat.reduceBEq, Nat.reduceAdd, Nat.reduceSub, Nat.reduceLeDiff, Nat.reduceEqDiff, Nat.reduceLT, reduceCtorEq]
    · have e1 : ((steadyS x).2 == 10) = false := by simpa using h3
      have h4 : (steadyS x).2 = checkS x := by omega
      rw [e1]
      refine AWpL.guardT (by rfl) (AWpL.weak (weak_opt 24 (by rfl)) ?_)
      refine AWpL.calle (s18 x hx) rfl (by rw [hn]; rfl) (by simp (config := { maxSteps := 2000000 }) only [go_sem, ↓reduceIte, Int.reduceToNat, Nat.reduceMul, Int.reduceBEq, Int.reduceBNe, Nat.reduceBEq, Nat.reduceAdd, Nat.reduceSub, Nat.reduceLeDiff, Nat.reduceEqDiff, Nat.reduceLT, reduceCtorEq]) (AWpL.ofM hn rfl ?_)
      rw [h4]
      simp (config := { maxSteps := 2000000 }) only [go_sem, ↓reduceIte, Int.reduceToNat, Nat.reduceMul, Int.reduceBEq, Int.reduceBNe, Nat.reduceBEq, Nat.reduceAdd, Nat.reduceSub, Nat.reduceLeDiff, Nat.reduceEqDiff, Nat.reduceLT, reduceCtorEq]
      refine Retn.ret (π := []) hp hnp ⟨rfl, ?_⟩
      simp (config := { maxSteps := 2000000 }) only [go_sem, ↓reduceIte, Int.reduceToNat, Nat.reduceMul, Int.reduceBEq, Int.reduceBNe, Nat.reduceBEq, Nat.reduceAdd, Nat.reduceSub, Nat.reduceLeDiff, Nat.reduceEqDiff, Nat.reduceLT, reduceCtorEq]
  obtain ⟨h1, h2, h3, h4⟩ := steady_ok (x := x) (by simpa using h)
  obtain ⟨hnum, hv⟩ := checkS_ok h1
  rw [h4]
  dsimp only
  have hst : stepR x (steadyR x) = steadyR x := by
    have g1 := cast_ne h2
    have g2 : (x.ine : Rat) ≠ 0 := cast_ne (by have := hnum.1; omega)
    unfold stepR excR steadyR
    generalize ((x.sup - x.dem : Int) : Rat) = D
    grind
  obtain ⟨k1, k2⟩ := withF_ok hnum h3
  have hS : stepS (x.withF (steadyR x)) = (x.withF (steadyR x), 0) := by
    unfold stepS
    rw [if_neg (by simp [k1]), k2, withF_step, hst, toldR_fits h3]
    rfl
  refine AWpL.calle (s12 (x.withF (steadyR x)) (txtR_len h3)) rfl (by rw [hn]; rfl) (by simp (config := { maxSteps := 2000000 }) only [go_sem, ↓reduceIte, Int.reduceToNat, Nat.reduceMul, Int.reduceBEq, Int.reduceBNe, Nat.reduceBEq, Nat.reduceAdd, Nat.reduceSub, Nat.reduceLeDiff, Nat.reduceEqDiff, Nat.reduceLT, reduceCtorEq]) (AWpL.ofM hn rfl ?_)
  rw [hS]
  simp (config := { maxSteps := 2000000 }) only [go_sem, ↓reduceIte, Int.reduceToNat, Nat.reduceMul, Int.reduceBEq, Int.reduceBNe, Nat.reduceBEq, Nat.reduceAdd, Nat.reduceSub, Nat.reduceLeDiff, Nat.reduceEqDiff, Nat.reduceLT, reduceCtorEq]
  (refine AWpL.calle (s13) rfl (by rw [hn]; rfl) (by simp (config := { maxSteps := 2000000 }) only [go_sem, ↓reduceIte, Int.reduceToNat, Nat.reduceMul, Int.reduceBEq, Int.reduceBNe, Nat.reduceBEq, Nat.reduceAdd, Nat.reduceSub, Nat.reduceLeDiff, Nat.reduceEqDiff, Nat.reduceLT, reduceCtorEq]) (AWpL.ofM hn rfl ?_); simp (config := { maxSteps := 2000000 }) only [go_sem, ↓reduceIte, Int.reduceToNat, Nat.reduceMul, Int.reduceBEq, Int.reduceBNe, Nat.reduceBEq, Nat.reduceAdd, Nat.reduceSub, Nat.reduceLeDiff, Nat.reduceEqDiff, Nat.reduceLT, reduceCtorEq])
  refine Retn.ret (π := []) hp hnp ⟨rfl, ?_⟩
  simp (config := { maxSteps := 2000000 }) only [go_sem, ↓reduceIte, Int.reduceToNat, Nat.reduceMul, Int.reduceBEq, Int.reduceBNe, Nat.reduceBEq, Nat.reduceAdd, Nat.reduceSub, Nat.reduceLeDiff, Nat.reduceEqDiff, Nat.reduceLT, reduceCtorEq]
  have e1 : (x.withF (steadyR x)).freq = txtR (steadyR x) := rfl
  have e2 : (x.withF (steadyR x)).ine = x.ine := rfl
  have e3 : (x.withF (steadyR x)).dam = x.dam := rfl
  have e4 : (x.withF (steadyR x)).sup = x.sup := rfl
  have e5 : (x.withF (steadyR x)).dem = x.dem := rfl
  rw [e1, e2, e3, e4, e5]
  simp only [beq_self_eq_true, Bool.and_true]
theorem s5 (x : Isl) (hx : Sz x) : Aw.Spec Tryd.prog 5 [] [ia x] (Gives (· = B true)) := by
  refine Spec.shut (Post := fun rg v => v = B true) ?_ fun rg v h => by subst h; exact ⟨rfl, rfl, rfl⟩
  refine Aw.Spec.regsW k5 rfl rfl fun E hn hnp hp => ?_
  unfold a5
  refine AWp.ofD [] [30, 76] hn mixed rfl ?_
  simp (config := { maxSteps := 2000000 }) only [go_sem, ↓reduceIte, Int.reduceToNat, Nat.reduceMul, Int.reduceBEq, Int.reduceBNe, Nat.reduceBEq, Nat.reduceAdd, Nat.reduceSub, Nat.reduceLeDiff, Nat.reduceEqDiff, Nat.reduceLT, reduceCtorEq]
  (refine AWpL.calle (s17 x hx) rfl (by rw [hn]; rfl) (by simp (config := { maxSteps := 2000000 }) only [go_sem, ↓reduceIte, Int.reduceToNat, Nat.reduceMul, Int.reduceBEq, Int.reduceBNe, Nat.reduceBEq, Nat.reduceAdd, Nat.reduceSub, Nat.reduceLeDiff, Nat.reduceEqDiff, Nat.reduceLT, reduceCtorEq]) (AWpL.ofM hn rfl ?_); simp (config := { maxSteps := 2000000 }) only [go_sem, ↓reduceIte, Int.reduceToNat, Nat.reduceMul, Int.reduceBEq, Int.reduceBNe, Nat.reduceBEq, Nat.reduceAdd, Nat.reduceSub, Nat.reduceLeDiff, Nat.reduceEqDiff, Nat.reduceLT, reduceCtorEq])
  (refine AWpL.calle (s12 x hx) rfl (by rw [hn]; rfl) (by simp (config := { maxSteps := 2000000 }) only [go_sem, ↓reduceIte, Int.reduceToNat, Nat.reduceMul, Int.reduceBEq, Int.reduceBNe, Nat.reduceBEq, Nat.reduceAdd, Nat.reduceSub, Nat.reduceLeDiff, Nat.reduceEqDiff, Nat.reduceLT, reduceCtorEq]) (AWpL.ofM hn rfl ?_); simp (config := { maxSteps := 2000000 }) only [go_sem, ↓reduceIte, Int.reduceToNat, Nat.reduceMul, Int.reduceBEq, Int.reduceBNe, Nat.reduceBEq, Nat.reduceAdd, Nat.reduceSub, Nat.reduceLeDiff, Nat.reduceEqDiff, Nat.reduceLT, reduceCtorEq])
  refine AWp.cond (by rfl) (fun h => ?_) (fun h => ?_)
  · refine AWp.ofD [] [] hn mixed rfl ?_
    simp (config := { maxSteps := 2000000 }) only [go_sem, ↓reduceIte, Int.reduceToNat, Nat.reduceMul, Int.reduceBEq, Int.reduceBNe, Nat.reduceBEq, Nat.reduceAdd, Nat.reduceSub, Nat.reduceLeDiff, Nat.reduceEqDiff, Nat.reduceLT, reduceCtorEq]
    (refine AWpL.calle (s13) rfl (by rw [hn]; rfl) (by simp (config := { maxSteps := 2000000 }) only [go_sem, ↓reduceIte, Int.reduceToNat, Nat.reduceMul, Int.reduceBEq, Int.reduceBNe, Nat.reduceBEq, Nat.reduceAdd, Nat.reduceSub, Nat.reduceLeDiff, Nat.reduceEqDiff, Nat.reduceLT, reduceCtorEq]) (AWpL.ofM hn rfl ?_); simp (config := { maxSteps := 2000000 }) only [go_sem, ↓reduceIte, Int.reduceToNat, Nat.reduceMul, Int.reduceBEq, Int.reduceBNe, Nat.reduceBEq, Nat.reduceAdd, Nat.reduceSub, Nat.reduceLeDiff, Nat.reduceEqDiff, Nat.reduceLT, reduceCtorEq])
    refine Retn.ret (π := []) hp hnp ⟨rfl, ?_⟩
    simp (config := { maxSteps := 2000000 }) only [go_sem, ↓reduceIte, Int.reduceToNat, Nat.reduceMul, Int.reduceBEq, Int.reduceBNe, Nat.reduceBEq, Nat.reduceAdd, Nat.reduceSub, Nat.reduceLeDiff, Nat.reduceEqDiff, Nat.reduceLT, reduceCtorEq]
  simp only [Bool.or_eq_false_iff, bne_eq_false_iff_eq] at h
  obtain ⟨h1, h2, h3, h4⟩ := steady_ok h.1
  obtain ⟨_, h5, h6⟩ := stepS_ok h.2
  obtain ⟨hnum, hv⟩ := checkS_ok h1
  obtain ⟨hf1, hf2⟩ := valid_txt hv
  have hxl := hx
  rw [h4, h6]
  refine AWp.ofD [] [] hn mixed rfl ?_
  simp (config := { maxSteps := 2000000 }) only [go_sem, ↓reduceIte, Int.reduceToNat, Nat.reduceMul, Int.reduceBEq, Int.reduceBNe, Nat.reduceBEq, Nat.reduceAdd, Nat.reduceSub, Nat.reduceLeDiff, Nat.reduceEqDiff, Nat.reduceLT, reduceCtorEq]
  refine AWpL.calle (s19 x.freq (txtR (steadyR x)) hx (txtR_len h3)) rfl (by rw [hn]; rfl) (by simp (config := { maxSteps := 2000000 }) only [go_sem, ↓reduceIte, Int.reduceToNat, Nat.reduceMul, Int.reduceBEq, Int.reduceBNe, Nat.reduceBEq, Nat.reduceAdd, Nat.reduceSub, Nat.reduceLeDiff, Nat.reduceEqDiff, Nat.reduceLT, reduceCtorEq]) (AWpL.ofM hn rfl ?_)
  simp (config := { maxSteps := 2000000 }) only [go_sem, ↓reduceIte, Int.reduceToNat, Nat.reduceMul, Int.reduceBEq, Int.reduceBNe, Nat.reduceBEq, Nat.reduceAdd, Nat.reduceSub, Nat.reduceLeDiff, Nat.reduceEqDiff, Nat.reduceLT, reduceCtorEq]
  refine AWpL.calle (s19 (x.withF (stepR x (inR x.freq))).freq (txtR (steadyR x)) (txtR_len h5) (txtR_len h3)) rfl (by rw [hn]; rfl) (by simp (config := { maxSteps := 2000000 }) only [go_sem, ↓reduceIte, Int.reduceToNat, Nat.reduceMul, Int.reduceBEq, Int.reduceBNe, Nat.reduceBEq, Nat.reduceAdd, Nat.reduceSub, Nat.reduceLeDiff, Nat.reduceEqDiff, Nat.reduceLT, reduceCtorEq]) (AWpL.ofM hn rfl ?_)
  obtain ⟨g1, g2, g3, g4, g5, g6, g7, g8⟩ := hnum
  have e1 : IntKind.i64.wrap (x.ine - x.dam) = x.ine - x.dam := w64 (by omega) (by omega)
  simp (config := { maxSteps := 2000000 }) only [go_sem, ↓reduceIte, Int.reduceToNat, Nat.reduceMul, Int.reduceBEq, Int.reduceBNe, Nat.reduceBEq, Nat.reduceAdd, Nat.reduceSub, Nat.reduceLeDiff, Nat.reduceEqDiff, Nat.reduceLT, reduceCtorEq, e1]
  (refine AWpL.calle (s20 (x.ine - x.dam) x.ine (by omega) (by omega) (by omega) (by omega)) rfl (by rw [hn]; rfl) (by simp (config := { maxSteps := 2000000 }) only [go_sem, ↓reduceIte, Int.reduceToNat, Nat.reduceMul, Int.reduceBEq, Int.reduceBNe, Nat.reduceBEq, Nat.reduceAdd, Nat.reduceSub, Nat.reduceLeDiff, Nat.reduceEqDiff, Nat.reduceLT, reduceCtorEq]) (AWpL.ofM hn rfl ?_); simp (config := { maxSteps := 2000000 }) only [go_sem, ↓reduceIte, Int.reduceToNat, Nat.reduceMul, Int.reduceBEq, Int.reduceBNe, Nat.reduceBEq, Nat.reduceAdd, Nat.reduceSub, Nat.reduceLeDiff, Nat.reduceEqDiff, Nat.reduceLT, reduceCtorEq])
  have hine : x.ine ≠ 0 := by omega
  have m1 : twoQ subQ x.freq (txtR (steadyR x)) = toldR (inR x.freq - steadyR x) := by
    rw [hf1, sub_txt hf2 h3, ← hf1]
  have m2 : twoQ subQ (x.withF (stepR x (inR x.freq))).freq (txtR (steadyR x)) = toldR (stepR x (inR x.freq) - steadyR x) := sub_txt h5 h3
  have m3 : ofQ (x.ine - x.dam) x.ine = toldR (((x.ine - x.dam : Int) : Rat) / (x.ine : Rat)) := by rw [ofQ_r, if_neg hine]
  rw [m1, m2, m3]
  have hid : (inR x.freq - steadyR x) * (((x.ine - x.dam : Int) : Rat) / (x.ine : Rat)) = stepR x (inR x.freq) - steadyR x := by
    have k1 := cast_ne h2
    have k2 := cast_ne hine
    unfold stepR excR steadyR
    rw [Rat.intCast_sub x.ine x.dam]
    generalize ((x.sup - x.dem : Int) : Rat) = D
    generalize inR x.freq = f
    generalize (x.ine : Rat) = N at *
    generalize (x.dam : Rat) = M at *
    grind
  generalize inR x.freq - steadyR x = A at *
  generalize stepR x (inR x.freq) - steadyR x = Bq at *
  generalize ((x.ine - x.dam : Int) : Rat) / (x.ine : Rat) = C at *
  (refine AWpL.calle (s21 (toldR A).1 (toldR C).1 (told_len A) (told_len C)) rfl (by rw [hn]; rfl) (by simp (config := { maxSteps := 2000000 }) only [go_sem, ↓reduceIte, Int.reduceToNat, Nat.reduceMul, Int.reduceBEq, Int.reduceBNe, Nat.reduceBEq, Nat.reduceAdd, Nat.reduceSub, Nat.reduceLeDiff, Nat.reduceEqDiff, Nat.reduceLT, reduceCtorEq]) (AWpL.ofM hn rfl ?_); simp (config := { maxSteps := 2000000 }) only [go_sem, ↓reduceIte, Int.reduceToNat, Nat.reduceMul, Int.reduceBEq, Int.reduceBNe, Nat.reduceBEq, Nat.reduceAdd, Nat.reduceSub, Nat.reduceLeDiff, Nat.reduceEqDiff, Nat.reduceLT, reduceCtorEq])
  refine AWp.cond (by rfl) (fun h6 => ?_) (fun h6 => ?_)
  · refine AWp.ofD [] [] hn mixed rfl ?_
    simp (config := { maxSteps := 2000000 }) only [go_sem, ↓reduceIte, Int.reduceToNat, Nat.reduceMul, Int.reduceBEq, Int.reduceBNe, Nat.reduceBEq, Nat.reduceAdd, Nat.reduceSub, Nat.reduceLeDiff, Nat.reduceEqDiff, Nat.reduceLT, reduceCtorEq]
    (refine AWpL.calle (s13) rfl (by rw [hn]; rfl) (by simp (config := { maxSteps := 2000000 }) only [go_sem, ↓reduceIte, Int.reduceToNat, Nat.reduceMul, Int.reduceBEq, Int.reduceBNe, Nat.reduceBEq, Nat.reduceAdd, Nat.reduceSub, Nat.reduceLeDiff, Nat.reduceEqDiff, Nat.reduceLT, reduceCtorEq]) (AWpL.ofM hn rfl ?_); simp (config := { maxSteps := 2000000 }) only [go_sem, ↓reduceIte, Int.reduceToNat, Nat.reduceMul, Int.reduceBEq, Int.reduceBNe, Nat.reduceBEq, Nat.reduceAdd, Nat.reduceSub, Nat.reduceLeDiff, Nat.reduceEqDiff, Nat.reduceLT, reduceCtorEq])
    refine Retn.ret (π := []) hp hnp ⟨rfl, ?_⟩
    simp (config := { maxSteps := 2000000 }) only [go_sem, ↓reduceIte, Int.reduceToNat, Nat.reduceMul, Int.reduceBEq, Int.reduceBNe, Nat.reduceBEq, Nat.reduceAdd, Nat.reduceSub, Nat.reduceLeDiff, Nat.reduceEqDiff, Nat.reduceLT, reduceCtorEq]
  · refine AWp.ofD [] [] hn mixed rfl ?_
    simp (config := { maxSteps := 2000000 }) only [go_sem, ↓reduceIte, Int.reduceToNat, Nat.reduceMul, Int.reduceBEq, Int.reduceBNe, Nat.reduceBEq, Nat.reduceAdd, Nat.reduceSub, Nat.reduceLeDiff, Nat.reduceEqDiff, Nat.reduceLT, reduceCtorEq]
    (refine AWpL.calle (s13) rfl (by rw [hn]; rfl) (by simp (config := { maxSteps := 2000000 }) only [go_sem, ↓reduceIte, Int.reduceToNat, Nat.reduceMul, Int.reduceBEq, Int.reduceBNe, Nat.reduceBEq, Nat.reduceAdd, Nat.reduceSub, Nat.reduceLeDiff, Nat.reduceEqDiff, Nat.reduceLT, reduceCtorEq]) (AWpL.ofM hn rfl ?_); simp (config := { maxSteps := 2000000 }) only [go_sem, ↓reduceIte, Int.reduceToNat, Nat.reduceMul, Int.reduceBEq, Int.reduceBNe, Nat.reduceBEq, Nat.reduceAdd, Nat.reduceSub, Nat.reduceLeDiff, Nat.reduceEqDiff, Nat.reduceLT, reduceCtorEq])
    simp only [Bool.or_eq_false_iff, bne_eq_false_iff_eq] at h6
    obtain ⟨⟨⟨i1, i2⟩, i3⟩, i4⟩ := h6
    have m4 : twoQ mulQ (toldR A).1 (toldR C).1 = toldR Bq := by
      rw [told_txt i1, told_txt i3, mul_txt (told_fst i1) (told_fst i3), hid]
    rw [m4]
    refine Retn.ret (π := []) hp hnp ⟨rfl, ?_⟩
    simp (config := { maxSteps := 2000000 }) only [go_sem, ↓reduceIte, Int.reduceToNat, Nat.reduceMul, Int.reduceBEq, Int.reduceBNe, Nat.reduceBEq, Nat.reduceAdd, Nat.reduceSub, Nat.reduceLeDiff, Nat.reduceEqDiff, Nat.reduceLT, reduceCtorEq]
end Go.Proofs.YtjaakbkneeojnaaDoor
