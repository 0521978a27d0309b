/- Archives: Between, All. -/
import Derived.Test.YtemgclhenkbikaaDoorAwZl
import Derived.Test.YtemgclhenkbikaaDoorArD
set_option linter.unusedVariables false
set_option linter.unusedSimpArgs false
namespace Go.Proofs.YtemgclhenkbikaaDoor
open Go.Proofs.YtemgclhenkbikaaDoor.Aw
attribute [local go_sem] Int.natCast_zero Int.natCast_one bne_self_eq_false beq_self_eq_true Bool.not_true Bool.not_false Option.isSome_none Option.isSome_some Aw.bkM_nil Option.getD_some Option.getD_none Nat.sub_zero Int.toNat_zero Aw.frzS Aw.frzT Aw.frzA Aw.frzL Aw.frzR Aw.frzO Aw.frzOL Aw.frzOT Aw.frzOR Aw.killS Aw.mapT Aw.mapR Aw.killM Aw.resAVs Aw.resAV Aw.quietOps Aw.wpP Aw.wpT Aw.wpS Aw.AOp.mild List.getElem?_cons_zero List.getElem?_cons_succ Bool.and_false Bool.and_self Bool.false_and Aw.opOb Aw.gdB Aw.Rnd Aw.subTm List.length_map Int.toNat_natCast and_self Aw.SeqC Aw.stops Aw.Ends Aw.looks Aw.renA Aw.renL Aw.renT Aw.renS Aw.wpO Aw.aop Aw.putTm Aw.St.ev Aw.St.put Aw.St.putO Aw.binAV Aw.intBin Aw.strBin Aw.pickAV Aw.optInt Aw.AV.strip Aw.AV.guard Aw.AV.cells Aw.gdOb Aw.AOp.opds Aw.AOp.still Aw.ptrCells Aw.St.reg Aw.fillAV Aw.fillOb Aw.elsOb Aw.splice Aw.firm Aw.cellish Aw.AV.shut Aw.shutAll Aw.Seq Aw.Blk Aw.retS_nil Aw.mapA Aw.mapL Aw.borA Aw.borOb Aw.allOb Aw.tupOf Aw.params Aw.Opd.of Array.toList Value.cells List.map_cons List.map_nil List.getD_cons_zero List.getD_cons_succ List.getD_nil List.length_cons List.length_nil List.take_succ_cons List.take_zero List.take_nil List.drop_zero List.drop_succ_cons List.drop_nil List.set_cons_zero List.set_cons_succ List.append_nil List.nil_append List.cons_append List.all_cons List.all_nil cond_false cond_true if_true if_false true_and and_true Bool.and_true Bool.true_and Option.map_some Option.map_none false_implies forall_const implies_true forall_eq imp_self Bool.cond_false_right Bool.cond_true_left beq_true beq_false Bool.not_eq_true' Bool.false_eq_true Nat.zero_add Nat.add_zero Aw.eqCells Aw.stopDraw Aw.skipS Aw.exactCap Aw.revealS Aw.srcEls Aw.srcSz
attribute [local go_sem ↓] Aw.look_nil Aw.look_ite Aw.wpL_nil Aw.wpL_op Aw.wpL_gd Aw.wpQ_nil Aw.wpQ_op Aw.wpQ_gd Aw.wpC_draw Aw.wpC_reg Aw.wpC_skip Aw.wpC_ret Aw.wpC_exit Aw.wpC_seq Aw.wpC_block Aw.wpC_loop Aw.wpC_cond Aw.stopAt_nil Aw.stopAt_cons Aw.wpD_skip Aw.wpD_ret Aw.wpD_exit Aw.wpD_region Aw.wpD_draw Aw.wpM_nil Aw.wpM_op Aw.wpM_gd Aw.wpD_seq Aw.wpD_block Aw.wpD_loop Aw.wpD_cond

/- slices.Clone[[]gridhall/api.Event,gridhall/api.Event] -/
def a25 : ACode :=
  (.seq (.region false [] [
     ⟨(some 2), none, (.mov (.v (.slice none 0 0)))⟩])
  (.seq (.seq (.region false [] [
     ⟨(some 3), none, (.mov (.t 0))⟩,
     ⟨(some 4), none, (.nilS false (.t 3))⟩])
  (.cond (.t 4)
    (.seq (.region false [] [
       ⟨(some 2), none, (.mov (.v (.slice none 0 0)))⟩])
    .ret)
    .skip))
  (.seq (.region false [] [
     ⟨(some 5), none, (.bsl 30 4 0 [])⟩,
     ⟨(some 6), none, (.mov (.t 0))⟩,
     ⟨(some 7), none, (.app 30 4 48 (.agg #[(.int .i64 0), (.string ⟨#[]⟩), (.string ⟨#[]⟩), (.int .i64 0)]) (.t 5) (.t 6))⟩,
     ⟨(some 2), none, (.mov (.t 7))⟩])
  .ret)))
theorem k25 : FnIs Tryd.prog 25 8 [.t 2] a25 := ⟨_, _, Tryd.func25, rfl, by kernel_rfl, by kernel_rfl, rfl⟩
/- (*gridhall/archive.Archive).Between -/
def a10 : ACode :=
  (.seq (.region false [] [
     ⟨(some 6), none, (.mov (.v (.slice none 0 0)))⟩])
  (.seq (.region false [] [
     ⟨(some 7), none, (.mov (.v (.slice none 0 0)))⟩])
  (.seq (.seq (.region false [] [
     ⟨(some 10), none, (.mov (.t 0))⟩,
     ⟨(some 11), none, (.nilc (.t 10))⟩,
     ⟨(some 12), none, (.fld 0 (.t 11))⟩,
     ⟨(some 13), none, (.load 1 false (.t 12))⟩,
     ⟨(some 14), none, (.len (.t 13))⟩,
     ⟨(some 15), none, (.mov (.v (.int .i64 0)))⟩])
  (.block 0 (.loop (.seq (.region false [] [
       ⟨(some 16), none, (.bin .lss 3 (.t 15) (.t 14))⟩])
    (.seq (.cond (.t 16)
      .skip
      (.exit 0))
    (.seq (.block 1 (.seq (.region false [] [
        ⟨(some 17), none, (.idx 4 (.t 13) (.t 15))⟩,
        ⟨(some 18), none, (.load 4 true (.t 17))⟩,
        ⟨(some 9), none, (.alloc 30 (.agg #[(.int .i64 0), (.string ⟨#[]⟩), (.string ⟨#[]⟩), (.int .i64 0)]))⟩,
        ⟨none, none, (.store 4 (.t 9) (.t 18))⟩])
     (.seq (.region false [] [
        ⟨(some 19), none, (.fld 0 (.t 9))⟩,
        ⟨(some 20), none, (.load 1 false (.t 19))⟩,
        ⟨(some 21), none, (.mov (.t 1))⟩,
        ⟨(some 22), none, (.bin .geq 3 (.t 20) (.t 21))⟩,
        ⟨(some 23), none, (.mov (.t 22))⟩,
        ⟨(some 24), (some (23, true)), (.fld 0 (.t 9))⟩,
        ⟨(some 25), (some (23, true)), (.load 1 false (.t 24))⟩,
        ⟨(some 26), (some (23, true)), (.mov (.t 2))⟩,
        ⟨(some 27), (some (23, true)), (.bin .lss 3 (.t 25) (.t 26))⟩,
        ⟨(some 28), none, (.pick (.t 23) (.t 27) (.v (.bool false)))⟩])
     (.cond (.t 28)
       (.region false [] [
          ⟨(some 29), none, (.mov (.t 7))⟩,
          ⟨(some 30), none, (.load 4 true (.t 9))⟩,
          ⟨(some 31), none, (.bsl 30 4 1 [(0, (.t 30))])⟩,
          ⟨(some 32), none, (.app 30 4 48 (.agg #[(.int .i64 0), (.string ⟨#[]⟩), (.string ⟨#[]⟩), (.int .i64 0)]) (.t 29) (.t 31))⟩,
          ⟨(some 7), none, (.mov (.t 32))⟩])
       .skip))))
    (.region false [] [
       ⟨(some 33), none, (.bin .add 3 (.t 15) (.v (.int .i64 1)))⟩,
       ⟨(some 15), none, (.mov (.t 33))⟩])))))))
  (.seq (.region false [] [
     ⟨(some 34), none, (.mov (.t 7))⟩,
     ⟨(some 6), none, (.mov (.t 34))⟩])
  .ret))))
theorem k10 : FnIs Tryd.prog 10 35 [.t 6] a10 := ⟨_, _, Tryd.func10, rfl, by kernel_rfl, by kernel_rfl, rfl⟩
/- (*gridhall/archive.Archive).All -/
def a13 : ACode :=
  (.seq (.region false [] [
     ⟨(some 2), none, (.mov (.v (.slice none 0 0)))⟩])
  (.seq (.region false [] [
     ⟨(some 3), none, (.mov (.t 0))⟩,
     ⟨(some 4), none, (.nilc (.t 3))⟩,
     ⟨(some 5), none, (.fld 0 (.t 4))⟩,
     ⟨(some 6), none, (.load 1 false (.t 5))⟩,
     ⟨(some 7), none, (.call 25 [(.t 6)])⟩,
     ⟨(some 2), none, (.mov (.t 7))⟩])
  .ret))
theorem k13 : FnIs Tryd.prog 13 8 [.t 2] a13 := ⟨_, _, Tryd.func13, rfl, by kernel_rfl, by kernel_rfl, rfl⟩

theorem s25 (nl full) (l : List (Ev)) (hl : l.length ≤ 1000000) : Aw.Spec Tryd.prog 25 [] [.imm nl full 4 (l.map ec)] (fun rg x => rg = [] ∧ x = .imm none false 4 (l.map ec)) := by
  refine Aw.Spec.nil1 fun b _ hb => ?_
  refine Aw.Spec.regsD k25 mixed rfl rfl rfl fun E hn hnp hp => ?_
  unfold a25
  simp (config := { maxSteps := 2000000 }) only [go_sem, ↓reduceIte, Int.reduceToNat, Nat.reduceMul, Int.reduceBEq, Int.reduceBNe, Nat.reduceBEq, Nat.reduceAdd, Nat.reduceSub, Nat.reduceLeDiff, Nat.reduceEqDiff, Nat.reduceLT, reduceCtorEq]
  refine ⟨fun h => ?_, fun h => ?_⟩
  · have hl0 : l = [] := by simpa using hb h
    subst hl0
    refine Retn.weak (weak_ent 2 (by rfl) (Ent.ofnil0 4)) _ (Retn.ret (π := []) hp hnp ⟨rfl, ?_⟩)
    simp (config := { maxSteps := 2000000 }) only [go_sem, ↓reduceIte, Int.reduceToNat, Nat.reduceMul, Int.reduceBEq, Int.reduceBNe, Nat.reduceBEq, Nat.reduceAdd, Nat.reduceSub, Nat.reduceLeDiff, Nat.reduceEqDiff, Nat.reduceLT, reduceCtorEq, Aw.resAVs, Aw.resAV]
    all_goals (try exact ⟨rfl, rfl⟩)
  · refine AWpL.app (r := 0) (els := []) rfl rfl rfl rfl (by rw [hn]; rfl) rfl (hp.none hnp (Nat.zero_le _)) trivial (fun el hm x hx => ?_) (by simp; omega) (by simp; omega) (AWpL.ofM hn rfl ?_)
    · obtain ⟨y, _, rfl⟩ := List.mem_map.1 hm
      simp only [List.mem_cons, List.not_mem_nil, or_false] at hx
      first | (subst hx; rfl) | (rcases hx with rfl | rfl; all_goals rfl) | (rcases hx with rfl | rfl | rfl; all_goals rfl) | (rcases hx with rfl | rfl | rfl | rfl; all_goals rfl) | (rcases hx with rfl | rfl | rfl | rfl | rfl; all_goals rfl) | (rcases hx with rfl | rfl | rfl | rfl | rfl | rfl; all_goals rfl)
    simp (config := { maxSteps := 2000000 }) only [go_sem, ↓reduceIte, Int.reduceToNat, Nat.reduceMul, Int.reduceBEq, Int.reduceBNe, Nat.reduceBEq, Nat.reduceAdd, Nat.reduceSub, Nat.reduceLeDiff, Nat.reduceEqDiff, Nat.reduceLT, reduceCtorEq, Aw.killS, Aw.mapT, Aw.mapR, Aw.killM]
    refine Retn.weak (weak_freeze 0 rfl (hp.none hnp (Nat.zero_le _)) ?_) _ ?_
    · simp (config := { maxSteps := 2000000 }) only [go_sem, ↓reduceIte, Int.reduceToNat, Nat.reduceMul, Int.reduceBEq, Int.reduceBNe, Nat.reduceBEq, Nat.reduceAdd, Nat.reduceSub, Nat.reduceLeDiff, Nat.reduceEqDiff, Nat.reduceLT, reduceCtorEq, Nat.le_refl]
    refine Retn.weak (weak_ent 2 (by rfl) (Ent.plain _ _ _ _)) _ (Retn.ret (π := []) hp hnp ⟨rfl, ?_⟩)
    simp (config := { maxSteps := 2000000 }) only [go_sem, ↓reduceIte, Int.reduceToNat, Nat.reduceMul, Int.reduceBEq, Int.reduceBNe, Nat.reduceBEq, Nat.reduceAdd, Nat.reduceSub, Nat.reduceLeDiff, Nat.reduceEqDiff, Nat.reduceLT, reduceCtorEq]
    first | (exact ⟨rfl, by rw [List.take_of_length_le (by simp)]⟩) | (rw [List.take_of_length_le (by simp)])

theorem take_len {α : Type} (l : List α) {i : Nat} (h : i ≤ l.length) : (l.take i).length = i := by rw [List.length_take]; omega
def betP (f t : Int) (e : Ev) : Bool := decide (e.time ≥ f) && decide (e.time < t)
def betL (a : Ar) (f t : Int) : List Ev := a.list.filter (betP f t)
set_option maxRecDepth 20000 in
theorem s10 (a : Ar) (f t : Int) (ha : a.list.length ≤ 1000) : Aw.Spec Tryd.prog 10 (arR a) [.ptr 0 0 0, I f, I t] (fun rg v => rg = arR a ∧ v = .imm none false 4 ((betL a f t).map ec)) := by
  refine Aw.Spec.regs (np := 2) k10 mixed rfl rfl rfl fun E hn hnp hp => ?_
  unfold a10 arR
  have pin2 := hp.none hnp (Nat.le_refl 2)
  simp (config := { maxSteps := 2000000 }) only [go_sem, ↓reduceIte, Int.reduceToNat, Nat.reduceMul, Int.reduceBEq, Int.reduceBNe, Nat.reduceBEq, Nat.reduceAdd, Nat.reduceSub, Nat.reduceLeDiff, Nat.reduceEqDiff, Nat.reduceLT, reduceCtorEq]
  refine AWp.weak (weak_nil 7 30 4 rfl) ?_
  simp (config := { maxSteps := 2000000 }) only [go_sem, ↓reduceIte, Int.reduceToNat, Nat.reduceMul, Int.reduceBEq, Int.reduceBNe, Nat.reduceBEq, Nat.reduceAdd, Nat.reduceSub, Nat.reduceLeDiff, Nat.reduceEqDiff, Nat.reduceLT, reduceCtorEq]
  refine AWp.loop (fun k s => ∃ (i : Nat) (m : Nat), i + k = a.list.length ∧ m = ((a.list.take i).filter (betP f t)).length ∧
      Weak E s ⟨[(1, I f), (2, I t), (7, .hnd 2 0 m m false), (13, .hnd 1 0 a.list.length a.list.length false), (14, I a.list.length), (15, I i)], [.box 51 [.hnd 1 0 a.list.length a.list.length false, S a.text, .val (.int .u64 a.dig)], .arr 30 4 (a.list.map ec), .arr 30 4 (((a.list.take i).filter (betP f t)).map ec)]⟩) (n := a.list.length)
    ⟨0, 0, by omega, rfl, weak_to [0, 1, 2] hp hnp rfl (by simp (config := { maxSteps := 2000000 }) only [go_sem, ↓reduceIte, Int.reduceToNat, Nat.reduceMul, Int.reduceBEq, Int.reduceBNe, Nat.reduceBEq, Nat.reduceAdd, Nat.reduceSub, Nat.reduceLeDiff, Nat.reduceEqDiff, Nat.reduceLT, reduceCtorEq, Aw.pos] <;> rfl) (by simp (config := { maxSteps := 2000000 }) only [go_sem, ↓reduceIte, Int.reduceToNat, Nat.reduceMul, Int.reduceBEq, Int.reduceBNe, Nat.reduceBEq, Nat.reduceAdd, Nat.reduceSub, Nat.reduceLeDiff, Nat.reduceEqDiff, Nat.reduceLT, reduceCtorEq, Aw.renR, Aw.pos] <;> rfl)⟩ ?_
  rintro k s ⟨i, m, hik, hm, hw⟩
  refine AWp.weak hw (AWp.ofD [] [] hn mixed rfl ?_)
  rcases Nat.lt_or_ge i a.list.length with hlt | hge
  · have e0 : decide ((i : Int) < (a.list.length : Int)) = true := decide_eq_true (by omega)
    have e1 := getD_map ec hlt
    have e2 : IntKind.i64.wrap ((i : Int) + 1) = ((i + 1 : Nat) : Int) := by rw [w64 (by omega) (by omega)]; rfl
    have hs := take_get hlt
    have hml : m ≤ i := by
      rw [hm]
      exact Nat.le_trans (List.length_filter_le _ _) (by rw [take_len a.list (by omega)]; exact Nat.le_refl _)
    simp (config := { maxSteps := 2000000 }) only [go_sem, ↓reduceIte, Int.reduceToNat, Nat.reduceMul, Int.reduceBEq, Int.reduceBNe, Nat.reduceBEq, Nat.reduceAdd, Nat.reduceSub, Nat.reduceLeDiff, Nat.reduceEqDiff, Nat.reduceLT, reduceCtorEq, e0, e1]
    (repeat (refine And.intro (by first | omega | (refine ⟨by omega, by omega⟩) | (refine ⟨by omega, by omega, by omega⟩) | (simp only [List.length_map, List.length_range, List.length_append, List.length_cons, List.length_nil, List.length_replicate, List.length_set]; omega) | (simp; omega) | (intro hgd; cases hgd) | (intro hgd; refine ⟨hgd, ?_⟩; first | omega | (refine ⟨by omega, by omega⟩) | (simp; omega))) ?_))
    have hfl : (a.list.take (i + 1)).filter (betP f t) = (a.list.take i).filter (betP f t) ++ if betP f t a.list[i] = true then [a.list[i]] else [] := by
      rw [hs, List.filter_append]
      congr 1
      cases hq : betP f t a.list[i] with
      | true => rw [if_pos rfl, List.filter_cons_of_pos hq]; rfl
      | false => rw [if_neg Bool.false_ne_true, List.filter_cons_of_neg (by simp [hq])]; rfl
    generalize (a.list.take i).filter (betP f t) = L at *
    generalize hL' : (a.list.take (i + 1)).filter (betP f t) = L' at *
    have hq : betP f t a.list[i] = (decide (a.list[i].time ≥ f) && decide (a.list[i].time < t)) := rfl
    rw [← hq]
    refine ⟨fun h => ?_, fun h => ?_⟩
    · rw [if_pos h] at hfl
      have hap : L.map ec ++ [ec a.list[i]] = L'.map ec := by rw [hfl, List.map_append]; rfl
      have hml2 : m + 1 = L'.length := by rw [hfl, List.length_append, hm]; rfl
      refine AWpL.app (r := 2) (els := L.map ec) (ys := [ec a.list[i]]) rfl rfl rfl rfl (by rw [hn]; rfl) (by rw [List.length_map, hm]) pin2 (by simp (config := { maxSteps := 2000000 }) only [go_sem, ↓reduceIte, Int.reduceToNat, Nat.reduceMul, Int.reduceBEq, Int.reduceBNe, Nat.reduceBEq, Nat.reduceAdd, Nat.reduceSub, Nat.reduceLeDiff, Nat.reduceEqDiff, Nat.reduceLT, reduceCtorEq, Nat.le_refl]) (fun el hm y hy => by
        rw [List.mem_singleton.1 hm] at hy
        simp only [List.mem_cons, List.not_mem_nil, or_false] at hy
        rcases hy with rfl | rfl | rfl | rfl <;> rfl) (by simp only [List.length_cons, List.length_nil]; omega) (by simp only [List.length_cons, List.length_nil]; omega) (AWpL.ofM hn rfl ?_)
      simp (config := { maxSteps := 2000000 }) only [go_sem, ↓reduceIte, Int.reduceToNat, Nat.reduceMul, Int.reduceBEq, Int.reduceBNe, Nat.reduceBEq, Nat.reduceAdd, Nat.reduceSub, Nat.reduceLeDiff, Nat.reduceEqDiff, Nat.reduceLT, reduceCtorEq, hap, e2]
      exact ⟨k - 1, by omega, i + 1, m + 1, by omega, by rw [hL']; exact hml2, weak_to [0, 1, 2] hp hnp rfl (by simp (config := { maxSteps := 2000000 }) only [go_sem, ↓reduceIte, Int.reduceToNat, Nat.reduceMul, Int.reduceBEq, Int.reduceBNe, Nat.reduceBEq, Nat.reduceAdd, Nat.reduceSub, Nat.reduceLeDiff, Nat.reduceEqDiff, Nat.reduceLT, reduceCtorEq, Aw.pos, e2] <;> rfl) (by rw [hL']; simp (config := { maxSteps := 2000000 }) only [go_sem, ↓reduceIte, Int.reduceToNat, Nat.reduceMul, Int.reduceBEq, Int.reduceBNe, Nat.reduceBEq, Nat.reduceAdd, Nat.reduceSub, Nat.reduceLeDiff, Nat.reduceEqDiff, Nat.reduceLT, reduceCtorEq, Aw.renR, Aw.pos] <;> rfl)⟩
    · rw [if_neg (by rw [h]; decide), List.append_nil] at hfl
      rw [← hfl] at hm
      rw [← hfl]
      simp (config := { maxSteps := 2000000 }) only [go_sem, ↓reduceIte, Int.reduceToNat, Nat.reduceMul, Int.reduceBEq, Int.reduceBNe, Nat.reduceBEq, Nat.reduceAdd, Nat.reduceSub, Nat.reduceLeDiff, Nat.reduceEqDiff, Nat.reduceLT, reduceCtorEq, e2]
      exact ⟨k - 1, by omega, i + 1, m, by omega, by rw [hL']; exact hm, weak_to [0, 1, 2] hp hnp rfl (by simp (config := { maxSteps := 2000000 }) only [go_sem, ↓reduceIte, Int.reduceToNat, Nat.reduceMul, Int.reduceBEq, Int.reduceBNe, Nat.reduceBEq, Nat.reduceAdd, Nat.reduceSub, Nat.reduceLeDiff, Nat.reduceEqDiff, Nat.reduceLT, reduceCtorEq, Aw.pos, e2] <;> rfl) (by rw [hL']; simp (config := { maxSteps := 2000000 }) only [go_sem, ↓reduceIte, Int.reduceToNat, Nat.reduceMul, Int.reduceBEq, Int.reduceBNe, Nat.reduceBEq, Nat.reduceAdd, Nat.reduceSub, Nat.reduceLeDiff, Nat.reduceEqDiff, Nat.reduceLT, reduceCtorEq, Aw.renR, Aw.pos] <;> rfl)⟩
  · have e0 : decide ((i : Int) < (a.list.length : Int)) = false := decide_eq_false (by omega)
    rw [List.take_of_length_le hge] at hm
    simp (config := { maxSteps := 2000000 }) only [go_sem, ↓reduceIte, Int.reduceToNat, Nat.reduceMul, Int.reduceBEq, Int.reduceBNe, Nat.reduceBEq, Nat.reduceAdd, Nat.reduceSub, Nat.reduceLeDiff, Nat.reduceEqDiff, Nat.reduceLT, reduceCtorEq, e0, List.take_of_length_le hge]
    refine Retn.weak (weak_freeze 2 rfl pin2 (by simp (config := { maxSteps := 2000000 }) only [go_sem, ↓reduceIte, Int.reduceToNat, Nat.reduceMul, Int.reduceBEq, Int.reduceBNe, Nat.reduceBEq, Nat.reduceAdd, Nat.reduceSub, Nat.reduceLeDiff, Nat.reduceEqDiff, Nat.reduceLT, reduceCtorEq, Nat.le_refl, List.length_map, hm])) _ ?_
    refine Retn.ret (π := [0, 1]) hp hnp ⟨rfl, ?_⟩
    simp (config := { maxSteps := 2000000 }) only [go_sem, ↓reduceIte, Int.reduceToNat, Nat.reduceMul, Int.reduceBEq, Int.reduceBNe, Nat.reduceBEq, Nat.reduceAdd, Nat.reduceSub, Nat.reduceLeDiff, Nat.reduceEqDiff, Nat.reduceLT, reduceCtorEq, Aw.renR, Aw.pos]
    rw [List.take_of_length_le (by rw [List.length_map, hm]; exact Nat.le_refl _)]
    rfl
end Go.Proofs.YtemgclhenkbikaaDoor
