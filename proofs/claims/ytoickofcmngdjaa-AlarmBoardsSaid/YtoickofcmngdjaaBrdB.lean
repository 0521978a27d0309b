/- Alarms: a board; New, Clear. -/
import Derived.Test.YtoickofcmngdjaaAwZl
import Derived.Test.YtoickofcmngdjaaBrdA
set_option linter.unusedVariables false
set_option linter.unusedSimpArgs false
namespace Go.Proofs.Ytoickofcmngdjaa
open Go.Proofs.Ytoickofcmngdjaa.Aw
attribute [local go_sem] Int.natCast_zero Int.natCast_one bne_self_eq_false beq_self_eq_true Bool.not_true Bool.not_false Option.isSome_none Option.isSome_some Aw.bkM_nil Option.getD_some Option.getD_none Nat.sub_zero Int.toNat_zero Aw.frzS Aw.frzT Aw.frzA Aw.frzL Aw.frzR Aw.frzO Aw.frzOL Aw.frzOT Aw.frzOR Aw.killS Aw.mapT Aw.mapR Aw.killM Aw.resAVs Aw.resAV Aw.quietOps Aw.wpP Aw.wpT Aw.wpS Aw.AOp.mild List.getElem?_cons_zero List.getElem?_cons_succ Bool.and_false Bool.and_self Bool.false_and Aw.opOb Aw.gdB Aw.Rnd Aw.subTm List.length_map Int.toNat_natCast and_self Aw.SeqC Aw.stops Aw.Ends Aw.looks Aw.renA Aw.renL Aw.renT Aw.renS Aw.wpO Aw.aop Aw.putTm Aw.St.ev Aw.St.put Aw.St.putO Aw.binAV Aw.intBin Aw.strBin Aw.pickAV Aw.optInt Aw.AV.strip Aw.AV.guard Aw.AV.cells Aw.gdOb Aw.AOp.opds Aw.AOp.still Aw.ptrCells Aw.St.reg Aw.fillAV Aw.fillOb Aw.elsOb Aw.splice Aw.firm Aw.cellish Aw.AV.shut Aw.shutAll Aw.Seq Aw.Blk Aw.retS_nil Aw.mapA Aw.mapL Aw.borA Aw.borOb Aw.allOb Aw.tupOf Aw.params Aw.Opd.of Array.toList Value.cells List.map_cons List.map_nil List.getD_cons_zero List.getD_cons_succ List.getD_nil List.length_cons List.length_nil List.take_succ_cons List.take_zero List.take_nil List.drop_zero List.drop_succ_cons List.drop_nil List.set_cons_zero List.set_cons_succ List.append_nil List.nil_append List.cons_append List.all_cons List.all_nil cond_false cond_true if_true if_false true_and and_true Bool.and_true Bool.true_and Option.map_some Option.map_none false_implies forall_const implies_true forall_eq imp_self Bool.cond_false_right Bool.cond_true_left beq_true beq_false Bool.not_eq_true' Bool.false_eq_true Nat.zero_add Nat.add_zero Aw.eqCells Aw.stopDraw Aw.skipS Aw.exactCap Aw.revealS Aw.srcEls Aw.srcSz
attribute [local go_sem ↓] Aw.look_nil Aw.look_ite Aw.wpL_nil Aw.wpL_op Aw.wpL_gd Aw.wpQ_nil Aw.wpQ_op Aw.wpQ_gd Aw.wpC_draw Aw.wpC_reg Aw.wpC_skip Aw.wpC_ret Aw.wpC_exit Aw.wpC_seq Aw.wpC_block Aw.wpC_loop Aw.wpC_cond Aw.stopAt_nil Aw.stopAt_cons Aw.wpD_skip Aw.wpD_ret Aw.wpD_exit Aw.wpD_region Aw.wpD_draw Aw.wpM_nil Aw.wpM_op Aw.wpM_gd Aw.wpD_seq Aw.wpD_block Aw.wpD_loop Aw.wpD_cond


/- gridhall/alarm.New -/
def a14 : ACode :=
  (.seq (.region false [] [
     ⟨(some 2), none, (.mov (.v (.pointer none)))⟩,
     ⟨(some 3), none, (.mov (.v (.int .i64 0)))⟩])
  (.seq (.seq (.region false [] [
     ⟨(some 5), none, (.mov (.t 0))⟩,
     ⟨(some 6), none, (.call 6 [(.t 5)])⟩,
     ⟨(some 4), none, (.mov (.t 6))⟩])
  (.seq (.region false [] [
     ⟨(some 7), none, (.mov (.t 4))⟩,
     ⟨(some 8), none, (.bin .neq 24 (.t 7) (.v (.int .i64 0)))⟩])
  (.cond (.t 8)
    (.seq (.region false [] [
       ⟨(some 9), none, (.mov (.t 4))⟩,
       ⟨(some 2), none, (.mov (.v (.pointer none)))⟩,
       ⟨(some 3), none, (.mov (.t 9))⟩])
    .ret)
    .skip)))
  (.seq (.region false [] [
     ⟨(some 10), none, (.mov (.t 0))⟩,
     ⟨(some 11), none, (.call 29 [(.t 10)])⟩,
     ⟨(some 12), none, (.build (.agg #[(.slice none 0 0), (.slice none 0 0), (.int .i64 0)]) [(0, (1, (.t 11)))])⟩,
     ⟨(some 13), none, (.box 61 (.t 12))⟩,
     ⟨(some 2), none, (.mov (.t 13))⟩,
     ⟨(some 3), none, (.mov (.v (.int .i64 0)))⟩])
  .ret)))
theorem k14 : FnIs Try.prog 14 14 [.t 2, .t 3] a14 := ⟨_, _, Try.func14, rfl, by kernel_rfl, by kernel_rfl, rfl⟩
/- slices.Clone[[]gridhall/api.AlarmCause,gridhall/api.AlarmCause] -/
def a29 : ACode :=
  (.seq (.region false [] [
     ⟨(some 2), none, (.mov (.v (.slice none 0 0)))⟩])
  (.seq (.seq (.region false [] [
     ⟨(some 3), none, (.mov (.t 0))⟩,
     ⟨(some 4), none, (.nilS false (.t 3))⟩])
  (.cond (.t 4)
    (.seq (.region false [] [
       ⟨(some 2), none, (.mov (.v (.slice none 0 0)))⟩])
    .ret)
    .skip))
  (.seq (.region false [] [
     ⟨(some 5), none, (.bsl 28 2 0 [])⟩,
     ⟨(some 6), none, (.mov (.t 0))⟩,
     ⟨(some 7), none, (.app 28 2 32 (.agg #[(.string ⟨#[]⟩), (.string ⟨#[]⟩)]) (.t 5) (.t 6))⟩,
     ⟨(some 2), none, (.mov (.t 7))⟩])
  .ret)))
theorem k29 : FnIs Try.prog 29 8 [.t 2] a29 := ⟨_, _, Try.func29, rfl, by kernel_rfl, by kernel_rfl, rfl⟩
/- slices.Delete[[]gridhall/api.AlarmEntry,gridhall/api.AlarmEntry] -/
def a31 : ACode :=
  (.seq (.region false [] [
     ⟨(some 6), none, (.mov (.v (.slice none 0 0)))⟩])
  (.seq (.region false [] [
     ⟨(some 8), none, (.mov (.t 0))⟩,
     ⟨(some 9), none, (.mov (.t 1))⟩,
     ⟨(some 10), none, (.mov (.t 2))⟩,
     ⟨(some 11), none, (.mov (.t 0))⟩,
     ⟨(some 12), none, (.len (.t 11))⟩,
     ⟨(some 13), none, (.slc 3 (.t 8) (some (.t 9)) (some (.t 10)) (some (.t 12)))⟩])
  (.seq (.seq (.region false [] [
     ⟨(some 14), none, (.mov (.t 1))⟩,
     ⟨(some 15), none, (.mov (.t 2))⟩,
     ⟨(some 16), none, (.bin .eql 3 (.t 14) (.t 15))⟩])
  (.cond (.t 16)
    (.seq (.region false [] [
       ⟨(some 17), none, (.mov (.t 0))⟩,
       ⟨(some 6), none, (.mov (.t 17))⟩])
    .ret)
    .skip))
  (.seq (.region false [] [
     ⟨(some 18), none, (.mov (.t 0))⟩,
     ⟨(some 19), none, (.len (.t 18))⟩,
     ⟨(some 7), none, (.mov (.t 19))⟩])
  (.seq (.region true [[], [], [0, 1], [], [], [3, 4], [2, 5], [6, 6, 0, 1, 2, 3, 4, 5, 6]] [
     ⟨(some 20), none, (.mov (.t 0))⟩,
     ⟨(some 21), none, (.mov (.t 1))⟩,
     ⟨(some 22), none, (.slc 3 (.t 20) none (some (.t 21)) none)⟩,
     ⟨(some 23), none, (.mov (.t 0))⟩,
     ⟨(some 24), none, (.mov (.t 2))⟩,
     ⟨(some 25), none, (.slc 3 (.t 23) (some (.t 24)) none none)⟩,
     ⟨(some 26), none, (.app 48 3 32 (.agg #[(.string ⟨#[]⟩), (.int .i64 0), (.bool false)]) (.t 22) (.t 25))⟩,
     ⟨(some 0), none, (.mov (.t 26))⟩])
  (.seq (.region false [] [
     ⟨(some 27), none, (.mov (.t 0))⟩,
     ⟨(some 28), none, (.mov (.t 0))⟩,
     ⟨(some 29), none, (.len (.t 28))⟩,
     ⟨(some 30), none, (.mov (.t 7))⟩,
     ⟨(some 31), none, (.slc 3 (.t 27) (some (.t 29)) (some (.t 30)) none)⟩,
     ⟨none, none, (.clr 3 (.agg #[(.string ⟨#[]⟩), (.int .i64 0), (.bool false)]) (.t 31))⟩])
  (.seq (.region false [] [
     ⟨(some 32), none, (.mov (.t 0))⟩,
     ⟨(some 6), none, (.mov (.t 32))⟩])
  .ret)))))))
theorem k31 : FnIs Try.prog 31 33 [.t 6] a31 := ⟨_, _, Try.func31, rfl, by kernel_rfl, by kernel_rfl, rfl⟩
/- (*gridhall/alarm.Board).Clear -/
def a18 : ACode :=
  (.seq (.region false [] [
     ⟨(some 4), none, (.mov (.v (.int .i64 0)))⟩])
  (.seq (.region false [] [
     ⟨(some 6), none, (.mov (.t 0))⟩,
     ⟨(some 7), none, (.mov (.t 1))⟩,
     ⟨(some 8), none, (.call 30 [(.t 6), (.t 7)])⟩,
     ⟨(some 5), none, (.mov (.t 8))⟩])
  (.seq (.seq (.region false [] [
     ⟨(some 9), none, (.mov (.t 5))⟩,
     ⟨(some 10), none, (.bin .lss 3 (.t 9) (.v (.int .i64 0)))⟩])
  (.cond (.t 10)
    (.seq (.region false [] [
       ⟨(some 4), none, (.mov (.v (.int .i64 8)))⟩])
    .ret)
    .skip))
  (.seq (.region false [] [
     ⟨(some 11), none, (.mov (.t 0))⟩,
     ⟨(some 12), none, (.mov (.t 0))⟩,
     ⟨(some 13), none, (.nilc (.t 12))⟩,
     ⟨(some 14), none, (.fld 1 (.t 13))⟩,
     ⟨(some 15), none, (.load 1 false (.t 14))⟩,
     ⟨(some 16), none, (.mov (.t 5))⟩,
     ⟨(some 17), none, (.mov (.t 5))⟩,
     ⟨(some 18), none, (.bin .add 3 (.t 17) (.v (.int .i64 1)))⟩,
     ⟨(some 19), none, (.call 31 [(.t 15), (.t 16), (.t 18)])⟩,
     ⟨(some 20), none, (.nilc (.t 11))⟩,
     ⟨(some 21), none, (.fld 1 (.t 20))⟩,
     ⟨none, none, (.store 1 (.t 21) (.t 19))⟩])
  (.seq (.region false [] [
     ⟨(some 4), none, (.mov (.v (.int .i64 0)))⟩])
  .ret)))))
theorem k18 : FnIs Try.prog 18 22 [.t 4] a18 := ⟨_, _, Try.func18, rfl, by kernel_rfl, by kernel_rfl, rfl⟩

theorem o29 (nl full) (l : List (Cau)) (hl : l.length * 32 ≤ 140737488351232) : Aw.Spec Try.prog 29 [] [.imm nl full 2 (l.map cac)] (fun rg x => rg = [.arr 28 2 (l.map cac)] ∧ x = .hnd 0 0 l.length l.length false) := by
  refine Aw.Spec.nil1 fun b _ hb => ?_
  refine Aw.Spec.regsD k29 mixed rfl rfl rfl fun E hn hnp hp => ?_
  unfold a29
  simp (config := { maxSteps := 2000000 }) only [go_sem, ↓reduceIte, Int.reduceToNat, Nat.reduceMul, Int.reduceBEq, Int.reduceBNe, Nat.reduceBEq, Nat.reduceAdd, Nat.reduceSub, Nat.reduceLeDiff, Nat.reduceEqDiff, Nat.reduceLT, reduceCtorEq]
  refine ⟨fun h => ?_, fun h => ?_⟩
  · have hl0 : l = [] := by simpa using hb h
    subst hl0
    refine Retn.weak (weak_nil 2 28 2 (by rfl)) _ (Retn.ret (π := [0]) hp hnp ⟨rfl, ?_⟩)
    simp (config := { maxSteps := 2000000 }) only [go_sem, ↓reduceIte, Int.reduceToNat, Nat.reduceMul, Int.reduceBEq, Int.reduceBNe, Nat.reduceBEq, Nat.reduceAdd, Nat.reduceSub, Nat.reduceLeDiff, Nat.reduceEqDiff, Nat.reduceLT, reduceCtorEq, Aw.resAVs, Aw.resAV, Aw.renR, Aw.pos]
    all_goals (try exact ⟨rfl, rfl⟩)
  · refine AWpL.app (r := 0) (els := []) rfl rfl rfl rfl (by rw [hn]; rfl) rfl (hp.none hnp (Nat.zero_le _)) trivial (fun el hm x hx => ?_) (by simp; omega) (by simp; omega) (AWpL.ofM hn rfl ?_)
    · obtain ⟨y, _, rfl⟩ := List.mem_map.1 hm
      simp only [List.mem_cons, List.not_mem_nil, or_false] at hx
      first | (subst hx; rfl) | (rcases hx with rfl | rfl; all_goals rfl) | (rcases hx with rfl | rfl | rfl; all_goals rfl) | (rcases hx with rfl | rfl | rfl | rfl; all_goals rfl) | (rcases hx with rfl | rfl | rfl | rfl | rfl; all_goals rfl) | (rcases hx with rfl | rfl | rfl | rfl | rfl | rfl; all_goals rfl) | (rcases hx with rfl | rfl | rfl | rfl | rfl | rfl | rfl | rfl | rfl; all_goals rfl)
    simp (config := { maxSteps := 2000000 }) only [go_sem, ↓reduceIte, Int.reduceToNat, Nat.reduceMul, Int.reduceBEq, Int.reduceBNe, Nat.reduceBEq, Nat.reduceAdd, Nat.reduceSub, Nat.reduceLeDiff, Nat.reduceEqDiff, Nat.reduceLT, reduceCtorEq, Aw.killS, Aw.mapT, Aw.mapR, Aw.killM]
    refine Retn.ret (π := [0]) hp hnp ⟨rfl, ?_⟩
    simp (config := { maxSteps := 2000000 }) only [go_sem, ↓reduceIte, Int.reduceToNat, Nat.reduceMul, Int.reduceBEq, Int.reduceBNe, Nat.reduceBEq, Nat.reduceAdd, Nat.reduceSub, Nat.reduceLeDiff, Nat.reduceEqDiff, Nat.reduceLT, reduceCtorEq, Aw.resAVs, Aw.resAV, Aw.renR, Aw.pos]
    all_goals (try exact ⟨rfl, rfl⟩)

theorem s31 (l : List (Ale)) (i : Nat) (hi : i < l.length) (hl : l.length ≤ 1000) (hc : ∀ x : Ale, ∀ y ∈ alc x, cellish y = true) :
    Aw.Spec Try.prog 31 [.arr 48 3 (l.map alc)] [.hnd 0 0 l.length l.length false, I i, I (i + 1 : Nat)]
      (fun rg v => rg = [.arr 48 3 ((l.eraseIdx i).map alc ++ [[S ⟨#[]⟩, I 0, B false]])] ∧ v = .hnd 0 0 (l.length - 1) l.length false) := by
  refine Aw.Spec.of k31 rfl fun E hn hnp hp => ?_
  replace hnp : E.np = 1 := hnp
  unfold a31
  have pin0 := hp.arr 0 rfl
  have e1 : ((i : Int) == ((i + 1 : Nat) : Int)) = false := by rw [beq_eq_false_iff_ne]; omega
  refine AWp.ofD [] [] hn mixed rfl ?_
  simp (config := { maxSteps := 2000000 }) only [go_sem, ↓reduceIte, Int.reduceToNat, Nat.reduceMul, Int.reduceBEq, Int.reduceBNe, Nat.reduceBEq, Nat.reduceAdd, Nat.reduceSub, Nat.reduceLeDiff, Nat.reduceEqDiff, Nat.reduceLT, reduceCtorEq, e1]
  (repeat (refine And.intro (by first | omega | (refine ⟨by omega, by omega⟩) | (refine ⟨by omega, by omega, by omega⟩) | (simp only [List.length_map, List.length_range, List.length_append, List.length_cons, List.length_nil, List.length_replicate, List.length_set]; omega) | (simp; omega) | (intro hgd; cases hgd) | (intro hgd; refine ⟨hgd, ?_⟩; first | omega | (refine ⟨by omega, by omega⟩) | (simp; omega))) ?_))
  have hdl : ((l.map alc).drop (i + 1)).take (l.length - (i + 1)) = (l.drop (i + 1)).map alc := by rw [← List.map_drop, List.take_of_length_le (by simp)]
  have hlen : (l.eraseIdx i).length = l.length - 1 := by rw [List.length_eraseIdx, if_pos hi]
  have hov : overEls (l.map alc) i ((l.drop (i + 1)).map alc) = (l.eraseIdx i).map alc ++ (l.drop (l.length - 1)).map alc := by
    unfold overEls
    rw [List.eraseIdx_eq_take_drop_succ, List.map_append, List.length_map, List.length_drop, ← List.map_take, ← List.map_drop, List.append_assoc, show i + (l.length - (i + 1)) = l.length - 1 by omega]
  have hov2 : overEls ((l.eraseIdx i).map alc ++ (l.drop (l.length - 1)).map alc) (l.length - 1) [[S ⟨#[]⟩, I 0, B false]] = (l.eraseIdx i).map alc ++ [[S ⟨#[]⟩, I 0, B false]] := by
    unfold overEls
    rw [List.take_left' (by rw [List.length_map, hlen]), List.drop_of_length_le (by simp; omega), List.append_nil]
  have hxl : ((l.eraseIdx i).map alc ++ (l.drop (l.length - 1)).map alc).length = l.length := by rw [List.length_append, List.length_map, List.length_map, List.length_drop, hlen]; omega
  refine AWp.plan (.take 0 [false, true, false, true, true, true, false, false] (.take 1 [true, false, false, true, true, true, false, false] (.take 2 [true, true, false, true, true, true, false, false] (.take 3 [true, true, true, false, true, false, false, false] (.take 4 [true, true, true, true, false, false, false, false] (.take 5 [true, true, true, true, true, false, false, false] (.one 6 (.take 7 [true, true, true, true, true, true, true, false] .done)))))))) [true, true, true, true, true, true, false, true] mixed hn rfl rfl ?_
  simp (config := { maxSteps := 2000000 }) only [go_sem, ↓reduceIte, Int.reduceToNat, Nat.reduceMul, Int.reduceBEq, Int.reduceBNe, Nat.reduceBEq, Nat.reduceAdd, Nat.reduceSub, Nat.reduceLeDiff, Nat.reduceEqDiff, Nat.reduceLT, reduceCtorEq]
  (repeat (refine And.intro (by first | omega | (refine ⟨by omega, by omega⟩) | (refine ⟨by omega, by omega, by omega⟩) | (simp only [List.length_map, List.length_range, List.length_append, List.length_cons, List.length_nil, List.length_replicate, List.length_set]; omega) | (simp; omega) | (intro hgd; cases hgd) | (intro hgd; refine ⟨hgd, ?_⟩; first | omega | (refine ⟨by omega, by omega⟩) | (simp; omega))) ?_))
  refine AOne.rule (AWpL.appIn (r := 0) (off := 0) (n := i) (k := l.length) (els := l.map alc) (ys := (l.drop (i + 1)).map alc) (ob := i + 1 + (l.length - (i + 1)) ≤ (l.map alc).length) rfl rfl (by show some (((l.map alc).drop (i + 1)).take (l.length - (i + 1)), _) = _; rw [hdl]) rfl (by rw [hn]; rfl) (by simp only [List.length_map]; omega) (fun el hm y hy => by
    obtain ⟨z, _, rfl⟩ := List.mem_map.1 hm
    exact hc z y hy) (by simp; omega) (by simp; omega) (by omega) (AWpL.ofM hn rfl ?_))
  rw [Nat.zero_add, hov, List.length_map, List.length_drop, show i + (l.length - (i + 1)) = l.length - 1 by omega]
  generalize (l.eraseIdx i).map alc ++ (l.drop (l.length - 1)).map alc = X at *
  have h1 : l.length - (l.length - 1) = 1 := by omega
  simp (config := { maxSteps := 2000000 }) only [go_sem, ↓reduceIte, Int.reduceToNat, Nat.reduceMul, Int.reduceBEq, Int.reduceBNe, Nat.reduceBEq, Nat.reduceAdd, Nat.reduceSub, Nat.reduceLeDiff, Nat.reduceEqDiff, Nat.reduceLT, reduceCtorEq, h1]
  (repeat (refine And.intro (by first | omega | (refine ⟨by omega, by omega⟩) | (refine ⟨by omega, by omega, by omega⟩) | (simp only [List.length_map, List.length_range, List.length_append, List.length_cons, List.length_nil, List.length_replicate, List.length_set]; omega) | (simp; omega) | (intro hgd; cases hgd) | (intro hgd; refine ⟨hgd, ?_⟩; first | omega | (refine ⟨by omega, by omega⟩) | (simp; omega))) ?_))
  refine AWpL.clr (r := 0) (off := l.length - 1) (n := 1) (k := 1) (els := X) rfl rfl (by rw [hn]; rfl) (by omega) (fun v hv => by
    simp only [Value.cells, List.mem_cons, List.not_mem_nil, or_false] at hv
    first | (rcases hv with rfl | rfl | rfl | rfl | rfl | rfl | rfl | rfl | rfl; all_goals rfl) | (rcases hv with rfl | rfl | rfl | rfl | rfl; all_goals rfl) | (rcases hv with rfl | rfl | rfl; all_goals rfl) | (subst hv; rfl)) (.inl (by decide)) (AWpL.ofM hn rfl ?_)
  have hr1 : List.replicate 1 [S ⟨#[]⟩, I 0, B false] = [[S ⟨#[]⟩, I 0, B false]] := rfl
  simp (config := { maxSteps := 2000000 }) only [go_sem, ↓reduceIte, Int.reduceToNat, Nat.reduceMul, Int.reduceBEq, Int.reduceBNe, Nat.reduceBEq, Nat.reduceAdd, Nat.reduceSub, Nat.reduceLeDiff, Nat.reduceEqDiff, Nat.reduceLT, reduceCtorEq, hr1, hov2]
  refine Retn.ret (π := [0]) hp hnp ⟨rfl, ?_⟩
  simp (config := { maxSteps := 2000000 }) only [go_sem, ↓reduceIte, Int.reduceToNat, Nat.reduceMul, Int.reduceBEq, Int.reduceBNe, Nat.reduceBEq, Nat.reduceAdd, Nat.reduceSub, Nat.reduceLeDiff, Nat.reduceEqDiff, Nat.reduceLT, reduceCtorEq, Aw.renR, Aw.pos]

theorem new_bad (nl fl) (cs : List Cau) (hc : ∀ c ∈ cs, CauOk c) (he : causesF cs ≠ 0) : Aw.Spec Try.prog 14 [] [cas nl fl cs] (fun rg v => rg = [] ∧ v = .tup [.val (.pointer none), I (causesF cs)]) := by
  refine Aw.Spec.regsW k14 rfl rfl fun E hn hnp hp => ?_
  unfold a14
  have e1 : (causesF cs != 0) = true := bne_iff_ne.2 he
  refine AWp.ofD [] [] hn mixed rfl ?_
  simp (config := { maxSteps := 2000000 }) only [go_sem, ↓reduceIte, Int.reduceToNat, Nat.reduceMul, Int.reduceBEq, Int.reduceBNe, Nat.reduceBEq, Nat.reduceAdd, Nat.reduceSub, Nat.reduceLeDiff, Nat.reduceEqDiff, Nat.reduceLT, reduceCtorEq]
  (refine AWpL.calle (s6 nl fl cs hc) rfl (by rw [hn]; rfl) (by simp (config := { maxSteps := 2000000 }) only [go_sem, ↓reduceIte, Int.reduceToNat, Nat.reduceMul, Int.reduceBEq, Int.reduceBNe, Nat.reduceBEq, Nat.reduceAdd, Nat.reduceSub, Nat.reduceLeDiff, Nat.reduceEqDiff, Nat.reduceLT, reduceCtorEq]) (AWpL.ofM hn rfl ?_); simp (config := { maxSteps := 2000000 }) only [go_sem, ↓reduceIte, Int.reduceToNat, Nat.reduceMul, Int.reduceBEq, Int.reduceBNe, Nat.reduceBEq, Nat.reduceAdd, Nat.reduceSub, Nat.reduceLeDiff, Nat.reduceEqDiff, Nat.reduceLT, reduceCtorEq])
  simp (config := { maxSteps := 2000000 }) only [go_sem, ↓reduceIte, Int.reduceToNat, Nat.reduceMul, Int.reduceBEq, Int.reduceBNe, Nat.reduceBEq, Nat.reduceAdd, Nat.reduceSub, Nat.reduceLeDiff, Nat.reduceEqDiff, Nat.reduceLT, reduceCtorEq, e1]
  refine Retn.ret (π := []) hp hnp ⟨rfl, ?_⟩
  simp (config := { maxSteps := 2000000 }) only [go_sem, ↓reduceIte, Int.reduceToNat, Nat.reduceMul, Int.reduceBEq, Int.reduceBNe, Nat.reduceBEq, Nat.reduceAdd, Nat.reduceSub, Nat.reduceLeDiff, Nat.reduceEqDiff, Nat.reduceLT, reduceCtorEq, Aw.renR, Aw.pos]
theorem new_ok (nl fl) (cs : List Cau) (hc : ∀ c ∈ cs, CauOk c) (he : causesF cs = 0) : Aw.Spec Try.prog 14 [] [cas nl fl cs] (fun rg v => rg = [.box 61 [cas none false cs, .val (.slice none 0 0), I 0]] ∧ v = .tup [.ptr 0 0 0, I 0]) := by
  refine Aw.Spec.regsW k14 rfl rfl fun E hn hnp hp => ?_
  unfold a14
  have pin : ∀ r, E.pin r = none := fun r => hp.none hnp (Nat.zero_le _)
  have hl := causesF_len he
  refine AWp.ofD [] [] hn mixed rfl ?_
  simp (config := { maxSteps := 2000000 }) only [go_sem, ↓reduceIte, Int.reduceToNat, Nat.reduceMul, Int.reduceBEq, Int.reduceBNe, Nat.reduceBEq, Nat.reduceAdd, Nat.reduceSub, Nat.reduceLeDiff, Nat.reduceEqDiff, Nat.reduceLT, reduceCtorEq]
  (refine AWpL.calle (s6 nl fl cs hc) rfl (by rw [hn]; rfl) (by simp (config := { maxSteps := 2000000 }) only [go_sem, ↓reduceIte, Int.reduceToNat, Nat.reduceMul, Int.reduceBEq, Int.reduceBNe, Nat.reduceBEq, Nat.reduceAdd, Nat.reduceSub, Nat.reduceLeDiff, Nat.reduceEqDiff, Nat.reduceLT, reduceCtorEq]) (AWpL.ofM hn rfl ?_); simp (config := { maxSteps := 2000000 }) only [go_sem, ↓reduceIte, Int.reduceToNat, Nat.reduceMul, Int.reduceBEq, Int.reduceBNe, Nat.reduceBEq, Nat.reduceAdd, Nat.reduceSub, Nat.reduceLeDiff, Nat.reduceEqDiff, Nat.reduceLT, reduceCtorEq])
  simp (config := { maxSteps := 2000000 }) only [go_sem, ↓reduceIte, Int.reduceToNat, Nat.reduceMul, Int.reduceBEq, Int.reduceBNe, Nat.reduceBEq, Nat.reduceAdd, Nat.reduceSub, Nat.reduceLeDiff, Nat.reduceEqDiff, Nat.reduceLT, reduceCtorEq, he]
  refine AWpL.callA [] (o29 nl fl cs (by omega)) rfl rfl (by rw [hn]; rfl) rfl (fun r hr => by cases hr) fun rg v hv => ?_
  obtain ⟨rfl, rfl⟩ := hv
  refine ⟨Nat.zero_le _, ?_⟩
  rw [retS_new]
  simp (config := { maxSteps := 2000000 }) only [go_sem, ↓reduceIte, Int.reduceToNat, Nat.reduceMul, Int.reduceBEq, Int.reduceBNe, Nat.reduceBEq, Nat.reduceAdd, Nat.reduceSub, Nat.reduceLeDiff, Nat.reduceEqDiff, Nat.reduceLT, reduceCtorEq]
  refine AWpL.weak (weak_freeze 0 rfl (pin 0) (by simp (config := { maxSteps := 2000000 }) only [go_sem, ↓reduceIte, Int.reduceToNat, Nat.reduceMul, Int.reduceBEq, Int.reduceBNe, Nat.reduceBEq, Nat.reduceAdd, Nat.reduceSub, Nat.reduceLeDiff, Nat.reduceEqDiff, Nat.reduceLT, reduceCtorEq, Nat.le_refl])) (AWpL.ofM hn rfl ?_)
  have etk : List.take cs.length (cs.map cac) = cs.map cac := List.take_of_length_le (by rw [List.length_map]; exact Nat.le_refl _)
  simp (config := { maxSteps := 2000000 }) only [go_sem, ↓reduceIte, Int.reduceToNat, Nat.reduceMul, Int.reduceBEq, Int.reduceBNe, Nat.reduceBEq, Nat.reduceAdd, Nat.reduceSub, Nat.reduceLeDiff, Nat.reduceEqDiff, Nat.reduceLT, reduceCtorEq, etk]
  refine Retn.ret (π := [1]) hp hnp ⟨rfl, ?_⟩
  simp (config := { maxSteps := 2000000 }) only [go_sem, ↓reduceIte, Int.reduceToNat, Nat.reduceMul, Int.reduceBEq, Int.reduceBNe, Nat.reduceBEq, Nat.reduceAdd, Nat.reduceSub, Nat.reduceLeDiff, Nat.reduceEqDiff, Nat.reduceLT, reduceCtorEq, Aw.renR, Aw.pos]
def clrE (l : List Ale) (n : ByteArray) : Int := if fIndex (fun a => seq a.name n) 0 l < 0 then 8 else 0
def clrL (l : List Ale) (n : ByteArray) : List Ale := if fIndex (fun a => seq a.name n) 0 l < 0 then l else l.eraseIdx (fIndex (fun a => seq a.name n) 0 l).toNat
set_option maxRecDepth 100000 in
theorem s18 (nl fl) (cs : List Cau) (l : List Ale) (last : Int) (n : ByteArray) (hl : l.length ≤ 1000) : Aw.Spec Try.prog 18 (brdR nl fl cs l last) [.ptr 0 0 0, S n]
    (fun rg v => v = I (clrE l n) ∧ rg = brdR nl fl cs (clrL l n) last) := by
  refine Aw.Spec.of k18 rfl fun E hn hnp hp => ?_
  replace hnp : E.np = 2 := hnp
  have pin1 := hp.arr 1 rfl
  unfold a18
  refine AWp.ofD [] [] hn mixed rfl ?_
  simp (config := { maxSteps := 2000000 }) only [go_sem, ↓reduceIte, Int.reduceToNat, Nat.reduceMul, Int.reduceBEq, Int.reduceBNe, Nat.reduceBEq, Nat.reduceAdd, Nat.reduceSub, Nat.reduceLeDiff, Nat.reduceEqDiff, Nat.reduceLT, reduceCtorEq]
  refine AWpL.callA [0, 1] (s30 nl fl cs l last n hl) rfl rfl (by rw [hn]; rfl) rfl (fun r hr => by { rcases List.mem_cons.1 hr with rfl | hr; exact .inl rfl; cases List.mem_singleton.1 hr; exact .inr pin1 }) fun rg v hv => ?_
  obtain ⟨rfl, rfl⟩ := hv
  refine ⟨Nat.le_refl _, AWpL.ofM hn rfl ?_⟩
  rcases fIndex_rng (fun a : Ale => seq a.name n) l 0 with h | ⟨j, h, hj, -⟩
  · have ha : clrE l n = 8 := by unfold clrE; rw [if_pos (by omega)]
    have hb : clrL l n = l := by unfold clrL; rw [if_pos (by omega)]
    have e1 : decide ((-1 : Int) < 0) = true := by decide
    rw [h]
    simp (config := { maxSteps := 2000000 }) only [go_sem, ↓reduceIte, Int.reduceToNat, Nat.reduceMul, Int.reduceBEq, Int.reduceBNe, Nat.reduceBEq, Nat.reduceAdd, Nat.reduceSub, Nat.reduceLeDiff, Nat.reduceEqDiff, Nat.reduceLT, reduceCtorEq, Aw.retS, Aw.retRg, Aw.kpM, Aw.bkM, Aw.pos, Aw.isBox, e1]
    refine Retn.ret (π := [0, 1]) hp hnp ⟨rfl, ?_⟩
    simp (config := { maxSteps := 2000000 }) only [go_sem, ↓reduceIte, Int.reduceToNat, Nat.reduceMul, Int.reduceBEq, Int.reduceBNe, Nat.reduceBEq, Nat.reduceAdd, Nat.reduceSub, Nat.reduceLeDiff, Nat.reduceEqDiff, Nat.reduceLT, reduceCtorEq, Aw.renR, Aw.pos]
    rw [ha, hb]
    exact ⟨rfl, rfl⟩
  · rw [Nat.zero_add] at h
    have e1 : decide ((j : Int) < 0) = false := by rw [decide_eq_false_iff_not]; omega
    have e2 : IntKind.i64.wrap ((j : Int) + 1) = ((j + 1 : Nat) : Int) := by rw [w64 (by omega) (by omega)]; omega
    have ha : clrE l n = 0 := by unfold clrE; rw [h, if_neg (by omega)]
    have hb : clrL l n = l.eraseIdx j := by unfold clrL; rw [h, if_neg (by omega), Int.toNat_natCast]
    have hle : (l.eraseIdx j).length = l.length - 1 := by rw [List.length_eraseIdx, if_pos hj]
    rw [h]
    simp (config := { maxSteps := 2000000 }) only [go_sem, ↓reduceIte, Int.reduceToNat, Nat.reduceMul, Int.reduceBEq, Int.reduceBNe, Nat.reduceBEq, Nat.reduceAdd, Nat.reduceSub, Nat.reduceLeDiff, Nat.reduceEqDiff, Nat.reduceLT, reduceCtorEq, Aw.retS, Aw.retRg, Aw.kpM, Aw.bkM, Aw.pos, Aw.isBox, e1, e2]
    refine AWpL.callA [1] (s31 l j hj hl (fun x y hy => by
      simp only [List.mem_cons, List.not_mem_nil, or_false] at hy
      rcases hy with rfl | rfl | rfl <;> rfl)) rfl rfl (by rw [hn]; rfl) rfl (fun r hr => .inr (by cases List.mem_singleton.1 hr; exact pin1)) fun rg v hv => ?_
    obtain ⟨rfl, rfl⟩ := hv
    refine ⟨Nat.le_refl _, ?_⟩
    simp (config := { maxSteps := 2000000 }) only [go_sem, ↓reduceIte, Int.reduceToNat, Nat.reduceMul, Int.reduceBEq, Int.reduceBNe, Nat.reduceBEq, Nat.reduceAdd, Nat.reduceSub, Nat.reduceLeDiff, Nat.reduceEqDiff, Nat.reduceLT, reduceCtorEq, Aw.retS, Aw.retRg, Aw.kpM, Aw.bkM, Aw.pos, Aw.isBox]
    have hct : ((l.eraseIdx j).map alc ++ [[S ⟨#[]⟩, I 0, B false]]).take (l.length - 1) = (l.eraseIdx j).map alc := by
      rw [List.take_append_of_le_length (by rw [List.length_map, hle]; exact Nat.le_refl _), List.take_of_length_le (by rw [List.length_map, hle]; exact Nat.le_refl _)]
    refine AWpL.weak (weak_ent 19 (y := .hnd 1 0 (l.length - 1) (l.length - 1) false) rfl (Ent.cap 1 0 (l.length - 1) l.length false)) (AWpL.weak (weak_cut 1 (l.length - 1) rfl) (AWpL.ofM hn rfl ?_))
    simp (config := { maxSteps := 2000000 }) only [go_sem, ↓reduceIte, Int.reduceToNat, Nat.reduceMul, Int.reduceBEq, Int.reduceBNe, Nat.reduceBEq, Nat.reduceAdd, Nat.reduceSub, Nat.reduceLeDiff, Nat.reduceEqDiff, Nat.reduceLT, reduceCtorEq, hct]
    refine Retn.ret (π := [0, 1]) hp hnp ⟨rfl, ?_⟩
    simp (config := { maxSteps := 2000000 }) only [go_sem, ↓reduceIte, Int.reduceToNat, Nat.reduceMul, Int.reduceBEq, Int.reduceBNe, Nat.reduceBEq, Nat.reduceAdd, Nat.reduceSub, Nat.reduceLeDiff, Nat.reduceEqDiff, Nat.reduceLT, reduceCtorEq, Aw.renR, Aw.pos]
    rw [ha, hb]
    unfold brdR
    rw [hle]
    exact ⟨rfl, rfl⟩
end Go.Proofs.Ytoickofcmngdjaa
