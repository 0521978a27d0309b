/- Alarms: lists in order, lists compared, the fixed example. -/
import Derived.Test.YtoickofcmngdjaaAwZl
import Derived.Test.YtoickofcmngdjaaAlaD
set_option linter.unusedVariables false
set_option linter.unusedSimpArgs false
namespace Go.Proofs.Ytoickofcmngdjaa
open Go.Proofs.Ytoickofcmngdjaa.Aw
attribute [local go_sem] Int.natCast_zero Int.natCast_one bne_self_eq_false beq_self_eq_true Bool.not_true Bool.not_false Option.isSome_none Option.isSome_some Aw.bkM_nil Option.getD_some Option.getD_none Nat.sub_zero Int.toNat_zero Aw.frzS Aw.frzT Aw.frzA Aw.frzL Aw.frzR Aw.frzO Aw.frzOL Aw.frzOT Aw.frzOR Aw.killS Aw.mapT Aw.mapR Aw.killM Aw.resAVs Aw.resAV Aw.quietOps Aw.wpP Aw.wpT Aw.wpS Aw.AOp.mild List.getElem?_cons_zero List.getElem?_cons_succ Bool.and_false Bool.and_self Bool.false_and Aw.opOb Aw.gdB Aw.Rnd Aw.subTm List.length_map Int.toNat_natCast and_self Aw.SeqC Aw.stops Aw.Ends Aw.looks Aw.renA Aw.renL Aw.renT Aw.renS Aw.wpO Aw.aop Aw.putTm Aw.St.ev Aw.St.put Aw.St.putO Aw.binAV Aw.intBin Aw.strBin Aw.pickAV Aw.optInt Aw.AV.strip Aw.AV.guard Aw.AV.cells Aw.gdOb Aw.AOp.opds Aw.AOp.still Aw.ptrCells Aw.St.reg Aw.fillAV Aw.fillOb Aw.elsOb Aw.splice Aw.firm Aw.cellish Aw.AV.shut Aw.shutAll Aw.Seq Aw.Blk Aw.retS_nil Aw.mapA Aw.mapL Aw.borA Aw.borOb Aw.allOb Aw.tupOf Aw.params Aw.Opd.of Array.toList Value.cells List.map_cons List.map_nil List.getD_cons_zero List.getD_cons_succ List.getD_nil List.length_cons List.length_nil List.take_succ_cons List.take_zero List.take_nil List.drop_zero List.drop_succ_cons List.drop_nil List.set_cons_zero List.set_cons_succ List.append_nil List.nil_append List.cons_append List.all_cons List.all_nil cond_false cond_true if_true if_false true_and and_true Bool.and_true Bool.true_and Option.map_some Option.map_none false_implies forall_const implies_true forall_eq imp_self Bool.cond_false_right Bool.cond_true_left beq_true beq_false Bool.not_eq_true' Bool.false_eq_true Nat.zero_add Nat.add_zero Aw.eqCells Aw.stopDraw Aw.skipS Aw.exactCap Aw.revealS Aw.srcEls Aw.srcSz
attribute [local go_sem ↓] Aw.look_nil Aw.look_ite Aw.wpL_nil Aw.wpL_op Aw.wpL_gd Aw.wpQ_nil Aw.wpQ_op Aw.wpQ_gd Aw.wpC_draw Aw.wpC_reg Aw.wpC_skip Aw.wpC_ret Aw.wpC_exit Aw.wpC_seq Aw.wpC_block Aw.wpC_loop Aw.wpC_cond Aw.stopAt_nil Aw.stopAt_cons Aw.wpD_skip Aw.wpD_ret Aw.wpD_exit Aw.wpD_region Aw.wpD_draw Aw.wpM_nil Aw.wpM_op Aw.wpM_gd Aw.wpD_seq Aw.wpD_block Aw.wpD_loop Aw.wpD_cond

/- slices.Equal[[]string,string] -/
def a13 : ACode :=
  (.seq (.region false [] [
     ⟨(some 4), none, (.mov (.v (.bool false)))⟩])
  (.seq (.seq (.region false [] [
     ⟨(some 6), none, (.mov (.t 0))⟩,
     ⟨(some 7), none, (.len (.t 6))⟩,
     ⟨(some 8), none, (.mov (.t 1))⟩,
     ⟨(some 9), none, (.len (.t 8))⟩,
     ⟨(some 10), none, (.bin .neq 3 (.t 7) (.t 9))⟩])
  (.cond (.t 10)
    (.seq (.region false [] [
       ⟨(some 4), none, (.mov (.v (.bool false)))⟩])
    .ret)
    .skip))
  (.seq (.seq (.region false [] [
     ⟨(some 11), none, (.mov (.t 0))⟩,
     ⟨(some 12), none, (.len (.t 11))⟩,
     ⟨(some 13), none, (.mov (.v (.int .i64 0)))⟩])
  (.block 0 (.loop (.seq (.region false [] [
       ⟨(some 14), none, (.bin .lss 3 (.t 13) (.t 12))⟩])
    (.seq (.cond (.t 14)
      .skip
      (.exit 0))
    (.seq (.block 1 (.seq (.region false [] [
        ⟨(some 15), none, (.mov (.t 13))⟩,
        ⟨(some 5), none, (.mov (.t 15))⟩])
     (.seq (.region true [[], [], [0, 1], [2], [], [], [4, 5], [6], [3, 7]] [
        ⟨(some 16), none, (.mov (.t 0))⟩,
        ⟨(some 17), none, (.mov (.t 5))⟩,
        ⟨(some 18), none, (.idx 1 (.t 16) (.t 17))⟩,
        ⟨(some 19), none, (.load 1 false (.t 18))⟩,
        ⟨(some 20), none, (.mov (.t 1))⟩,
        ⟨(some 21), none, (.mov (.t 5))⟩,
        ⟨(some 22), none, (.idx 1 (.t 20) (.t 21))⟩,
        ⟨(some 23), none, (.load 1 false (.t 22))⟩,
        ⟨(some 24), none, (.bin .neq 9 (.t 19) (.t 23))⟩])
     (.cond (.t 24)
       (.seq (.region false [] [
          ⟨(some 4), none, (.mov (.v (.bool false)))⟩])
       .ret)
       .skip))))
    (.region false [] [
       ⟨(some 25), none, (.bin .add 3 (.t 13) (.v (.int .i64 1)))⟩,
       ⟨(some 13), none, (.mov (.t 25))⟩])))))))
  (.seq (.region false [] [
     ⟨(some 4), none, (.mov (.v (.bool true)))⟩])
  .ret))))
theorem k13 : FnIs Try.prog 13 26 [.t 4] a13 := ⟨_, _, Try.func13, rfl, by kernel_rfl, by kernel_rfl, rfl⟩
/- cmp.isNaN[string] -/
def a41 : ACode :=
  (.seq (.region false [] [
     ⟨(some 2), none, (.mov (.v (.bool false)))⟩])
  (.seq (.region false [] [
     ⟨(some 3), none, (.mov (.t 0))⟩,
     ⟨(some 4), none, (.mov (.t 0))⟩,
     ⟨(some 5), none, (.bin .neq 9 (.t 3) (.t 4))⟩,
     ⟨(some 2), none, (.mov (.t 5))⟩])
  .ret))
theorem k41 : FnIs Try.prog 41 6 [.t 2] a41 := ⟨_, _, Try.func41, rfl, by kernel_rfl, by kernel_rfl, rfl⟩
/- cmp.Less[string] -/
def a28 : ACode :=
  (.seq (.region false [] [
     ⟨(some 4), none, (.mov (.v (.bool false)))⟩])
  (.seq (.region false [] [
     ⟨(some 5), none, (.mov (.t 0))⟩,
     ⟨(some 6), none, (.call 41 [(.t 5)])⟩,
     ⟨(some 7), none, (.mov (.t 6))⟩,
     ⟨(some 8), (some (7, true)), (.mov (.t 1))⟩,
     ⟨(some 9), (some (7, true)), (.call 41 [(.t 8)])⟩,
     ⟨(some 10), (some (7, true)), (.un .not (.t 9))⟩,
     ⟨(some 11), none, (.pick (.t 7) (.t 10) (.v (.bool false)))⟩,
     ⟨(some 12), none, (.mov (.t 11))⟩,
     ⟨(some 13), (some (12, false)), (.mov (.t 0))⟩,
     ⟨(some 14), (some (12, false)), (.mov (.t 1))⟩,
     ⟨(some 15), (some (12, false)), (.bin .lss 9 (.t 13) (.t 14))⟩,
     ⟨(some 16), none, (.pick (.t 12) (.v (.bool true)) (.t 15))⟩,
     ⟨(some 4), none, (.mov (.t 16))⟩])
  .ret))
theorem k28 : FnIs Try.prog 28 17 [.t 4] a28 := ⟨_, _, Try.func28, rfl, by kernel_rfl, by kernel_rfl, rfl⟩
/- slices.IsSorted[[]string,string] -/
def a12 : ACode :=
  (.seq (.region false [] [
     ⟨(some 2), none, (.mov (.v (.bool false)))⟩])
  (.seq (.seq (.region false [] [
     ⟨(some 4), none, (.mov (.t 0))⟩,
     ⟨(some 5), none, (.len (.t 4))⟩,
     ⟨(some 6), none, (.bin .sub 3 (.t 5) (.v (.int .i64 1)))⟩,
     ⟨(some 3), none, (.mov (.t 6))⟩])
  (.block 0 (.loop (.seq (.seq (.region false [] [
       ⟨(some 7), none, (.mov (.t 3))⟩,
       ⟨(some 8), none, (.bin .gtr 3 (.t 7) (.v (.int .i64 0)))⟩])
    (.cond (.t 8)
      .skip
      (.exit 0)))
    (.seq (.block 1 (.seq (.region true [[], [], [0, 1], [2], [], [], [5], [4, 6], [7], [3, 8]] [
        ⟨(some 11), none, (.mov (.t 0))⟩,
        ⟨(some 12), none, (.mov (.t 3))⟩,
        ⟨(some 13), none, (.idx 1 (.t 11) (.t 12))⟩,
        ⟨(some 14), none, (.load 1 false (.t 13))⟩,
        ⟨(some 15), none, (.mov (.t 0))⟩,
        ⟨(some 16), none, (.mov (.t 3))⟩,
        ⟨(some 17), none, (.bin .sub 3 (.t 16) (.v (.int .i64 1)))⟩,
        ⟨(some 18), none, (.idx 1 (.t 15) (.t 17))⟩,
        ⟨(some 19), none, (.load 1 false (.t 18))⟩,
        ⟨(some 20), none, (.call 28 [(.t 14), (.t 19)])⟩])
     (.cond (.t 20)
       (.seq (.region false [] [
          ⟨(some 2), none, (.mov (.v (.bool false)))⟩])
       .ret)
       .skip)))
    (.region false [] [
       ⟨(some 9), none, (.mov (.t 3))⟩,
       ⟨(some 10), none, (.bin .sub 3 (.t 9) (.v (.int .i64 1)))⟩,
       ⟨(some 3), none, (.mov (.t 10))⟩]))))))
  (.seq (.region false [] [
     ⟨(some 2), none, (.mov (.v (.bool true)))⟩])
  .ret)))
theorem k12 : FnIs Try.prog 12 21 [.t 2] a12 := ⟨_, _, Try.func12, rfl, by kernel_rfl, by kernel_rfl, rfl⟩
/- gridhall/gridhallkeep4.alarmFact -/
def a7 : ACode :=
  (.seq (.region false [] [
     ⟨(some 0), none, (.mov (.v (.bool false)))⟩])
  (.seq (.region false [] [
     ⟨(some 4), none, (.build (.agg #[(.string ⟨#[]⟩), (.string ⟨#[]⟩)]) [(0, (1, (.v (.string ⟨#[66]⟩)))), (1, (1, (.v (.string ⟨#[65]⟩))))])⟩,
     ⟨(some 5), none, (.build (.agg #[(.string ⟨#[]⟩), (.string ⟨#[]⟩)]) [(0, (1, (.v (.string ⟨#[67]⟩)))), (1, (1, (.v (.string ⟨#[66]⟩))))])⟩,
     ⟨(some 6), none, (.bsl 28 2 2 [(0, (.t 4)), (1, (.t 5))])⟩,
     ⟨(some 7), none, (.bsl 9 1 3 [(0, (.v (.string ⟨#[67]⟩))), (1, (.v (.string ⟨#[65]⟩))), (2, (.v (.string ⟨#[66]⟩)))])⟩,
     ⟨(some 8), none, (.call 11 [(.t 6), (.t 7)])⟩,
     ⟨(some 3), none, (.mov (.t 8))⟩,
     ⟨(some 9), none, (.ext 0 (.t 3))⟩,
     ⟨(some 10), none, (.ext 1 (.t 3))⟩,
     ⟨(some 1), none, (.mov (.t 9))⟩,
     ⟨(some 2), none, (.mov (.t 10))⟩])
  (.seq (.region false [] [
     ⟨(some 11), none, (.mov (.t 2))⟩,
     ⟨(some 12), none, (.bin .eql 24 (.t 11) (.v (.int .i64 0)))⟩,
     ⟨(some 13), none, (.mov (.t 12))⟩,
     ⟨(some 14), (some (13, true)), (.mov (.t 1))⟩,
     ⟨(some 15), (some (13, true)), (.bsl 9 1 1 [(0, (.v (.string ⟨#[65]⟩)))])⟩,
     ⟨(some 16), (some (13, true)), (.call 13 [(.t 14), (.t 15)])⟩,
     ⟨(some 17), none, (.pick (.t 13) (.t 16) (.v (.bool false)))⟩,
     ⟨(some 0), none, (.mov (.t 17))⟩])
  .ret)))
theorem k7 : FnIs Try.prog 7 18 [.t 0] a7 := ⟨_, _, Try.func7, rfl, by kernel_rfl, by kernel_rfl, rfl⟩

/-- A list is equal to itself. -/
theorem s13 (nl fl nm' fm) (l : List (ByteArray)) (hl : l.length ≤ 1000) : Aw.Spec Try.prog 13 [] [.imm nl fl 1 (l.map sc), .imm nm' fm 1 (l.map sc)] (Gives (· = B true)) := by
  refine Aw.Spec.givesD k13 mixed rfl rfl rfl fun E hn hnp hp => ?_
  unfold a13
  have e9 : ((l.length : Int) != (l.length : Int)) = false := by simp
  simp (config := { maxSteps := 2000000 }) only [go_sem, ↓reduceIte, Int.reduceToNat, Nat.reduceMul, Int.reduceBEq, Int.reduceBNe, Nat.reduceBEq, Nat.reduceAdd, Nat.reduceSub, Nat.reduceLeDiff, Nat.reduceEqDiff, Nat.reduceLT, reduceCtorEq, e9]
  refine AWp.loop (fun k s => ∃ i : Nat, i + k = l.length ∧ Weak E s ⟨[(0, .imm nl fl 1 (l.map sc)), (1, .imm nm' fm 1 (l.map sc)), (12, I l.length), (13, I i)], []⟩) (n := l.length)
    ⟨0, by omega, weak_to [] hp hnp rfl (by simp (config := { maxSteps := 2000000 }) only [go_sem, ↓reduceIte, Int.reduceToNat, Nat.reduceMul, Int.reduceBEq, Int.reduceBNe, Nat.reduceBEq, Nat.reduceAdd, Nat.reduceSub, Nat.reduceLeDiff, Nat.reduceEqDiff, Nat.reduceLT, reduceCtorEq, Int.natCast_zero]) rfl⟩ ?_
  rintro k s ⟨i, hi, hw⟩
  refine AWp.weak hw (AWp.ofD [] [] hn mixed rfl ?_)
  rcases Nat.lt_or_ge i l.length with hlt | hge
  · have e0 : decide ((i : Int) < (l.length : Int)) = true := by simp; omega
    have e1 := getD_map sc hlt
    have e2 : IntKind.i64.wrap ((i : Int) + 1) = ((i + 1 : Nat) : Int) := by rw [w64 (by omega) (by omega)]; omega
    simp (config := { maxSteps := 2000000 }) only [go_sem, ↓reduceIte, Int.reduceToNat, Nat.reduceMul, Int.reduceBEq, Int.reduceBNe, Nat.reduceBEq, Nat.reduceAdd, Nat.reduceSub, Nat.reduceLeDiff, Nat.reduceEqDiff, Nat.reduceLT, reduceCtorEq, e0, e1, e2]
    (repeat (refine And.intro (by first | omega | (refine ⟨by omega, by omega⟩) | (refine ⟨by omega, by omega, by omega⟩) | (simp only [List.length_map, List.length_range, List.length_append, List.length_cons, List.length_nil, List.length_replicate, List.length_set]; omega) | (simp; omega) | (intro hgd; cases hgd) | (intro hgd; refine ⟨hgd, ?_⟩; first | omega | (refine ⟨by omega, by omega⟩) | (simp; omega))) ?_))
    exact ⟨k - 1, by omega, i + 1, by omega, weak_to [] hp hnp rfl (by simp (config := { maxSteps := 2000000 }) only [go_sem, ↓reduceIte, Int.reduceToNat, Nat.reduceMul, Int.reduceBEq, Int.reduceBNe, Nat.reduceBEq, Nat.reduceAdd, Nat.reduceSub, Nat.reduceLeDiff, Nat.reduceEqDiff, Nat.reduceLT, reduceCtorEq]) rfl⟩
  · have e0 : decide ((i : Int) < (l.length : Int)) = false := by simp; omega
    simp (config := { maxSteps := 2000000 }) only [go_sem, ↓reduceIte, Int.reduceToNat, Nat.reduceMul, Int.reduceBEq, Int.reduceBNe, Nat.reduceBEq, Nat.reduceAdd, Nat.reduceSub, Nat.reduceLeDiff, Nat.reduceEqDiff, Nat.reduceLT, reduceCtorEq, e0]

theorem s41 (a : ByteArray) : Aw.Spec Try.prog 41 [] [S a] (Gives (· = B false)) := by
  refine Aw.Spec.givesD k41 mixed rfl rfl rfl fun E hn hnp hp => ?_
  unfold a41
  simp (config := { maxSteps := 2000000 }) only [go_sem, ↓reduceIte, Int.reduceToNat, Nat.reduceMul, Int.reduceBEq, Int.reduceBNe, Nat.reduceBEq, Nat.reduceAdd, Nat.reduceSub, Nat.reduceLeDiff, Nat.reduceEqDiff, Nat.reduceLT, reduceCtorEq]
theorem s28 (a b : ByteArray) : Aw.Spec Try.prog 28 [] [S a, S b] (Gives (· = B (ltS a b))) := by
  refine Aw.Spec.givesD k28 mixed rfl rfl rfl fun E hn hnp hp => ?_
  unfold a28
  simp (config := { maxSteps := 2000000 }) only [go_sem, ↓reduceIte, Int.reduceToNat, Nat.reduceMul, Int.reduceBEq, Int.reduceBNe, Nat.reduceBEq, Nat.reduceAdd, Nat.reduceSub, Nat.reduceLeDiff, Nat.reduceEqDiff, Nat.reduceLT, reduceCtorEq]
  (refine AWpL.calle (s41 a) rfl (by rw [hn]; rfl) (by simp (config := { maxSteps := 2000000 }) only [go_sem, ↓reduceIte, Int.reduceToNat, Nat.reduceMul, Int.reduceBEq, Int.reduceBNe, Nat.reduceBEq, Nat.reduceAdd, Nat.reduceSub, Nat.reduceLeDiff, Nat.reduceEqDiff, Nat.reduceLT, reduceCtorEq]) (AWpL.ofM hn rfl ?_); simp (config := { maxSteps := 2000000 }) only [go_sem, ↓reduceIte, Int.reduceToNat, Nat.reduceMul, Int.reduceBEq, Int.reduceBNe, Nat.reduceBEq, Nat.reduceAdd, Nat.reduceSub, Nat.reduceLeDiff, Nat.reduceEqDiff, Nat.reduceLT, reduceCtorEq])
  have hlt : ltS a b = Op.bytesLess a.toList b.toList := rfl
  refine AWpL.gcalle (b := false) (by simp (config := { maxSteps := 2000000 }) only [go_sem, ↓reduceIte, Int.reduceToNat, Nat.reduceMul, Int.reduceBEq, Int.reduceBNe, Nat.reduceBEq, Nat.reduceAdd, Nat.reduceSub, Nat.reduceLeDiff, Nat.reduceEqDiff, Nat.reduceLT, reduceCtorEq]) (fun _ => s41 b) rfl (by rw [hn]; rfl) (fun hb => by cases hb) (AWpL.ofM hn rfl ?_)
  simp (config := { maxSteps := 2000000 }) only [go_sem, ↓reduceIte, Int.reduceToNat, Nat.reduceMul, Int.reduceBEq, Int.reduceBNe, Nat.reduceBEq, Nat.reduceAdd, Nat.reduceSub, Nat.reduceLeDiff, Nat.reduceEqDiff, Nat.reduceLT, reduceCtorEq, hlt]
theorem s12 (nl fl) (l : List ByteArray) (hs : l.Pairwise fun a b => ltS b a = false) (hl : l.length ≤ 1000) : Aw.Spec Try.prog 12 [] [ss nl fl l] (Gives (· = B true)) := by
  refine Aw.Spec.givesD k12 mixed rfl rfl rfl fun E hn hnp hp => ?_
  unfold a12
  have e1 : IntKind.i64.wrap ((l.length : Int) - 1) = (l.length : Int) - 1 := w64 (by omega) (by omega)
  simp (config := { maxSteps := 2000000 }) only [go_sem, ↓reduceIte, Int.reduceToNat, Nat.reduceMul, Int.reduceBEq, Int.reduceBNe, Nat.reduceBEq, Nat.reduceAdd, Nat.reduceSub, Nat.reduceLeDiff, Nat.reduceEqDiff, Nat.reduceLT, reduceCtorEq, e1]
  refine AWp.loop (fun k s => ∃ i : Int, -1 ≤ i ∧ i < l.length ∧ (k : Int) = i + 1 ∧ Weak E s ⟨[(0, ss nl fl l), (3, I i)], []⟩) (n := l.length)
    ⟨(l.length : Int) - 1, by omega, by omega, by omega, weak_to [] hp hnp rfl (by simp (config := { maxSteps := 2000000 }) only [go_sem, ↓reduceIte, Int.reduceToNat, Nat.reduceMul, Int.reduceBEq, Int.reduceBNe, Nat.reduceBEq, Nat.reduceAdd, Nat.reduceSub, Nat.reduceLeDiff, Nat.reduceEqDiff, Nat.reduceLT, reduceCtorEq]) rfl⟩ ?_
  rintro k s ⟨i, h0, h1, hk, hw⟩
  refine AWp.weak hw (AWp.ofD [] [] hn mixed rfl ?_)
  by_cases hi : 0 < i
  · obtain ⟨j, rfl⟩ : ∃ j : Nat, i = (j + 1 : Nat) := ⟨(i - 1).toNat, by omega⟩
    have hj : j + 1 < l.length := by omega
    have e0 : decide (((j + 1 : Nat) : Int) > 0) = true := decide_eq_true (by omega)
    have e2 : IntKind.i64.wrap (((j + 1 : Nat) : Int) - 1) = (j : Int) := by rw [w64 (by omega) (by omega)]; omega
    have e3 := getD_map sc hj
    have e4 := getD_map sc (show j < l.length by omega)
    have hlt := List.pairwise_iff_getElem.1 hs j (j + 1) (by omega) hj (by omega)
    generalize l[j + 1] = x at *
    generalize l[j] = y at *
    simp (config := { maxSteps := 2000000 }) only [go_sem, ↓reduceIte, Int.reduceToNat, Nat.reduceMul, Int.reduceBEq, Int.reduceBNe, Nat.reduceBEq, Nat.reduceAdd, Nat.reduceSub, Nat.reduceLeDiff, Nat.reduceEqDiff, Nat.reduceLT, reduceCtorEq, e0, e2, e3, e4]
    (repeat (refine And.intro (by first | omega | (refine ⟨by omega, by omega⟩) | (refine ⟨by omega, by omega, by omega⟩) | (simp only [List.length_map, List.length_range, List.length_append, List.length_cons, List.length_nil, List.length_replicate, List.length_set]; omega) | (simp; omega) | (intro hgd; cases hgd) | (intro hgd; refine ⟨hgd, ?_⟩; first | omega | (refine ⟨by omega, by omega⟩) | (simp; omega))) ?_))
    refine AWpQ.calle (s28 x y) (by rw [hn]; rfl) (by simp (config := { maxSteps := 2000000 }) only [go_sem, ↓reduceIte, Int.reduceToNat, Nat.reduceMul, Int.reduceBEq, Int.reduceBNe, Nat.reduceBEq, Nat.reduceAdd, Nat.reduceSub, Nat.reduceLeDiff, Nat.reduceEqDiff, Nat.reduceLT, reduceCtorEq]) (AWpQ.of hn rfl ?_)
    rw [hlt]
    simp (config := { maxSteps := 2000000 }) only [go_sem, ↓reduceIte, Int.reduceToNat, Nat.reduceMul, Int.reduceBEq, Int.reduceBNe, Nat.reduceBEq, Nat.reduceAdd, Nat.reduceSub, Nat.reduceLeDiff, Nat.reduceEqDiff, Nat.reduceLT, reduceCtorEq, e2]
    exact ⟨k - 1, by omega, j, by omega, by omega, by omega, weak_to [] hp hnp rfl (by simp (config := { maxSteps := 2000000 }) only [go_sem, ↓reduceIte, Int.reduceToNat, Nat.reduceMul, Int.reduceBEq, Int.reduceBNe, Nat.reduceBEq, Nat.reduceAdd, Nat.reduceSub, Nat.reduceLeDiff, Nat.reduceEqDiff, Nat.reduceLT, reduceCtorEq]) rfl⟩
  · have e0 : decide (i > 0) = false := decide_eq_false (by omega)
    simp (config := { maxSteps := 2000000 }) only [go_sem, ↓reduceIte, Int.reduceToNat, Nat.reduceMul, Int.reduceBEq, Int.reduceBNe, Nat.reduceBEq, Nat.reduceAdd, Nat.reduceSub, Nat.reduceLeDiff, Nat.reduceEqDiff, Nat.reduceLT, reduceCtorEq, e0]
def bA : ByteArray := ⟨#[65]⟩
def bB : ByteArray := ⟨#[66]⟩
def bC : ByteArray := ⟨#[67]⟩
theorem factF : causesE [⟨bB, bA⟩, ⟨bC, bB⟩] [bC, bA, bB] = 0 ∧ firstsF (reachF [⟨bB, bA⟩, ⟨bC, bB⟩] [bC, bA, bB]) [bC, bA, bB] 3 = [bA] := by decide +kernel
theorem factL : causesL [⟨bB, bA⟩, ⟨bC, bB⟩] [bC, bA, bB] = [bA] := by
  unfold causesL
  rw [if_pos factF.1, show ([bC, bA, bB] : List ByteArray).length = 3 from rfl, factF.2]
  unfold sortS
  rw [List.map_cons, List.map_nil, List.mergeSort_singleton]
  rfl
theorem s7 : Aw.Spec Try.prog 7 [] [] (Gives (· = B true)) := by
  refine Aw.Spec.givesW k7 rfl rfl fun E hn hnp hp => ?_
  unfold a7
  have pin : ∀ r, E.pin r = none := fun r => hp.none hnp (Nat.zero_le _)
  refine AWp.ofD [] [] hn mixed rfl ?_
  simp (config := { maxSteps := 2000000 }) only [go_sem, ↓reduceIte, Int.reduceToNat, Nat.reduceMul, Int.reduceBEq, Int.reduceBNe, Nat.reduceBEq, Nat.reduceAdd, Nat.reduceSub, Nat.reduceLeDiff, Nat.reduceEqDiff, Nat.reduceLT, reduceCtorEq]
  refine AWpL.weak (weak_freeze 0 rfl (pin 0) (by simp (config := { maxSteps := 2000000 }) only [go_sem, ↓reduceIte, Int.reduceToNat, Nat.reduceMul, Int.reduceBEq, Int.reduceBNe, Nat.reduceBEq, Nat.reduceAdd, Nat.reduceSub, Nat.reduceLeDiff, Nat.reduceEqDiff, Nat.reduceLT, reduceCtorEq, Nat.le_refl])) ?_
  simp (config := { maxSteps := 2000000 }) only [go_sem, ↓reduceIte, Int.reduceToNat, Nat.reduceMul, Int.reduceBEq, Int.reduceBNe, Nat.reduceBEq, Nat.reduceAdd, Nat.reduceSub, Nat.reduceLeDiff, Nat.reduceEqDiff, Nat.reduceLT, reduceCtorEq]
  refine AWpL.weak (weak_freeze 1 rfl (pin 1) (by simp (config := { maxSteps := 2000000 }) only [go_sem, ↓reduceIte, Int.reduceToNat, Nat.reduceMul, Int.reduceBEq, Int.reduceBNe, Nat.reduceBEq, Nat.reduceAdd, Nat.reduceSub, Nat.reduceLeDiff, Nat.reduceEqDiff, Nat.reduceLT, reduceCtorEq, Nat.le_refl])) ?_
  simp (config := { maxSteps := 2000000 }) only [go_sem, ↓reduceIte, Int.reduceToNat, Nat.reduceMul, Int.reduceBEq, Int.reduceBNe, Nat.reduceBEq, Nat.reduceAdd, Nat.reduceSub, Nat.reduceLeDiff, Nat.reduceEqDiff, Nat.reduceLT, reduceCtorEq]
  refine AWpL.callA (args := [cas none true [⟨bB, bA⟩, ⟨bC, bB⟩], ss none true [bC, bA, bB]]) [] (s11 none true [⟨bB, bA⟩, ⟨bC, bB⟩] none true [bC, bA, bB] (fun c hc => by
      rcases List.mem_cons.1 hc with rfl | hc
      · exact ⟨by decide, by decide⟩
      · cases List.mem_singleton.1 hc; exact ⟨by decide, by decide⟩) (fun x hx => by
      rcases List.mem_cons.1 hx with rfl | hx
      · decide
      rcases List.mem_cons.1 hx with rfl | hx
      · decide
      · cases List.mem_singleton.1 hx; decide)) rfl rfl (by rw [hn]; rfl) rfl (fun r hr => by cases hr) fun rg v hv => ?_
  obtain ⟨rfl, rfl⟩ := hv
  refine ⟨Nat.zero_le _, AWpL.ofM hn rfl ?_⟩
  rw [factL, factF.1]
  simp (config := { maxSteps := 2000000 }) only [go_sem, ↓reduceIte, Int.reduceToNat, Nat.reduceMul, Int.reduceBEq, Int.reduceBNe, Nat.reduceBEq, Nat.reduceAdd, Nat.reduceSub, Nat.reduceLeDiff, Nat.reduceEqDiff, Nat.reduceLT, reduceCtorEq, Aw.retS, Aw.retRg, Aw.kpM, Aw.bkM, Aw.pos, Aw.isBox]
  refine AWpL.weak (weak_freeze 2 rfl (pin 2) (by simp (config := { maxSteps := 2000000 }) only [go_sem, ↓reduceIte, Int.reduceToNat, Nat.reduceMul, Int.reduceBEq, Int.reduceBNe, Nat.reduceBEq, Nat.reduceAdd, Nat.reduceSub, Nat.reduceLeDiff, Nat.reduceEqDiff, Nat.reduceLT, reduceCtorEq, Nat.le_refl])) ?_
  simp (config := { maxSteps := 2000000 }) only [go_sem, ↓reduceIte, Int.reduceToNat, Nat.reduceMul, Int.reduceBEq, Int.reduceBNe, Nat.reduceBEq, Nat.reduceAdd, Nat.reduceSub, Nat.reduceLeDiff, Nat.reduceEqDiff, Nat.reduceLT, reduceCtorEq]
  refine AWpL.guardT rfl (AWpL.weak (weak_opt 14 rfl) ?_)
  refine AWpL.calle (s13 none false none true [bA] (by decide)) rfl (by rw [hn]; rfl) (by simp (config := { maxSteps := 2000000 }) only [go_sem, ↓reduceIte, Int.reduceToNat, Nat.reduceMul, Int.reduceBEq, Int.reduceBNe, Nat.reduceBEq, Nat.reduceAdd, Nat.reduceSub, Nat.reduceLeDiff, Nat.reduceEqDiff, Nat.reduceLT, reduceCtorEq]) (AWpL.ofM hn rfl ?_)
  simp (config := { maxSteps := 2000000 }) only [go_sem, ↓reduceIte, Int.reduceToNat, Nat.reduceMul, Int.reduceBEq, Int.reduceBNe, Nat.reduceBEq, Nat.reduceAdd, Nat.reduceSub, Nat.reduceLeDiff, Nat.reduceEqDiff, Nat.reduceLT, reduceCtorEq]
end Go.Proofs.Ytoickofcmngdjaa
