/- Orders: the law of what is held. -/
import Derived.Test.YtkbipopkemfhaaaAwZg
import Derived.Test.YtkbipopkemfhaaaOrdN
set_option linter.unusedVariables false
set_option linter.unusedSimpArgs false
namespace Go.Proofs.Ytkbipopkemfhaaa
open Go.Proofs.Ytkbipopkemfhaaa.Aw
attribute [local go_sem] Int.natCast_zero Int.natCast_one bne_self_eq_false beq_self_eq_true Bool.not_true Bool.not_false Option.isSome_none Option.isSome_some Aw.bkM_nil Option.getD_some Option.getD_none Nat.sub_zero Int.toNat_zero Aw.frzS Aw.frzT Aw.frzA Aw.frzL Aw.frzR Aw.frzO Aw.frzOL Aw.frzOT Aw.frzOR Aw.killS Aw.mapT Aw.mapR Aw.killM Aw.resAVs Aw.resAV Aw.quietOps Aw.wpP Aw.wpT Aw.wpS Aw.AOp.mild List.getElem?_cons_zero List.getElem?_cons_succ Bool.and_false Bool.and_self Bool.false_and Aw.opOb Aw.gdB Aw.Rnd Aw.subTm List.length_map Int.toNat_natCast and_self Aw.SeqC Aw.stops Aw.Ends Aw.looks Aw.renA Aw.renL Aw.renT Aw.renS Aw.wpO Aw.aop Aw.putTm Aw.St.ev Aw.St.put Aw.St.putO Aw.binAV Aw.intBin Aw.strBin Aw.pickAV Aw.optInt Aw.AV.strip Aw.AV.guard Aw.AV.cells Aw.gdOb Aw.AOp.opds Aw.AOp.still Aw.ptrCells Aw.St.reg Aw.fillAV Aw.fillOb Aw.elsOb Aw.splice Aw.firm Aw.cellish Aw.AV.shut Aw.shutAll Aw.Seq Aw.Blk Aw.retS_nil Aw.mapA Aw.mapL Aw.borA Aw.borOb Aw.allOb Aw.tupOf Aw.params Aw.Opd.of Array.toList Value.cells List.map_cons List.map_nil List.getD_cons_zero List.getD_cons_succ List.getD_nil List.length_cons List.length_nil List.take_succ_cons List.take_zero List.take_nil List.drop_zero List.drop_succ_cons List.drop_nil List.set_cons_zero List.set_cons_succ List.append_nil List.nil_append List.cons_append List.all_cons List.all_nil cond_false cond_true if_true if_false true_and and_true Bool.and_true Bool.true_and Option.map_some Option.map_none false_implies forall_const implies_true forall_eq imp_self Bool.cond_false_right Bool.cond_true_left beq_true beq_false Bool.not_eq_true' Bool.false_eq_true Nat.zero_add Nat.add_zero Aw.eqCells Aw.stopDraw Aw.skipS Aw.exactCap Aw.revealS Aw.srcEls Aw.srcSz
attribute [local go_sem ↓] Aw.look_nil Aw.look_ite Aw.wpL_nil Aw.wpL_op Aw.wpL_gd Aw.wpQ_nil Aw.wpQ_op Aw.wpQ_gd Aw.wpC_draw Aw.wpC_reg Aw.wpC_skip Aw.wpC_ret Aw.wpC_exit Aw.wpC_seq Aw.wpC_block Aw.wpC_loop Aw.wpC_cond Aw.stopAt_nil Aw.stopAt_cons Aw.wpD_skip Aw.wpD_ret Aw.wpD_exit Aw.wpD_region Aw.wpD_draw Aw.wpM_nil Aw.wpM_op Aw.wpM_gd Aw.wpD_seq Aw.wpD_block Aw.wpD_loop Aw.wpD_cond

/- gridhall/gridhallkeep4.OrderHeld -/
def a4 : ACode :=
  (.seq (.region false [] [
     ⟨(some 5), none, (.box 23 (.t 1))⟩,
     ⟨(some 7), none, (.box 3 (.t 3))⟩,
     ⟨(some 8), none, (.mov (.v (.bool false)))⟩])
  (.seq (.region true [[], [], [1], [2], [0, 3], [], [], [6], [7], [5, 8], [4, 0, 1, 2, 3, 4], [9, 10, 0, 1, 2, 3, 4, 5, 6, 7, 8, 9, 10]] [
     ⟨(some 11), none, (.load 1 false (.t 5))⟩,
     ⟨(some 12), none, (.load 1 false (.t 5))⟩,
     ⟨(some 13), none, (.len (.t 12))⟩,
     ⟨(some 14), none, (.mni (.t 13) (.v (.int .i64 6)))⟩,
     ⟨(some 15), none, (.slc 2 (.t 11) none (some (.t 14)) none)⟩,
     ⟨(some 16), none, (.mov (.t 2))⟩,
     ⟨(some 17), none, (.mov (.t 2))⟩,
     ⟨(some 18), none, (.len (.t 17))⟩,
     ⟨(some 19), none, (.mni (.t 18) (.v (.int .i64 6)))⟩,
     ⟨(some 20), none, (.slc 2 (.t 16) none (some (.t 19)) none)⟩,
     ⟨none, none, (.store 1 (.t 5) (.t 15))⟩,
     ⟨(some 2), none, (.mov (.t 20))⟩])
  (.seq (.seq (.region false [] [
     ⟨(some 21), none, (.load 1 false (.t 5))⟩,
     ⟨(some 22), none, (.len (.t 21))⟩,
     ⟨(some 23), none, (.bin .eql 3 (.t 22) (.v (.int .i64 0)))⟩])
  (.cond (.t 23)
    (.seq (.region false [] [
       ⟨(some 24), none, (.call 9 [])⟩,
       ⟨(some 8), none, (.mov (.t 24))⟩])
    .ret)
    .skip))
  (.seq (.region false [] [
     ⟨(some 25), none, (.load 1 false (.t 7))⟩,
     ⟨(some 26), none, (.load 1 false (.t 5))⟩,
     ⟨(some 27), none, (.len (.t 26))⟩,
     ⟨(some 28), none, (.bin .sub 3 (.t 27) (.v (.int .i64 1)))⟩,
     ⟨(some 29), none, (.call 10 [(.t 25), (.v (.int .i64 0)), (.t 28)])⟩,
     ⟨none, none, (.store 1 (.t 7) (.t 29))⟩])
  (.seq (.region true [[], [], [], [], [], [3, 4], [5], [6], [7], [0, 1, 2, 8], [9], [10], [10], [11, 9, 0, 1, 2, 3, 4, 5, 6, 7, 8, 9, 10, 11], [12, 13, 0, 1, 2, 3, 4, 5, 6, 7, 8, 9, 10, 11, 12, 13]] [
     ⟨(some 31), none, (.mov (.t 0))⟩,
     ⟨(some 32), none, (.load 1 false (.t 5))⟩,
     ⟨(some 33), none, (.mov (.t 2))⟩,
     ⟨(some 34), none, (.load 1 false (.t 5))⟩,
     ⟨(some 35), none, (.load 1 false (.t 7))⟩,
     ⟨(some 36), none, (.idx 2 (.t 34) (.t 35))⟩,
     ⟨(some 37), none, (.fld 0 (.t 36))⟩,
     ⟨(some 38), none, (.load 1 false (.t 37))⟩,
     ⟨(some 39), none, (.bsl 9 1 1 [(0, (.t 38))])⟩,
     ⟨(some 40), none, (.call 8 [(.t 31), (.t 32), (.t 33), (.t 39)])⟩,
     ⟨(some 30), none, (.mov (.t 40))⟩,
     ⟨(some 41), none, (.ext 0 (.t 30))⟩,
     ⟨(some 42), none, (.ext 1 (.t 30))⟩,
     ⟨(some 9), none, (.mov (.t 41))⟩,
     ⟨(some 10), none, (.mov (.t 42))⟩])
  (.seq (.seq (.region false [] [
     ⟨(some 43), none, (.mov (.t 10))⟩,
     ⟨(some 44), none, (.bin .neq 26 (.t 43) (.v (.int .i64 0)))⟩])
  (.cond (.t 44)
    (.seq (.region false [] [
       ⟨(some 45), none, (.call 9 [])⟩,
       ⟨(some 46), none, (.mov (.t 45))⟩,
       ⟨(some 47), (some (46, true)), (.mov (.t 9))⟩,
       ⟨(some 48), (some (46, true)), (.len (.t 47))⟩,
       ⟨(some 49), (some (46, true)), (.bin .eql 3 (.t 48) (.v (.int .i64 0)))⟩,
       ⟨(some 50), none, (.pick (.t 46) (.t 49) (.v (.bool false)))⟩,
       ⟨(some 8), none, (.mov (.t 50))⟩])
    .ret)
    .skip))
  (.seq (.region true [[], [0, 0], [1], [2, 1], [1], [4, 1], [3, 5, 1], [1, 6], [7, 1], [8], [8], [9, 10, 8], [11, 8], [8], [8], [13, 14, 8], [15, 8], [12, 16, 8], [8, 17], [18, 8], [19], [19], [20, 21, 19, 19], [22, 19], [19, 23], [24, 22, 0, 1, 2, 3, 4, 5, 6, 7, 8, 9, 10, 11, 12, 13, 14, 15, 16, 17, 18, 19, 20, 21, 22, 23, 24]] [
     ⟨(some 51), none, (.call 9 [])⟩,
     ⟨(some 52), none, (.mov (.t 51))⟩,
     ⟨(some 53), (some (52, true)), (.mov (.t 2))⟩,
     ⟨(some 54), (some (52, true)), (.len (.t 53))⟩,
     ⟨(some 55), (some (52, true)), (.load 1 false (.t 5))⟩,
     ⟨(some 56), (some (52, true)), (.len (.t 55))⟩,
     ⟨(some 57), (some (52, true)), (.bin .eql 3 (.t 54) (.t 56))⟩,
     ⟨(some 58), none, (.pick (.t 52) (.t 57) (.v (.bool false)))⟩,
     ⟨(some 59), none, (.mov (.t 58))⟩,
     ⟨(some 60), (some (59, true)), (.mov (.t 2))⟩,
     ⟨(some 61), (some (59, true)), (.load 1 false (.t 7))⟩,
     ⟨(some 62), (some (59, true)), (.idx 2 (.t 60) (.t 61))⟩,
     ⟨(some 63), (some (59, true)), (.load 2 true (.t 62))⟩,
     ⟨(some 64), (some (59, true)), (.load 1 false (.t 5))⟩,
     ⟨(some 65), (some (59, true)), (.load 1 false (.t 7))⟩,
     ⟨(some 66), (some (59, true)), (.idx 2 (.t 64) (.t 65))⟩,
     ⟨(some 67), (some (59, true)), (.load 2 true (.t 66))⟩,
     ⟨(some 68), (some (59, true)), (.aeq false [.s, .b] (.t 63) (.t 67))⟩,
     ⟨(some 69), none, (.pick (.t 59) (.t 68) (.v (.bool false)))⟩,
     ⟨(some 70), none, (.mov (.t 69))⟩,
     ⟨(some 71), (some (70, true)), (.mov (.t 9))⟩,
     ⟨(some 72), (some (70, true)), (.mkfn 12 [(.t 5), (.t 7)])⟩,
     ⟨(some 73), (some (70, true)), (.call 11 [(.t 71), (.t 72)])⟩,
     ⟨(some 74), (some (70, true)), (.un .not (.t 73))⟩,
     ⟨(some 75), none, (.pick (.t 70) (.t 74) (.v (.bool false)))⟩,
     ⟨(some 8), none, (.mov (.t 75))⟩])
  .ret)))))))
theorem k4 : FnIs Try.prog 4 76 [.t 8] a4 := ⟨_, _, Try.func4, rfl, by kernel_rfl, by kernel_rfl, rfl⟩
/- gridhall/gridhallkeep4.OrderHeld$1 -/
def a12 : ACode :=
  (.seq (.region false [] [
     ⟨(some 3), none, (.box 36 (.t 0))⟩,
     ⟨(some 4), none, (.mov (.v (.bool false)))⟩])
  (.seq (.region true [[], [0], [], [], [2, 3], [4], [5], [1, 6], [7, 0, 1, 2, 3, 4, 5, 6, 7]] [
     ⟨(some 5), none, (.fld 1 (.t 3))⟩,
     ⟨(some 6), none, (.load 1 false (.t 5))⟩,
     ⟨(some 7), none, (.load 1 false (.t 1))⟩,
     ⟨(some 8), none, (.load 1 false (.t 2))⟩,
     ⟨(some 9), none, (.idx 2 (.t 7) (.t 8))⟩,
     ⟨(some 10), none, (.fld 0 (.t 9))⟩,
     ⟨(some 11), none, (.load 1 false (.t 10))⟩,
     ⟨(some 12), none, (.bin .eql 9 (.t 6) (.t 11))⟩,
     ⟨(some 4), none, (.mov (.t 12))⟩])
  .ret))
theorem k12 : FnIs Try.prog 12 13 [.t 4] a12 := ⟨_, _, Try.func12, rfl, by kernel_rfl, by kernel_rfl, rfl⟩
/- slices.ContainsFunc[[]gridhall/api.OrderStep,gridhall/api.OrderStep] -/
def a11 : ACode :=
  (.seq (.region false [] [
     ⟨(some 4), none, (.mov (.v (.bool false)))⟩])
  (.seq (.region false [] [
     ⟨(some 5), none, (.mov (.t 0))⟩,
     ⟨(some 6), none, (.mov (.t 1))⟩,
     ⟨(some 7), none, (.call 25 [(.t 5), (.t 6)])⟩,
     ⟨(some 8), none, (.bin .geq 3 (.t 7) (.v (.int .i64 0)))⟩,
     ⟨(some 4), none, (.mov (.t 8))⟩])
  .ret))
theorem k11 : FnIs Try.prog 11 9 [.t 4] a11 := ⟨_, _, Try.func11, rfl, by kernel_rfl, by kernel_rfl, rfl⟩
/- slices.IndexFunc[[]gridhall/api.OrderStep,gridhall/api.OrderStep] -/
def a25 : ACode :=
  (.seq (.region false [] [
     ⟨(some 4), none, (.mov (.v (.int .i64 0)))⟩])
  (.seq (.seq (.region false [] [
     ⟨(some 6), none, (.mov (.t 0))⟩,
     ⟨(some 7), none, (.len (.t 6))⟩,
     ⟨(some 8), none, (.mov (.v (.int .i64 0)))⟩])
  (.block 0 (.loop (.seq (.region false [] [
       ⟨(some 9), none, (.bin .lss 3 (.t 8) (.t 7))⟩])
    (.seq (.cond (.t 9)
      .skip
      (.exit 0))
    (.seq (.block 1 (.seq (.region false [] [
        ⟨(some 10), none, (.mov (.t 8))⟩,
        ⟨(some 5), none, (.mov (.t 10))⟩])
     (.seq (.region false [] [
        ⟨(some 11), none, (.mov (.t 1))⟩,
        ⟨(some 12), none, (.mov (.t 0))⟩,
        ⟨(some 13), none, (.mov (.t 5))⟩,
        ⟨(some 14), none, (.idx 2 (.t 12) (.t 13))⟩,
        ⟨(some 15), none, (.load 2 true (.t 14))⟩,
        ⟨(some 16), none, (.callv (.t 11) [(.t 15)])⟩])
     (.cond (.t 16)
       (.seq (.region false [] [
          ⟨(some 17), none, (.mov (.t 5))⟩,
          ⟨(some 4), none, (.mov (.t 17))⟩])
       .ret)
       .skip))))
    (.region false [] [
       ⟨(some 18), none, (.bin .add 3 (.t 8) (.v (.int .i64 1)))⟩,
       ⟨(some 8), none, (.mov (.t 18))⟩])))))))
  (.seq (.region false [] [
     ⟨(some 4), none, (.mov (.v (.int .i64 (-1))))⟩])
  .ret)))
theorem k25 : FnIs Try.prog 25 19 [.t 4] a25 := ⟨_, _, Try.func25, rfl, by kernel_rfl, by kernel_rfl, rfl⟩

abbrev spa (s : Stp) : AV := .agg (spc s)
theorem s25 (nl fl) (l : List (Stp)) (g : FuncId) (caps : List AV) (p : Stp → Bool) (hg : fnOk Try.prog g = true) (hc : renL [] caps = caps) (hq : ∀ x ∈ l, Aw.Spec Try.prog g [] ((spa) x :: caps) (Gives (· = B (p x)))) (hl : l.length ≤ 9223372036854775807) :
    Aw.Spec Try.prog 25 [] [.imm nl fl 2 (l.map spc), .fn g caps] (Gives (· = I (fIndex p 0 l))) := by
  refine Aw.Spec.givesD k25 mixed rfl rfl rfl fun E hn hnp hp => ?_
  unfold a25
  simp (config := { maxSteps := 2000000 }) only [go_sem, ↓reduceIte, Int.reduceToNat, Nat.reduceMul, Int.reduceBEq, Int.reduceBNe, Nat.reduceBEq, Nat.reduceAdd, Nat.reduceSub, Nat.reduceLeDiff, Nat.reduceEqDiff, Nat.reduceLT, reduceCtorEq]
  refine AWp.loop (fun k s => ∃ i : Nat, i + k = l.length ∧ fIndex p 0 l = fIndex p i (l.drop i) ∧ Weak E s ⟨[(0, .imm nl fl 2 (l.map spc)), (1, .fn g caps), (7, I l.length), (8, I i)], []⟩) (n := l.length)
    ⟨0, by omega, rfl, weak_to [] hp hnp rfl (by simp (config := { maxSteps := 2000000 }) only [go_sem, ↓reduceIte, Int.reduceToNat, Nat.reduceMul, Int.reduceBEq, Int.reduceBNe, Nat.reduceBEq, Nat.reduceAdd, Nat.reduceSub, Nat.reduceLeDiff, Nat.reduceEqDiff, Nat.reduceLT, reduceCtorEq, hc, Int.natCast_zero]) rfl⟩ ?_
  rintro k s ⟨i, hi, hs, hw⟩
  refine AWp.weak hw (AWp.ofD [] [] hn mixed rfl ?_)
  rcases Nat.lt_or_ge i l.length with hlt | hge
  · have e0 : decide ((i : Int) < (l.length : Int)) = true := decide_eq_true (by omega)
    have e1 := getD_map spc hlt
    have e2 : IntKind.i64.wrap ((i : Int) + 1) = ((i + 1 : Nat) : Int) := by rw [w64 (by omega) (by omega)]; omega
    have h2 := hq _ (List.getElem_mem hlt)
    rw [fIndex_drop hlt] at hs
    generalize l[i] = x at e1 h2 hs
    simp (config := { maxSteps := 2000000 }) only [go_sem, ↓reduceIte, Int.reduceToNat, Nat.reduceMul, Int.reduceBEq, Int.reduceBNe, Nat.reduceBEq, Nat.reduceAdd, Nat.reduceSub, Nat.reduceLeDiff, Nat.reduceEqDiff, Nat.reduceLT, reduceCtorEq, e0, e1]
    (repeat (refine And.intro (by first | omega | (refine ⟨by omega, by omega⟩) | (refine ⟨by omega, by omega, by omega⟩) | (simp only [List.length_map, List.length_range, List.length_append, List.length_cons, List.length_nil, List.length_replicate, List.length_set]; omega) | (simp; omega) | (intro hgd; cases hgd) | (intro hgd; refine ⟨hgd, ?_⟩; first | omega | (refine ⟨by omega, by omega⟩) | (simp; omega))) ?_))
    refine AWpL.callv rfl hg (by rw [← hc] at h2; exact h2) (by rw [hn]; rfl) fun rg v hv => ?_
    obtain ⟨rfl, rfl⟩ := hv
    rw [retS_nil]
    refine AWpL.ofM hn rfl ?_
    simp (config := { maxSteps := 2000000 }) only [go_sem, ↓reduceIte, Int.reduceToNat, Nat.reduceMul, Int.reduceBEq, Int.reduceBNe, Nat.reduceBEq, Nat.reduceAdd, Nat.reduceSub, Nat.reduceLeDiff, Nat.reduceEqDiff, Nat.reduceLT, reduceCtorEq, e2]
    refine ⟨fun h => ?_, fun h => ?_⟩
    · rw [hs, if_pos h]
    · rw [if_neg (by simp [h])] at hs
      exact ⟨k - 1, by omega, i + 1, by omega, hs, weak_to [] hp hnp rfl (by simp (config := { maxSteps := 2000000 }) only [go_sem, ↓reduceIte, Int.reduceToNat, Nat.reduceMul, Int.reduceBEq, Int.reduceBNe, Nat.reduceBEq, Nat.reduceAdd, Nat.reduceSub, Nat.reduceLeDiff, Nat.reduceEqDiff, Nat.reduceLT, reduceCtorEq, hc]) rfl⟩
  · have e0 : decide ((i : Int) < (l.length : Int)) = false := decide_eq_false (by omega)
    simp (config := { maxSteps := 2000000 }) only [go_sem, ↓reduceIte, Int.reduceToNat, Nat.reduceMul, Int.reduceBEq, Int.reduceBNe, Nat.reduceBEq, Nat.reduceAdd, Nat.reduceSub, Nat.reduceLeDiff, Nat.reduceEqDiff, Nat.reduceLT, reduceCtorEq, e0]
    rw [hs, List.drop_of_length_le hge]
    rfl

theorem s11 (nl fl) (l : List (Stp)) (g : FuncId) (caps : List AV) (p : Stp → Bool) (hg : fnOk Try.prog g = true) (hc : renL [] caps = caps) (hb : caps.map (borA 3 ⟨[], []⟩) = caps) (hq : ∀ x ∈ l, Aw.Spec Try.prog g [] ((spa) x :: caps) (Gives (· = B (p x)))) (hl : l.length ≤ 9223372036854775807) :
    Aw.Spec Try.prog 11 [] [.imm nl fl 2 (l.map spc), .fn g caps] (Gives (· = B (l.any p))) := by
  refine Aw.Spec.givesD k11 mixed rfl rfl rfl fun E hn hnp hp => ?_
  unfold a11
  simp (config := { maxSteps := 2000000 }) only [go_sem, ↓reduceIte, Int.reduceToNat, Nat.reduceMul, Int.reduceBEq, Int.reduceBNe, Nat.reduceBEq, Nat.reduceAdd, Nat.reduceSub, Nat.reduceLeDiff, Nat.reduceEqDiff, Nat.reduceLT, reduceCtorEq]
  refine AWpL.callA [] (s25 nl fl l g caps p hg hc hq hl) rfl (by simp (config := { maxSteps := 2000000 }) only [go_sem, ↓reduceIte, Int.reduceToNat, Nat.reduceMul, Int.reduceBEq, Int.reduceBNe, Nat.reduceBEq, Nat.reduceAdd, Nat.reduceSub, Nat.reduceLeDiff, Nat.reduceEqDiff, Nat.reduceLT, reduceCtorEq, hc]) (by rw [hn]; rfl) rfl (fun r hr => by cases hr) fun rg v hv => ?_
  obtain ⟨rfl, rfl⟩ := hv
  refine ⟨Nat.le_refl _, ?_⟩
  rw [retS_nil]
  refine AWpL.ofM hn rfl ?_
  simp (config := { maxSteps := 2000000 }) only [go_sem, ↓reduceIte, Int.reduceToNat, Nat.reduceMul, Int.reduceBEq, Int.reduceBNe, Nat.reduceBEq, Nat.reduceAdd, Nat.reduceSub, Nat.reduceLeDiff, Nat.reduceEqDiff, Nat.reduceLT, reduceCtorEq]
  rw [fIndex_any]

theorem AOne.weak {P : Program} {E : Env} {m : Bool} {g : GOp} {s s' : St} {K : St → Prop} (hw : Weak E s s') (h : AOne P E m g s' K) : AOne P E m g s K := fun ops o hg a w hr Q => h ops o hg a w (hw a w hr) Q
theorem s12 (s : Stp) (nl fl) (l : List Sta) (k : Nat) (hk : k < l.length) : Aw.Spec Try.prog 12 [] [spa s, .pim [sts' nl fl l], .pim [I k]] (Gives (· = B (seq s.sw (l.getD k default).name))) := by
  refine Aw.Spec.givesD k12 mixed rfl rfl rfl fun E hn hnp hp => ?_
  unfold a12
  have e1 := getD_mapD default stc hk
  simp (config := { maxSteps := 2000000 }) only [go_sem, ↓reduceIte, Int.reduceToNat, Nat.reduceMul, Int.reduceBEq, Int.reduceBNe, Nat.reduceBEq, Nat.reduceAdd, Nat.reduceSub, Nat.reduceLeDiff, Nat.reduceEqDiff, Nat.reduceLT, reduceCtorEq, e1]
  (repeat (refine And.intro (by first | omega | (refine ⟨by omega, by omega⟩) | (refine ⟨by omega, by omega, by omega⟩) | (simp only [List.length_map, List.length_range, List.length_append, List.length_cons, List.length_nil, List.length_replicate, List.length_set]; omega) | (simp; omega) | (intro hgd; cases hgd) | (intro hgd; refine ⟨hgd, ?_⟩; first | omega | (refine ⟨by omega, by omega⟩) | (simp; omega))) ?_))
  rfl
set_option maxRecDepth 20000 in
set_option maxHeartbeats 2000000 in
theorem s4 (nr fr) (rules : List Rul) (na fa) (a0 : List Sta) (nb fb) (b0 : List Sta) (k0 : Int) (hs : ∀ r ∈ rules, RulOk r)
    (ha : ∀ x ∈ a0, x.name.size ≤ 9223372036854775807) (hb : ∀ x ∈ b0, x.name.size ≤ 9223372036854775807) :
    Aw.Spec Try.prog 4 [] [rs nr fr rules, sts' na fa a0, sts' nb fb b0, I k0] (Gives (· = B true)) := by
  refine Aw.Spec.givesD k4 mixed rfl rfl rfl fun E hn hnp hp => ?_
  unfold a4
  have pin : ∀ r, E.pin r = none := fun r => hp.none hnp (Nat.zero_le _)
  have ha2 : ∀ x ∈ a0.take 6, x.name.size ≤ 9223372036854775807 := fun x hx => ha x (List.mem_of_mem_take hx)
  have hb2 : ∀ x ∈ b0.take 6, x.name.size ≤ 9223372036854775807 := fun x hx => hb x (List.mem_of_mem_take hx)
  have hl6 : (a0.take 6).length ≤ 6 := by rw [List.length_take]; omega
  have hm6 : (b0.take 6).length ≤ 6 := by rw [List.length_take]; omega
  simp (config := { maxSteps := 2000000 }) only [go_sem, ↓reduceIte, Int.reduceToNat, Nat.reduceMul, Int.reduceBEq, Int.reduceBNe, Nat.reduceBEq, Nat.reduceAdd, Nat.reduceSub, Nat.reduceLeDiff, Nat.reduceEqDiff, Nat.reduceLT, reduceCtorEq]
  refine AWp.cut ⟨[(0, rs nr fr rules), (2, sts' nb false (b0.take 6)), (5, .ptr 0 0 0), (7, .ptr 1 0 0)], [.box 23 [sts' na false (a0.take 6)], .box 3 [I k0]]⟩ ?_ ?_
  · refine AWp.plan (.take 0 [false, true, true, true, false, true, true, true, true, true, false, false] (.take 1 [true, false, false, false, false, true, true, true, true, true, false, false] (.take 2 [true, true, false, false, false, true, true, true, true, true, false, false] (.take 3 [true, true, true, false, false, true, true, true, true, true, false, false] (.take 4 [true, true, true, true, false, true, true, true, true, true, false, false] (.three 5 (.two 6 (.two 7 (.two 8 (.two 9 (.one 10 (.take 11 [true, true, true, true, true, true, true, true, true, true, true, false] .done)) 10 (.take 9 [true, true, true, true, true, true, true, true, true, false, true, false] (.take 11 [true, true, true, true, true, true, true, true, true, true, true, false] .done))) 10 (.take 8 [true, true, true, true, true, true, true, true, false, false, true, false] (.take 9 [true, true, true, true, true, true, true, true, true, false, true, false] (.take 11 [true, true, true, true, true, true, true, true, true, true, true, false] .done)))) 10 (.take 7 [true, true, true, true, true, true, true, false, false, false, true, false] (.take 8 [true, true, true, true, true, true, true, true, false, false, true, false] (.take 9 [true, true, true, true, true, true, true, true, true, false, true, false] (.take 11 [true, true, true, true, true, true, true, true, true, true, true, false] .done))))) 10 (.take 6 [true, true, true, true, true, true, false, false, false, false, true, false] (.take 7 [true, true, true, true, true, true, true, false, false, false, true, false] (.take 8 [true, true, true, true, true, true, true, true, false, false, true, false] (.take 9 [true, true, true, true, true, true, true, true, true, false, true, false] (.take 11 [true, true, true, true, true, true, true, true, true, true, true, false] .done)))))) 6 (.three 5 (.two 7 (.two 8 (.two 9 (.one 10 (.take 11 [true, true, true, true, true, true, true, true, true, true, true, false] .done)) 10 (.take 9 [true, true, true, true, true, true, true, true, true, false, true, false] (.take 11 [true, true, true, true, true, true, true, true, true, true, true, false] .done))) 10 (.take 8 [true, true, true, true, true, true, true, true, false, false, true, false] (.take 9 [true, true, true, true, true, true, true, true, true, false, true, false] (.take 11 [true, true, true, true, true, true, true, true, true, true, true, false] .done)))) 10 (.take 7 [true, true, true, true, true, true, true, false, false, false, true, false] (.take 8 [true, true, true, true, true, true, true, true, false, false, true, false] (.take 9 [true, true, true, true, true, true, true, true, true, false, true, false] (.take 11 [true, true, true, true, true, true, true, true, true, true, true, false] .done))))) 7 (.three 5 (.two 8 (.two 9 (.one 10 (.take 11 [true, true, true, true, true, true, true, true, true, true, true, false] .done)) 10 (.take 9 [true, true, true, true, true, true, true, true, true, false, true, false] (.take 11 [true, true, true, true, true, true, true, true, true, true, true, false] .done))) 10 (.take 8 [true, true, true, true, true, true, true, true, false, false, true, false] (.take 9 [true, true, true, true, true, true, true, true, true, false, true, false] (.take 11 [true, true, true, true, true, true, true, true, true, true, true, false] .done)))) 8 (.two 5 (.two 9 (.one 10 (.take 11 [true, true, true, true, true, true, true, true, true, true, true, false] .done)) 10 (.take 9 [true, true, true, true, true, true, true, true, true, false, true, false] (.take 11 [true, true, true, true, true, true, true, true, true, true, true, false] .done))) 10 (.take 5 [true, true, true, true, true, false, true, true, true, false, true, false] (.take 9 [true, true, true, true, true, true, true, true, true, false, true, false] (.take 11 [true, true, true, true, true, true, true, true, true, true, true, false] .done)))) 10 (.take 5 [true, true, true, true, true, false, true, true, true, false, true, false] (.take 8 [true, true, true, true, true, true, true, true, false, false, true, false] (.take 9 [true, true, true, true, true, true, true, true, true, false, true, false] (.take 11 [true, true, true, true, true, true, true, true, true, true, true, false] .done))))) 10 (.take 5 [true, true, true, true, true, false, true, true, true, false, true, false] (.take 7 [true, true, true, true, true, true, true, false, false, false, true, false] (.take 8 [true, true, true, true, true, true, true, true, false, false, true, false] (.take 9 [true, true, true, true, true, true, true, true, true, false, true, false] (.take 11 [true, true, true, true, true, true, true, true, true, true, true, false] .done)))))) 10 (.take 5 [true, true, true, true, true, false, true, true, true, false, true, false] (.take 6 [true, true, true, true, true, true, false, false, false, false, true, false] (.take 7 [true, true, true, true, true, true, true, false, false, false, true, false] (.take 8 [true, true, true, true, true, true, true, true, false, false, true, false] (.take 9 [true, true, true, true, true, true, true, true, true, false, true, false] (.take 11 [true, true, true, true, true, true, true, true, true, true, true, false] .done)))))))))))) [true, true, true, true, true, true, true, true, true, true, false, true] mixed hn rfl rfl ?_
    simp (config := { maxSteps := 2000000 }) only [go_sem, ↓reduceIte, Int.reduceToNat, Nat.reduceMul, Int.reduceBEq, Int.reduceBNe, Nat.reduceBEq, Nat.reduceAdd, Nat.reduceSub, Nat.reduceLeDiff, Nat.reduceEqDiff, Nat.reduceLT, reduceCtorEq, minT6]
    repeat' refine And.intro ?_ ?_
    all_goals first | omega | exact weak_to [0, 1] hp hnp rfl (by simp (config := { maxSteps := 2000000 }) only [go_sem, ↓reduceIte, Int.reduceToNat, Nat.reduceMul, Int.reduceBEq, Int.reduceBNe, Nat.reduceBEq, Nat.reduceAdd, Nat.reduceSub, Nat.reduceLeDiff, Nat.reduceEqDiff, Nat.reduceLT, reduceCtorEq, Aw.pos]) (by simp (config := { maxSteps := 2000000 }) only [go_sem, ↓reduceIte, Int.reduceToNat, Nat.reduceMul, Int.reduceBEq, Int.reduceBNe, Nat.reduceBEq, Nat.reduceAdd, Nat.reduceSub, Nat.reduceLeDiff, Nat.reduceEqDiff, Nat.reduceLT, reduceCtorEq, Aw.renR, Aw.pos])
  generalize a0.take 6 = a at *
  generalize b0.take 6 = b at *
  by_cases hz : a.length = 0
  · have ez : ((a.length : Int) == 0) = true := by simp [hz]
    simp (config := { maxSteps := 2000000 }) only [go_sem, ↓reduceIte, Int.reduceToNat, Nat.reduceMul, Int.reduceBEq, Int.reduceBNe, Nat.reduceBEq, Nat.reduceAdd, Nat.reduceSub, Nat.reduceLeDiff, Nat.reduceEqDiff, Nat.reduceLT, reduceCtorEq, ez]
    (refine AWpL.calle (s9) rfl (by rw [hn]; rfl) (by simp (config := { maxSteps := 2000000 }) only [go_sem, ↓reduceIte, Int.reduceToNat, Nat.reduceMul, Int.reduceBEq, Int.reduceBNe, Nat.reduceBEq, Nat.reduceAdd, Nat.reduceSub, Nat.reduceLeDiff, Nat.reduceEqDiff, Nat.reduceLT, reduceCtorEq]) (AWpL.ofM hn rfl ?_); simp (config := { maxSteps := 2000000 }) only [go_sem, ↓reduceIte, Int.reduceToNat, Nat.reduceMul, Int.reduceBEq, Int.reduceBNe, Nat.reduceBEq, Nat.reduceAdd, Nat.reduceSub, Nat.reduceLeDiff, Nat.reduceEqDiff, Nat.reduceLT, reduceCtorEq])
  have ez : ((a.length : Int) == 0) = false := by simp [hz]
  have e1 : IntKind.i64.wrap ((a.length : Int) - 1) = (a.length : Int) - 1 := w64 (by omega) (by omega)
  simp (config := { maxSteps := 2000000 }) only [go_sem, ↓reduceIte, Int.reduceToNat, Nat.reduceMul, Int.reduceBEq, Int.reduceBNe, Nat.reduceBEq, Nat.reduceAdd, Nat.reduceSub, Nat.reduceLeDiff, Nat.reduceEqDiff, Nat.reduceLT, reduceCtorEq, ez, e1]
  have hc := cut_range k0 0 ((a.length : Int) - 1) (by omega)
  (refine AWpL.calle (s10 k0 0 ((a.length : Int) - 1) (by decide) (by omega) (by omega)) rfl (by rw [hn]; rfl) (by simp (config := { maxSteps := 2000000 }) only [go_sem, ↓reduceIte, Int.reduceToNat, Nat.reduceMul, Int.reduceBEq, Int.reduceBNe, Nat.reduceBEq, Nat.reduceAdd, Nat.reduceSub, Nat.reduceLeDiff, Nat.reduceEqDiff, Nat.reduceLT, reduceCtorEq]) (AWpL.ofM hn rfl ?_); simp (config := { maxSteps := 2000000 }) only [go_sem, ↓reduceIte, Int.reduceToNat, Nat.reduceMul, Int.reduceBEq, Int.reduceBNe, Nat.reduceBEq, Nat.reduceAdd, Nat.reduceSub, Nat.reduceLeDiff, Nat.reduceEqDiff, Nat.reduceLT, reduceCtorEq])
  obtain ⟨k, hk⟩ : ∃ k : Nat, cut k0 0 ((a.length : Int) - 1) = k := ⟨(cut k0 0 ((a.length : Int) - 1)).toNat, by omega⟩
  rw [hk] at hc ⊢
  have hkl : k < a.length := by omega
  have e2 := getD_mapD default stc hkl
  refine AWp.cut ⟨[(2, sts' nb false b), (5, .ptr 0 0 0), (7, .ptr 1 0 0), (9, .imm none false 2 ((planL ⟨nr, fr, rules, na, false, a, none, true, [(a.getD k default).name]⟩ b).map spc)), (10, I (planE rules a b [(a.getD k default).name]))], [.box 23 [sts' na false a], .box 3 [I k]]⟩ ?_ ?_
  · refine AWp.plan (.take 0 [false, true, true, true, true, true, true, true, true, false, false, false, false, false, false] (.take 1 [true, false, true, true, true, true, true, true, true, false, false, false, false, false, false] (.take 2 [true, true, false, true, true, true, true, true, true, false, false, false, false, false, false] (.take 3 [true, true, true, false, true, false, false, false, false, false, false, false, false, false, false] (.take 4 [true, true, true, true, false, false, false, false, false, false, false, false, false, false, false] (.take 5 [true, true, true, true, true, false, false, false, false, false, false, false, false, false, false] (.take 6 [true, true, true, true, true, true, false, false, false, false, false, false, false, false, false] (.take 7 [true, true, true, true, true, true, true, false, false, false, false, false, false, false, false] (.one 8 (.one 9 (.take 10 [true, true, true, true, true, true, true, true, true, true, false, false, false, false, false] (.take 11 [true, true, true, true, true, true, true, true, true, true, true, false, true, false, false] (.take 12 [true, true, true, true, true, true, true, true, true, true, true, true, false, true, false] (.take 13 [true, true, true, true, true, true, true, true, true, true, true, true, true, false, false] (.take 14 [true, true, true, true, true, true, true, true, true, true, true, true, true, true, false] .done))))))))))))))) [true, true, true, true, true, true, true, true, true, true, true, true, true, true, true] mixed hn rfl rfl ?_
    simp (config := { maxSteps := 2000000 }) only [go_sem, ↓reduceIte, Int.reduceToNat, Nat.reduceMul, Int.reduceBEq, Int.reduceBNe, Nat.reduceBEq, Nat.reduceAdd, Nat.reduceSub, Nat.reduceLeDiff, Nat.reduceEqDiff, Nat.reduceLT, reduceCtorEq, e2]
    refine ⟨by omega, ?_⟩
    refine AOne.weak (weak_freeze 2 rfl (pin 2) (by simp (config := { maxSteps := 2000000 }) only [go_sem, ↓reduceIte, Int.reduceToNat, Nat.reduceMul, Int.reduceBEq, Int.reduceBNe, Nat.reduceBEq, Nat.reduceAdd, Nat.reduceSub, Nat.reduceLeDiff, Nat.reduceEqDiff, Nat.reduceLT, reduceCtorEq, Nat.le_refl])) ?_
    simp (config := { maxSteps := 2000000 }) only [go_sem, ↓reduceIte, Int.reduceToNat, Nat.reduceMul, Int.reduceBEq, Int.reduceBNe, Nat.reduceBEq, Nat.reduceAdd, Nat.reduceSub, Nat.reduceLeDiff, Nat.reduceEqDiff, Nat.reduceLT, reduceCtorEq]
    refine AOne.callA (s8 ⟨nr, fr, rules, na, false, a, none, true, [(a.getD k default).name]⟩ nb false b (by simp) hs ha2 hb2) rfl (by rw [hn]; rfl) fun rg v hv => ?_
    obtain ⟨rfl, rfl⟩ := hv
    rw [retS_nil]
    simp (config := { maxSteps := 2000000 }) only [go_sem, ↓reduceIte, Int.reduceToNat, Nat.reduceMul, Int.reduceBEq, Int.reduceBNe, Nat.reduceBEq, Nat.reduceAdd, Nat.reduceSub, Nat.reduceLeDiff, Nat.reduceEqDiff, Nat.reduceLT, reduceCtorEq]
    exact weak_to [0, 1] hp hnp rfl (by simp (config := { maxSteps := 2000000 }) only [go_sem, ↓reduceIte, Int.reduceToNat, Nat.reduceMul, Int.reduceBEq, Int.reduceBNe, Nat.reduceBEq, Nat.reduceAdd, Nat.reduceSub, Nat.reduceLeDiff, Nat.reduceEqDiff, Nat.reduceLT, reduceCtorEq, Aw.pos]) (by simp (config := { maxSteps := 2000000 }) only [go_sem, ↓reduceIte, Int.reduceToNat, Nat.reduceMul, Int.reduceBEq, Int.reduceBNe, Nat.reduceBEq, Nat.reduceAdd, Nat.reduceSub, Nat.reduceLeDiff, Nat.reduceEqDiff, Nat.reduceLT, reduceCtorEq, Aw.renR, Aw.pos])
  have hst := held_stays (p := ⟨nr, fr, rules, na, false, a, none, true, [(a.getD k default).name]⟩) (b := b) hkl rfl
  have hnil : planE rules a b [(a.getD k default).name] ≠ 0 → planL ⟨nr, fr, rules, na, false, a, none, true, [(a.getD k default).name]⟩ b = [] := fun h => if_neg h
  have l1 := planL_le (p := ⟨nr, fr, rules, na, false, a, none, true, [(a.getD k default).name]⟩) (b := b)
  dsimp only at hst
  generalize planE rules a b [(a.getD k default).name] = e at *
  generalize planL ⟨nr, fr, rules, na, false, a, none, true, [(a.getD k default).name]⟩ b = x at *
  simp (config := { maxSteps := 2000000 }) only [go_sem, ↓reduceIte, Int.reduceToNat, Nat.reduceMul, Int.reduceBEq, Int.reduceBNe, Nat.reduceBEq, Nat.reduceAdd, Nat.reduceSub, Nat.reduceLeDiff, Nat.reduceEqDiff, Nat.reduceLT, reduceCtorEq]
  simp only [bne_iff_ne, bne_eq_false_iff_eq, ne_eq]
  refine ⟨fun h => ?_, fun h => ?_⟩
  · rw [hnil h]
    (refine AWpL.calle (s9) rfl (by rw [hn]; rfl) (by simp (config := { maxSteps := 2000000 }) only [go_sem, ↓reduceIte, Int.reduceToNat, Nat.reduceMul, Int.reduceBEq, Int.reduceBNe, Nat.reduceBEq, Nat.reduceAdd, Nat.reduceSub, Nat.reduceLeDiff, Nat.reduceEqDiff, Nat.reduceLT, reduceCtorEq]) (AWpL.ofM hn rfl ?_); simp (config := { maxSteps := 2000000 }) only [go_sem, ↓reduceIte, Int.reduceToNat, Nat.reduceMul, Int.reduceBEq, Int.reduceBNe, Nat.reduceBEq, Nat.reduceAdd, Nat.reduceSub, Nat.reduceLeDiff, Nat.reduceEqDiff, Nat.reduceLT, reduceCtorEq])
  obtain ⟨g1, g2, g3⟩ := hst h
  have e3 := getD_mapD default stc (l := b) (i := k) (by omega)
  rw [g2] at e3
  have e4 : ((b.length : Int) == (a.length : Int)) = true := by simp; omega
  generalize hq : a.getD k default = q at *
  refine AWpQ.calle (s9) (by rw [hn]; rfl) (by simp (config := { maxSteps := 2000000 }) only [go_sem, ↓reduceIte, Int.reduceToNat, Nat.reduceMul, Int.reduceBEq, Int.reduceBNe, Nat.reduceBEq, Nat.reduceAdd, Nat.reduceSub, Nat.reduceLeDiff, Nat.reduceEqDiff, Nat.reduceLT, reduceCtorEq]) (AWpQ.of hn rfl ?_)
  simp (config := { maxSteps := 2000000 }) only [go_sem, ↓reduceIte, Int.reduceToNat, Nat.reduceMul, Int.reduceBEq, Int.reduceBNe, Nat.reduceBEq, Nat.reduceAdd, Nat.reduceSub, Nat.reduceLeDiff, Nat.reduceEqDiff, Nat.reduceLT, reduceCtorEq, e2, e3, e4]
  (repeat (refine And.intro (by first | omega | (refine ⟨by omega, by omega⟩) | (refine ⟨by omega, by omega, by omega⟩) | (simp only [List.length_map, List.length_range, List.length_append, List.length_cons, List.length_nil, List.length_replicate, List.length_set]; omega) | (simp; omega) | (intro hgd; cases hgd) | (intro hgd; refine ⟨hgd, ?_⟩; first | omega | (refine ⟨by omega, by omega⟩) | (simp; omega))) ?_))
  refine AWpQ.gcalle (b := true) (y := .bool (x.any fun s => seq s.sw q.name)) rfl (fun _ => s11 none false x 12 [.pim [sts' na false a], .pim [I k]] (fun s => seq s.sw q.name) (by kernel_rfl) rfl rfl (fun s _ => by rw [← hq]; exact s12 s na false a k hkl) (by omega)) (by rw [hn]; rfl) (fun _ => by simp (config := { maxSteps := 2000000 }) only [go_sem, ↓reduceIte, Int.reduceToNat, Nat.reduceMul, Int.reduceBEq, Int.reduceBNe, Nat.reduceBEq, Nat.reduceAdd, Nat.reduceSub, Nat.reduceLeDiff, Nat.reduceEqDiff, Nat.reduceLT, reduceCtorEq]) (AWpQ.of hn rfl ?_)
  rw [g3]
  simp (config := { maxSteps := 2000000 }) only [go_sem, ↓reduceIte, Int.reduceToNat, Nat.reduceMul, Int.reduceBEq, Int.reduceBNe, Nat.reduceBEq, Nat.reduceAdd, Nat.reduceSub, Nat.reduceLeDiff, Nat.reduceEqDiff, Nat.reduceLT, reduceCtorEq]
end Go.Proofs.Ytkbipopkemfhaaa
