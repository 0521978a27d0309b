/- Forecasts: Line, Ahead, Residuals. -/
import Derived.Test.YtjaakbkneeojnaaDoorAwZl
import Derived.Test.YtjaakbkneeojnaaDoorFcaA
set_option linter.unusedVariables false
set_option linter.unusedSimpArgs false
namespace Go.Proofs.YtjaakbkneeojnaaDoor
open Go.Proofs.YtjaakbkneeojnaaDoor.Aw
attribute [local go_sem] Int.natCast_zero Int.natCast_one bne_self_eq_false beq_self_eq_true Bool.not_true Bool.not_false Option.isSome_none Option.isSome_some Aw.bkM_nil Option.getD_some Option.getD_none Nat.sub_zero Int.toNat_zero Aw.frzS Aw.frzT Aw.frzA Aw.frzL Aw.frzR Aw.frzO Aw.frzOL Aw.frzOT Aw.frzOR Aw.killS Aw.mapT Aw.mapR Aw.killM Aw.resAVs Aw.resAV Aw.quietOps Aw.wpP Aw.wpT Aw.wpS Aw.AOp.mild List.getElem?_cons_zero List.getElem?_cons_succ Bool.and_false Bool.and_self Bool.false_and Aw.opOb Aw.gdB Aw.Rnd Aw.subTm List.length_map Int.toNat_natCast and_self Aw.SeqC Aw.stops Aw.Ends Aw.looks Aw.renA Aw.renL Aw.renT Aw.renS Aw.wpO Aw.aop Aw.putTm Aw.St.ev Aw.St.put Aw.St.putO Aw.binAV Aw.intBin Aw.strBin Aw.pickAV Aw.optInt Aw.AV.strip Aw.AV.guard Aw.AV.cells Aw.gdOb Aw.AOp.opds Aw.AOp.still Aw.ptrCells Aw.St.reg Aw.fillAV Aw.fillOb Aw.elsOb Aw.splice Aw.firm Aw.cellish Aw.AV.shut Aw.shutAll Aw.Seq Aw.Blk Aw.retS_nil Aw.mapA Aw.mapL Aw.borA Aw.borOb Aw.allOb Aw.tupOf Aw.params Aw.Opd.of Array.toList Value.cells List.map_cons List.map_nil List.getD_cons_zero List.getD_cons_succ List.getD_nil List.length_cons List.length_nil List.take_succ_cons List.take_zero List.take_nil List.drop_zero List.drop_succ_cons List.drop_nil List.set_cons_zero List.set_cons_succ List.append_nil List.nil_append List.cons_append List.all_cons List.all_nil cond_false cond_true if_true if_false true_and and_true Bool.and_true Bool.true_and Option.map_some Option.map_none false_implies forall_const implies_true forall_eq imp_self Bool.cond_false_right Bool.cond_true_left beq_true beq_false Bool.not_eq_true' Bool.false_eq_true Nat.zero_add Nat.add_zero Aw.eqCells Aw.stopDraw Aw.skipS Aw.exactCap Aw.revealS Aw.srcEls Aw.srcSz
attribute [local go_sem ↓] Aw.look_nil Aw.look_ite Aw.wpL_nil Aw.wpL_op Aw.wpL_gd Aw.wpQ_nil Aw.wpQ_op Aw.wpQ_gd Aw.wpC_draw Aw.wpC_reg Aw.wpC_skip Aw.wpC_ret Aw.wpC_exit Aw.wpC_seq Aw.wpC_block Aw.wpC_loop Aw.wpC_cond Aw.stopAt_nil Aw.stopAt_cons Aw.wpD_skip Aw.wpD_ret Aw.wpD_exit Aw.wpD_region Aw.wpD_draw Aw.wpM_nil Aw.wpM_op Aw.wpM_gd Aw.wpD_seq Aw.wpD_block Aw.wpD_loop Aw.wpD_cond
/- gridhall/forecast.Line -/
def a53 : ACode :=
  (.seq (.region false [] [
     ⟨(some 2), none, (.mov (.v (.string ⟨#[]⟩)))⟩,
     ⟨(some 3), none, (.mov (.v (.string ⟨#[]⟩)))⟩,
     ⟨(some 4), none, (.mov (.v (.int .i64 0)))⟩])
  (.seq (.seq (.region false [] [
     ⟨(some 8), none, (.mov (.t 0))⟩,
     ⟨(some 9), none, (.call 59 [(.t 8)])⟩,
     ⟨(some 5), none, (.mov (.t 9))⟩])
  (.seq (.region false [] [
     ⟨(some 10), none, (.mov (.t 5))⟩,
     ⟨(some 11), none, (.bin .neq 25 (.t 10) (.v (.int .i64 0)))⟩])
  (.cond (.t 11)
    (.seq (.region false [] [
       ⟨(some 12), none, (.mov (.t 5))⟩,
       ⟨(some 2), none, (.mov (.v (.string ⟨#[]⟩)))⟩,
       ⟨(some 3), none, (.mov (.v (.string ⟨#[]⟩)))⟩,
       ⟨(some 4), none, (.mov (.t 12))⟩])
    .ret)
    .skip)))
  (.seq (.seq (.region false [] [
     ⟨(some 13), none, (.mov (.t 0))⟩,
     ⟨(some 14), none, (.len (.t 13))⟩,
     ⟨(some 15), none, (.bin .lss 3 (.t 14) (.v (.int .i64 2)))⟩])
  (.cond (.t 15)
    (.seq (.region false [] [
       ⟨(some 2), none, (.mov (.v (.string ⟨#[]⟩)))⟩,
       ⟨(some 3), none, (.mov (.v (.string ⟨#[]⟩)))⟩,
       ⟨(some 4), none, (.mov (.v (.int .i64 10)))⟩])
    .ret)
    .skip))
  (.seq (.region false [] [
     ⟨(some 17), none, (.mov (.t 0))⟩,
     ⟨(some 18), none, (.call 54 [(.t 17)])⟩,
     ⟨(some 16), none, (.mov (.t 18))⟩,
     ⟨(some 19), none, (.ext 0 (.t 16))⟩,
     ⟨(some 20), none, (.ext 1 (.t 16))⟩,
     ⟨(some 6), none, (.alloc 62 (.agg #[(.bool false), (.slice none 0 0), (.slice none 0 0)]))⟩,
     ⟨(some 7), none, (.alloc 62 (.agg #[(.bool false), (.slice none 0 0), (.slice none 0 0)]))⟩,
     ⟨none, none, (.store 3 (.t 6) (.t 19))⟩,
     ⟨none, none, (.store 3 (.t 7) (.t 20))⟩])
  (.seq (.region true [[], [0], [], [2, 1], [1, 3, 0, 1], [3, 4, 0, 1, 2, 3, 4], [5, 0, 1, 2, 3, 4, 5]] [
     ⟨(some 21), none, (.load 3 true (.t 6))⟩,
     ⟨(some 22), none, (.call 55 [(.t 21)])⟩,
     ⟨(some 23), none, (.load 3 true (.t 7))⟩,
     ⟨(some 24), none, (.call 55 [(.t 23)])⟩,
     ⟨(some 2), none, (.mov (.t 22))⟩,
     ⟨(some 3), none, (.mov (.t 24))⟩,
     ⟨(some 4), none, (.mov (.v (.int .i64 0)))⟩])
  .ret)))))
theorem k53 : FnIs Tryd.prog 53 25 [.t 2, .t 3, .t 4] a53 := ⟨_, _, Tryd.func53, rfl, by kernel_rfl, by kernel_rfl, rfl⟩
/- gridhall/forecast.Ahead -/
def a32 : ACode :=
  (.seq (.region false [] [
     ⟨(some 4), none, (.mov (.v (.string ⟨#[]⟩)))⟩,
     ⟨(some 5), none, (.mov (.v (.int .i64 0)))⟩])
  (.seq (.seq (.region false [] [
     ⟨(some 12), none, (.mov (.t 0))⟩,
     ⟨(some 13), none, (.call 53 [(.t 12)])⟩,
     ⟨(some 11), none, (.mov (.t 13))⟩,
     ⟨(some 14), none, (.ext 0 (.t 11))⟩,
     ⟨(some 15), none, (.ext 1 (.t 11))⟩,
     ⟨(some 16), none, (.ext 2 (.t 11))⟩,
     ⟨(some 6), none, (.mov (.t 14))⟩,
     ⟨(some 7), none, (.mov (.t 15))⟩,
     ⟨(some 8), none, (.mov (.t 16))⟩])
  (.seq (.region false [] [
     ⟨(some 17), none, (.mov (.t 8))⟩,
     ⟨(some 18), none, (.bin .neq 25 (.t 17) (.v (.int .i64 0)))⟩])
  (.cond (.t 18)
    (.seq (.region false [] [
       ⟨(some 19), none, (.mov (.t 8))⟩,
       ⟨(some 4), none, (.mov (.v (.string ⟨#[]⟩)))⟩,
       ⟨(some 5), none, (.mov (.t 19))⟩])
    .ret)
    .skip)))
  (.seq (.seq (.region false [] [
     ⟨(some 20), none, (.mov (.t 1))⟩,
     ⟨(some 21), none, (.bin .lss 3 (.t 20) (.v (.int .i64 0)))⟩,
     ⟨(some 22), none, (.mov (.t 21))⟩,
     ⟨(some 23), (some (22, false)), (.mov (.t 1))⟩,
     ⟨(some 24), (some (22, false)), (.bin .gtr 3 (.t 23) (.v (.int .i64 48)))⟩,
     ⟨(some 25), none, (.pick (.t 22) (.v (.bool true)) (.t 24))⟩])
  (.cond (.t 25)
    (.seq (.region false [] [
       ⟨(some 4), none, (.mov (.v (.string ⟨#[]⟩)))⟩,
       ⟨(some 5), none, (.mov (.v (.int .i64 1)))⟩])
    .ret)
    .skip))
  (.seq (.region false [] [
     ⟨(some 27), none, (.mov (.t 0))⟩,
     ⟨(some 28), none, (.call 54 [(.t 27)])⟩,
     ⟨(some 26), none, (.mov (.t 28))⟩,
     ⟨(some 29), none, (.ext 0 (.t 26))⟩,
     ⟨(some 30), none, (.ext 1 (.t 26))⟩,
     ⟨(some 9), none, (.alloc 62 (.agg #[(.bool false), (.slice none 0 0), (.slice none 0 0)]))⟩,
     ⟨(some 10), none, (.alloc 62 (.agg #[(.bool false), (.slice none 0 0), (.slice none 0 0)]))⟩,
     ⟨none, none, (.store 3 (.t 9) (.t 29))⟩,
     ⟨none, none, (.store 3 (.t 10) (.t 30))⟩])
  (.seq (.region true [[], [], [], [2], [3], [], [4, 5], [6], [1, 7, 7], [0, 8, 8], [9, 9], [10, 10, 0, 1, 2, 3, 4, 5, 6, 7, 8, 9, 10], [11, 0, 1, 2, 3, 4, 5, 6, 7, 8, 9, 10, 11]] [
     ⟨(some 31), none, (.load 3 true (.t 10))⟩,
     ⟨(some 32), none, (.load 3 true (.t 9))⟩,
     ⟨(some 33), none, (.mov (.t 0))⟩,
     ⟨(some 34), none, (.len (.t 33))⟩,
     ⟨(some 35), none, (.bin .sub 3 (.t 34) (.v (.int .i64 1)))⟩,
     ⟨(some 36), none, (.mov (.t 1))⟩,
     ⟨(some 37), none, (.bin .add 3 (.t 35) (.t 36))⟩,
     ⟨(some 38), none, (.call 42 [(.t 37)])⟩,
     ⟨(some 39), none, (.call 43 [(.t 32), (.t 38)])⟩,
     ⟨(some 40), none, (.call 46 [(.t 31), (.t 39)])⟩,
     ⟨(some 41), none, (.call 55 [(.t 40)])⟩,
     ⟨(some 4), none, (.mov (.t 41))⟩,
     ⟨(some 5), none, (.mov (.v (.int .i64 0)))⟩])
  .ret)))))
theorem k32 : FnIs Tryd.prog 32 42 [.t 4, .t 5] a32 := ⟨_, _, Tryd.func32, rfl, by kernel_rfl, by kernel_rfl, rfl⟩
/- gridhall/forecast.Residuals -/
def a23 : ACode :=
  (.seq (.region false [] [
     ⟨(some 2), none, (.mov (.v (.slice none 0 0)))⟩,
     ⟨(some 3), none, (.mov (.v (.int .i64 0)))⟩])
  (.seq (.seq (.region false [] [
     ⟨(some 13), none, (.mov (.t 0))⟩,
     ⟨(some 14), none, (.call 53 [(.t 13)])⟩,
     ⟨(some 12), none, (.mov (.t 14))⟩,
     ⟨(some 15), none, (.ext 0 (.t 12))⟩,
     ⟨(some 16), none, (.ext 1 (.t 12))⟩,
     ⟨(some 17), none, (.ext 2 (.t 12))⟩,
     ⟨(some 4), none, (.mov (.t 15))⟩,
     ⟨(some 5), none, (.mov (.t 16))⟩,
     ⟨(some 6), none, (.mov (.t 17))⟩])
  (.seq (.region false [] [
     ⟨(some 18), none, (.mov (.t 6))⟩,
     ⟨(some 19), none, (.bin .neq 25 (.t 18) (.v (.int .i64 0)))⟩])
  (.cond (.t 19)
    (.seq (.region false [] [
       ⟨(some 20), none, (.mov (.t 6))⟩,
       ⟨(some 2), none, (.mov (.v (.slice none 0 0)))⟩,
       ⟨(some 3), none, (.mov (.t 20))⟩])
    .ret)
    .skip)))
  (.seq (.region false [] [
     ⟨(some 22), none, (.mov (.t 0))⟩,
     ⟨(some 23), none, (.call 54 [(.t 22)])⟩,
     ⟨(some 21), none, (.mov (.t 23))⟩,
     ⟨(some 24), none, (.ext 0 (.t 21))⟩,
     ⟨(some 25), none, (.ext 1 (.t 21))⟩,
     ⟨(some 7), none, (.alloc 62 (.agg #[(.bool false), (.slice none 0 0), (.slice none 0 0)]))⟩,
     ⟨(some 8), none, (.alloc 62 (.agg #[(.bool false), (.slice none 0 0), (.slice none 0 0)]))⟩,
     ⟨none, none, (.store 3 (.t 7) (.t 24))⟩,
     ⟨none, none, (.store 3 (.t 8) (.t 25))⟩])
  (.seq (.region false [] [
     ⟨(some 9), none, (.mov (.v (.slice none 0 0)))⟩])
  (.seq (.seq (.region false [] [
     ⟨(some 26), none, (.mov (.t 0))⟩,
     ⟨(some 27), none, (.len (.t 26))⟩,
     ⟨(some 28), none, (.mov (.v (.int .i64 0)))⟩])
  (.block 0 (.loop (.seq (.region false [] [
       ⟨(some 29), none, (.bin .lss 3 (.t 28) (.t 27))⟩])
    (.seq (.cond (.t 29)
      .skip
      (.exit 0))
    (.seq (.block 1 (.seq (.region false [] [
        ⟨(some 30), none, (.mov (.t 28))⟩,
        ⟨(some 31), none, (.idx 1 (.t 26) (.t 28))⟩,
        ⟨(some 32), none, (.load 1 false (.t 31))⟩,
        ⟨(some 10), none, (.mov (.t 30))⟩,
        ⟨(some 11), none, (.mov (.t 32))⟩])
     (.region true [[], [], [1], [], [], [], [5, 2], [4, 6, 6], [3, 7, 7], [2, 8, 8], [9, 9], [10], [0, 11, 10], [12, 12, 0, 1, 2, 3, 4, 5, 6, 7, 8, 9, 10, 11, 12]] [
        ⟨(some 33), none, (.mov (.t 9))⟩,
        ⟨(some 34), none, (.mov (.t 11))⟩,
        ⟨(some 35), none, (.call 42 [(.t 34)])⟩,
        ⟨(some 36), none, (.load 3 true (.t 8))⟩,
        ⟨(some 37), none, (.load 3 true (.t 7))⟩,
        ⟨(some 38), none, (.mov (.t 10))⟩,
        ⟨(some 39), none, (.call 42 [(.t 38)])⟩,
        ⟨(some 40), none, (.call 43 [(.t 37), (.t 39)])⟩,
        ⟨(some 41), none, (.call 46 [(.t 36), (.t 40)])⟩,
        ⟨(some 42), none, (.call 48 [(.t 35), (.t 41)])⟩,
        ⟨(some 43), none, (.call 55 [(.t 42)])⟩,
        ⟨(some 44), none, (.bsl 22 1 1 [(0, (.t 43))])⟩,
        ⟨(some 45), none, (.app 22 1 16 (.string ⟨#[]⟩) (.t 33) (.t 44))⟩,
        ⟨(some 9), none, (.mov (.t 45))⟩])))
    (.region false [] [
       ⟨(some 46), none, (.bin .add 3 (.t 28) (.v (.int .i64 1)))⟩,
       ⟨(some 28), none, (.mov (.t 46))⟩])))))))
  (.seq (.region false [] [
     ⟨(some 47), none, (.mov (.t 9))⟩,
     ⟨(some 2), none, (.mov (.t 47))⟩,
     ⟨(some 3), none, (.mov (.v (.int .i64 0)))⟩])
  .ret))))))
theorem k23 : FnIs Tryd.prog 23 48 [.t 2, .t 3] a23 := ⟨_, _, Tryd.func23, rfl, by kernel_rfl, by kernel_rfl, rfl⟩

/-- What Line says: a code. -/
def lineE (l : List Int) : Int := if checkV l ≠ 0 then checkV l else if l.length < 2 then 10 else 0
theorem lineE_ok {l : List Int} (h : lineE l = 0) : valsOk l ∧ l.length ≤ 48 ∧ 2 ≤ l.length := by
  unfold lineE at h
  split at h
  · exact absurd h (by assumption)
  · rename_i h0
    split at h
    · cases h
    · obtain ⟨h1, h2⟩ := checkV_ok (l := l) (by simpa using h0)
      exact ⟨h2, h1, by omega⟩
def slopeR (l : List Int) : Rat := (numN l : Rat) / (divD l.length : Rat)
def heightR (l : List Int) : Rat := ((tot l : Rat) - slopeR l * (tri l.length : Rat)) / ((l.length : Int) : Rat)
theorem slope_r (l : List Int) : rOf (slopeQ l) = slopeR l := by
  unfold slopeQ slopeR
  rw [quo_r, int_r, int_r]
theorem height_r (l : List Int) : rOf (heightQ l) = heightR l := by
  unfold heightQ heightR
  rw [quo_r, sub_r, mul_r, slope_r, int_r, int_r, int_r]
theorem slope_can (l : List Int) : Can (slopeQ l) := quo_can _ _
theorem height_can (l : List Int) : Can (heightQ l) := quo_can _ _
def lineS (l : List Int) : List UInt8 × List UInt8 × Int := if lineE l ≠ 0 then ([], [], lineE l) else (txtR (slopeR l), txtR (heightR l), 0)
set_option maxRecDepth 20000 in
theorem s53 (nl' fl) (l : List Int) (hl : l.length ≤ 9223372036854775807) : Aw.Spec Tryd.prog 53 [] [ints nl' fl l] (Gives (· = .tup [S (bA (lineS l).1), S (bA (lineS l).2.1), I (lineS l).2.2])) := by
  refine Spec.shut (Post := fun rg v => v = .tup [S (bA (lineS l).1), S (bA (lineS l).2.1), I (lineS l).2.2]) ?_ fun rg v h => by subst h; exact ⟨rfl, rfl, rfl⟩
  refine Aw.Spec.regsW k53 rfl rfl fun E hn hnp hp => ?_
  unfold a53
  have pin : ∀ r, E.pin r = none := fun r => hp.none hnp (Nat.zero_le _)
  refine AWp.ofD [999] [] hn mixed rfl ?_
  simp (config := { maxSteps := 2000000 }) only [go_sem, ↓reduceIte, Int.reduceToNat, Nat.reduceMul, Int.reduceBEq, Int.reduceBNe, Nat.reduceBEq, Nat.reduceAdd, Nat.reduceSub, Nat.reduceLeDiff, Nat.reduceEqDiff, Nat.reduceLT, reduceCtorEq]
  (refine AWpL.calle (s59 nl' fl l hl) rfl (by rw [hn]; rfl) (by simp (config := { maxSteps := 2000000 }) only [go_sem, ↓reduceIte, Int.reduceToNat, Nat.reduceMul, Int.reduceBEq, Int.reduceBNe, Nat.reduceBEq, Nat.reduceAdd, Nat.reduceSub, Nat.reduceLeDiff, Nat.reduceEqDiff, Nat.reduceLT, reduceCtorEq]) (AWpL.ofM hn rfl ?_); simp (config := { maxSteps := 2000000 }) only [go_sem, ↓reduceIte, Int.reduceToNat, Nat.reduceMul, Int.reduceBEq, Int.reduceBNe, Nat.reduceBEq, Nat.reduceAdd, Nat.reduceSub, Nat.reduceLeDiff, Nat.reduceEqDiff, Nat.reduceLT, reduceCtorEq])
  refine ⟨fun h => ?_, fun h => ⟨fun h2 => ?_, fun h2 => ?_⟩⟩
  · have h0 : checkV l ≠ 0 := by simpa using h
    have hE : lineE l = checkV l := by unfold lineE; rw [if_pos h0]
    unfold lineS
    rw [hE, if_pos h0]
    refine Retn.ret (π := []) hp hnp ⟨rfl, ?_⟩
    simp (config := { maxSteps := 2000000 }) only [go_sem, ↓reduceIte, Int.reduceToNat, Nat.reduceMul, Int.reduceBEq, Int.reduceBNe, Nat.reduceBEq, Nat.reduceAdd, Nat.reduceSub, Nat.reduceLeDiff, Nat.reduceEqDiff, Nat.reduceLT, reduceCtorEq, Aw.renR, Aw.pos]
    rfl
  · have h0 : checkV l = 0 := by simpa using h
    have h3 := of_decide_eq_true h2
    have hE : lineE l = 10 := by unfold lineE; rw [if_neg (by simp [h0]), if_pos (by omega)]
    unfold lineS
    rw [hE, if_pos (by decide)]
    refine Retn.ret (π := []) hp hnp ⟨rfl, ?_⟩
    simp (config := { maxSteps := 2000000 }) only [go_sem, ↓reduceIte, Int.reduceToNat, Nat.reduceMul, Int.reduceBEq, Int.reduceBNe, Nat.reduceBEq, Nat.reduceAdd, Nat.reduceSub, Nat.reduceLeDiff, Nat.reduceEqDiff, Nat.reduceLT, reduceCtorEq, Aw.renR, Aw.pos]
    rfl
  · have h0 : checkV l = 0 := by simpa using h
    have h3 := of_decide_eq_false h2
    have hE : lineE l = 0 := by unfold lineE; rw [if_neg (by simp [h0]), if_neg (by omega)]
    unfold lineS
    rw [hE, if_neg (by simp)]
    obtain ⟨hv, h48, h22⟩ := lineE_ok hE
    have q1 := slope_QB hv h48 h22
    have q2 := height_QB hv h48 h22
    have o1 : outL (slopeQ l) = txtR (slopeR l) := by rw [(slope_can l).out, slope_r]
    have o2 : outL (heightQ l) = txtR (heightR l) := by rw [(height_can l).out, height_r]
    (refine AWpL.callA [] (s54 nl' fl l hv h48 h22) rfl rfl (by rw [hn]; rfl) rfl (fun r hr => .inr (pin r)) fun rg v hv => ?_; obtain ⟨rfl, rfl⟩ := hv; refine ⟨Nat.le_refl _, AWpL.ofM hn rfl ?_⟩)
    simp (config := { maxSteps := 2000000 }) only [go_sem, ↓reduceIte, Int.reduceToNat, Nat.reduceMul, Int.reduceBEq, Int.reduceBNe, Nat.reduceBEq, Nat.reduceAdd, Nat.reduceSub, Nat.reduceLeDiff, Nat.reduceEqDiff, Nat.reduceLT, reduceCtorEq, Aw.retS, Aw.retRg, Aw.kpM, Aw.bkM, Aw.pos, Aw.isBox]
    refine AWp.plan (.take 0 [false, false, true, false, false, false, false] (.take 2 [true, true, false, false, false, false, false] (.one 1 (.one 3 (.take 4 [true, true, true, true, false, false, false] (.take 5 [true, true, true, true, true, false, false] (.take 6 [true, true, true, true, true, true, false] .done))))))) [true, true, true, true, true, true, true] mixed hn rfl rfl ?_
    simp (config := { maxSteps := 2000000 }) only [go_sem, ↓reduceIte, Int.reduceToNat, Nat.reduceMul, Int.reduceBEq, Int.reduceBNe, Nat.reduceBEq, Nat.reduceAdd, Nat.reduceSub, Nat.reduceLeDiff, Nat.reduceEqDiff, Nat.reduceLT, reduceCtorEq]
    repeat' first
      | (refine And.intro ?_ ?_)
      | (refine AOne.calle (s55 (slopeQ l) (q1.mono (by decide))) rfl (by rw [hn]; rfl) (by simp (config := { maxSteps := 2000000 }) only [go_sem, ↓reduceIte, Int.reduceToNat, Nat.reduceMul, Int.reduceBEq, Int.reduceBNe, Nat.reduceBEq, Nat.reduceAdd, Nat.reduceSub, Nat.reduceLeDiff, Nat.reduceEqDiff, Nat.reduceLT, reduceCtorEq]) ?_; rw [o1]; simp (config := { maxSteps := 2000000 }) only [go_sem, ↓reduceIte, Int.reduceToNat, Nat.reduceMul, Int.reduceBEq, Int.reduceBNe, Nat.reduceBEq, Nat.reduceAdd, Nat.reduceSub, Nat.reduceLeDiff, Nat.reduceEqDiff, Nat.reduceLT, reduceCtorEq])
      | (refine AOne.calle (s55 (heightQ l) (q2.mono (by decide))) rfl (by rw [hn]; rfl) (by simp (config := { maxSteps := 2000000 }) only [go_sem, ↓reduceIte, Int.reduceToNat, Nat.reduceMul, Int.reduceBEq, Int.reduceBNe, Nat.reduceBEq, Nat.reduceAdd, Nat.reduceSub, Nat.reduceLeDiff, Nat.reduceEqDiff, Nat.reduceLT, reduceCtorEq]) ?_; rw [o2]; simp (config := { maxSteps := 2000000 }) only [go_sem, ↓reduceIte, Int.reduceToNat, Nat.reduceMul, Int.reduceBEq, Int.reduceBNe, Nat.reduceBEq, Nat.reduceAdd, Nat.reduceSub, Nat.reduceLeDiff, Nat.reduceEqDiff, Nat.reduceLT, reduceCtorEq])
    all_goals (refine Retn.ret (π := []) hp hnp ⟨rfl, ?_⟩; simp (config := { maxSteps := 2000000 }) only [go_sem, ↓reduceIte, Int.reduceToNat, Nat.reduceMul, Int.reduceBEq, Int.reduceBNe, Nat.reduceBEq, Nat.reduceAdd, Nat.reduceSub, Nat.reduceLeDiff, Nat.reduceEqDiff, Nat.reduceLT, reduceCtorEq, Aw.renR, Aw.pos])
/-- The line at a place. -/
def atR (l : List Int) (k : Int) : Rat := heightR l + slopeR l * (k : Rat)
def aheadS (l : List Int) (k : Int) : List UInt8 × Int := if lineE l ≠ 0 then ([], lineE l) else if k < 0 ∨ k > 48 then ([], 1) else (txtR (atR l (l.length - 1 + k)), 0)
theorem lineS_e (l : List Int) : (lineS l).2.2 = lineE l := by
  unfold lineS
  split
  · rfl
  · rename_i h
    have : lineE l = 0 := by simpa using h
    rw [this]
def atQ (l : List Int) (k : Int) : QQ := addQ (heightQ l) (mulQ (slopeQ l) (intQ k))
theorem at_r (l : List Int) (k : Int) : rOf (atQ l k) = atR l k := by
  unfold atQ atR
  rw [add_r, height_r, mul_r, slope_r, int_r]
theorem at_can (l : List Int) (k : Int) : Can (atQ l k) := add_can (height_can l) (mul_can _ _)
theorem at_QB {l : List Int} (hv : valsOk l) (h48 : l.length ≤ 48) (h2 : 2 ≤ l.length) {k : Int} (h0 : -9223372036854775807 ≤ k) (h1 : k ≤ 9223372036854775807) : QB 101 (atQ l k) :=
  addQ_QB (k := 50) (height_QB hv h48 h2) ((mulQ_QB (k := 6) (slope_QB hv h48 h2) ((intQ_QB h0 h1).mono (by decide)) (by decide)).mono (by decide)) (by decide)
set_option maxRecDepth 20000 in
theorem s32 (nl' fl) (l : List Int) (k : Int) (hl : l.length ≤ 9223372036854775807) : Aw.Spec Tryd.prog 32 [] [ints nl' fl l, I k] (Gives (· = .tup [S (bA (aheadS l k).1), I (aheadS l k).2])) := by
  refine Spec.shut (Post := fun rg v => v = .tup [S (bA (aheadS l k).1), I (aheadS l k).2]) ?_ fun rg v h => by subst h; exact ⟨rfl, rfl, rfl⟩
  refine Aw.Spec.regsW k32 rfl rfl fun E hn hnp hp => ?_
  unfold a32
  have pin : ∀ r, E.pin r = none := fun r => hp.none hnp (Nat.zero_le _)
  refine AWp.ofD [999] [] hn mixed rfl ?_
  simp (config := { maxSteps := 2000000 }) only [go_sem, ↓reduceIte, Int.reduceToNat, Nat.reduceMul, Int.reduceBEq, Int.reduceBNe, Nat.reduceBEq, Nat.reduceAdd, Nat.reduceSub, Nat.reduceLeDiff, Nat.reduceEqDiff, Nat.reduceLT, reduceCtorEq]
  (refine AWpL.calle (s53 nl' fl l hl) rfl (by rw [hn]; rfl) (by simp (config := { maxSteps := 2000000 }) only [go_sem, ↓reduceIte, Int.reduceToNat, Nat.reduceMul, Int.reduceBEq, Int.reduceBNe, Nat.reduceBEq, Nat.reduceAdd, Nat.reduceSub, Nat.reduceLeDiff, Nat.reduceEqDiff, Nat.reduceLT, reduceCtorEq]) (AWpL.ofM hn rfl ?_); simp (config := { maxSteps := 2000000 }) only [go_sem, ↓reduceIte, Int.reduceToNat, Nat.reduceMul, Int.reduceBEq, Int.reduceBNe, Nat.reduceBEq, Nat.reduceAdd, Nat.reduceSub, Nat.reduceLeDiff, Nat.reduceEqDiff, Nat.reduceLT, reduceCtorEq])
  rw [lineS_e]
  unfold aheadS
  refine ⟨fun h => ?_, fun h => ⟨fun h2 => ?_, fun h2 => ?_⟩⟩
  · have h0 : lineE l ≠ 0 := by simpa using h
    rw [if_pos h0]
    refine Retn.ret (π := []) hp hnp ⟨rfl, ?_⟩
    simp (config := { maxSteps := 2000000 }) only [go_sem, ↓reduceIte, Int.reduceToNat, Nat.reduceMul, Int.reduceBEq, Int.reduceBNe, Nat.reduceBEq, Nat.reduceAdd, Nat.reduceSub, Nat.reduceLeDiff, Nat.reduceEqDiff, Nat.reduceLT, reduceCtorEq, Aw.renR, Aw.pos]
    rfl
  · have h0 : lineE l = 0 := by simpa using h
    simp only [Bool.or_eq_true, decide_eq_true_eq] at h2
    rw [if_neg (by simp [h0]), if_pos (by omega)]
    refine Retn.ret (π := []) hp hnp ⟨rfl, ?_⟩
    simp (config := { maxSteps := 2000000 }) only [go_sem, ↓reduceIte, Int.reduceToNat, Nat.reduceMul, Int.reduceBEq, Int.reduceBNe, Nat.reduceBEq, Nat.reduceAdd, Nat.reduceSub, Nat.reduceLeDiff, Nat.reduceEqDiff, Nat.reduceLT, reduceCtorEq, Aw.renR, Aw.pos]
    rfl
  · have h0 : lineE l = 0 := by simpa using h
    simp only [Bool.or_eq_false_iff, decide_eq_false_iff_not] at h2
    rw [if_neg (by simp [h0]), if_neg (by omega)]
    obtain ⟨hv, h48, h22⟩ := lineE_ok h0
    have q1 := slope_QB hv h48 h22
    have q2 := height_QB hv h48 h22
    have e1 : IntKind.i64.wrap ((l.length : Int) - 1) = l.length - 1 := w64 (by omega) (by omega)
    have e2 : IntKind.i64.wrap ((l.length : Int) - 1 + k) = l.length - 1 + k := w64 (by omega) (by omega)
    have o1 : outL (atQ l (l.length - 1 + k)) = txtR (atR l (l.length - 1 + k)) := by rw [(at_can l _).out, at_r]
    have qm : QB 12 (mulQ (slopeQ l) (intQ (l.length - 1 + k))) := mulQ_QB (k := 6) q1 ((intQ_QB (by omega) (by omega)).mono (by decide)) (by decide)
    (refine AWpL.callA [] (s54 nl' fl l hv h48 h22) rfl rfl (by rw [hn]; rfl) rfl (fun r hr => .inr (pin r)) fun rg v hv => ?_; obtain ⟨rfl, rfl⟩ := hv; refine ⟨Nat.le_refl _, AWpL.ofM hn rfl ?_⟩)
    simp (config := { maxSteps := 2000000 }) only [go_sem, ↓reduceIte, Int.reduceToNat, Nat.reduceMul, Int.reduceBEq, Int.reduceBNe, Nat.reduceBEq, Nat.reduceAdd, Nat.reduceSub, Nat.reduceLeDiff, Nat.reduceEqDiff, Nat.reduceLT, reduceCtorEq, Aw.retS, Aw.retRg, Aw.kpM, Aw.bkM, Aw.pos, Aw.isBox]
    refine AWp.cut ⟨[(4, S (bA (txtR (atR l (l.length - 1 + k))))), (5, I 0)], []⟩ ?_ ?_
    · refine AWp.plan (.take 0 [false, true, true, true, true, true, true, true, true, false, false, false, false] (.take 1 [true, false, true, true, true, true, true, true, false, false, false, false, false] (.take 2 [true, true, false, false, false, true, false, false, false, false, false, false, false] (.take 3 [true, true, true, false, false, true, false, false, false, false, false, false, false] (.take 4 [true, true, true, true, false, true, false, false, false, false, false, false, false] (.take 5 [true, true, true, true, true, false, false, false, false, false, false, false, false] (.take 6 [true, true, true, true, true, true, false, false, false, false, false, false, false] (.one 7 (.one 8 (.one 9 (.one 10 (.take 11 [true, true, true, true, true, true, true, true, true, true, true, false, false] (.take 12 [true, true, true, true, true, true, true, true, true, true, true, true, false] .done))))))))))))) [true, true, true, true, true, true, true, true, true, true, true, true, true] mixed hn rfl rfl ?_
      simp (config := { maxSteps := 2000000 }) only [go_sem, ↓reduceIte, Int.reduceToNat, Nat.reduceMul, Int.reduceBEq, Int.reduceBNe, Nat.reduceBEq, Nat.reduceAdd, Nat.reduceSub, Nat.reduceLeDiff, Nat.reduceEqDiff, Nat.reduceLT, reduceCtorEq, e1, e2]
      repeat' first | (refine And.intro ?_ ?_) | (refine AOne.callA (s42 (l.length - 1 + k) (by omega) (by omega)) rfl (by rw [hn]; rfl) (fun rg v hv => ?_); obtain ⟨rfl, rfl⟩ := hv; rw [retS_nil]; simp (config := { maxSteps := 2000000 }) only [go_sem, ↓reduceIte, Int.reduceToNat, Nat.reduceMul, Int.reduceBEq, Int.reduceBNe, Nat.reduceBEq, Nat.reduceAdd, Nat.reduceSub, Nat.reduceLeDiff, Nat.reduceEqDiff, Nat.reduceLT, reduceCtorEq]) | (refine AOne.callA (s43 (slopeQ l) (intQ (l.length - 1 + k)) (q1.mono (by decide)) ((intQ_QB (by omega) (by omega)).mono (by decide))) rfl (by rw [hn]; rfl) (fun rg v hv => ?_); obtain ⟨rfl, rfl⟩ := hv; rw [retS_nil]; simp (config := { maxSteps := 2000000 }) only [go_sem, ↓reduceIte, Int.reduceToNat, Nat.reduceMul, Int.reduceBEq, Int.reduceBNe, Nat.reduceBEq, Nat.reduceAdd, Nat.reduceSub, Nat.reduceLeDiff, Nat.reduceEqDiff, Nat.reduceLT, reduceCtorEq]) | (refine AOne.callA (s46 (heightQ l) (mulQ (slopeQ l) (intQ (l.length - 1 + k))) (q2.mono (by decide)) (qm.mono (by decide))) rfl (by rw [hn]; rfl) (fun rg v hv => ?_); obtain ⟨rfl, rfl⟩ := hv; rw [retS_nil]; simp (config := { maxSteps := 2000000 }) only [go_sem, ↓reduceIte, Int.reduceToNat, Nat.reduceMul, Int.reduceBEq, Int.reduceBNe, Nat.reduceBEq, Nat.reduceAdd, Nat.reduceSub, Nat.reduceLeDiff, Nat.reduceEqDiff, Nat.reduceLT, reduceCtorEq]) | (refine AOne.calle (s55 (atQ l (l.length - 1 + k)) ((at_QB hv h48 h22 (by omega) (by omega)).mono (by decide))) rfl (by rw [hn]; rfl) (by simp (config := { maxSteps := 2000000 }) only [go_sem, ↓reduceIte, Int.reduceToNat, Nat.reduceMul, Int.reduceBEq, Int.reduceBNe, Nat.reduceBEq, Nat.reduceAdd, Nat.reduceSub, Nat.reduceLeDiff, Nat.reduceEqDiff, Nat.reduceLT, reduceCtorEq]) ?_; rw [o1]; simp (config := { maxSteps := 2000000 }) only [go_sem, ↓reduceIte, Int.reduceToNat, Nat.reduceMul, Int.reduceBEq, Int.reduceBNe, Nat.reduceBEq, Nat.reduceAdd, Nat.reduceSub, Nat.reduceLeDiff, Nat.reduceEqDiff, Nat.reduceLT, reduceCtorEq]) | exact weak_to [] hp hnp rfl (by simp (config := { maxSteps := 2000000 }) only [go_sem, ↓reduceIte, Int.reduceToNat, Nat.reduceMul, Int.reduceBEq, Int.reduceBNe, Nat.reduceBEq, Nat.reduceAdd, Nat.reduceSub, Nat.reduceLeDiff, Nat.reduceEqDiff, Nat.reduceLT, reduceCtorEq, Aw.pos] <;> rfl) (by simp (config := { maxSteps := 2000000 }) only [go_sem, ↓reduceIte, Int.reduceToNat, Nat.reduceMul, Int.reduceBEq, Int.reduceBNe, Nat.reduceBEq, Nat.reduceAdd, Nat.reduceSub, Nat.reduceLeDiff, Nat.reduceEqDiff, Nat.reduceLT, reduceCtorEq, Aw.renR, Aw.pos] <;> rfl)
    simp (config := { maxSteps := 2000000 }) only [go_sem, ↓reduceIte, Int.reduceToNat, Nat.reduceMul, Int.reduceBEq, Int.reduceBNe, Nat.reduceBEq, Nat.reduceAdd, Nat.reduceSub, Nat.reduceLeDiff, Nat.reduceEqDiff, Nat.reduceLT, reduceCtorEq]
    refine Retn.ret (π := []) hp hnp ⟨rfl, ?_⟩
    simp (config := { maxSteps := 2000000 }) only [go_sem, ↓reduceIte, Int.reduceToNat, Nat.reduceMul, Int.reduceBEq, Int.reduceBNe, Nat.reduceBEq, Nat.reduceAdd, Nat.reduceSub, Nat.reduceLeDiff, Nat.reduceEqDiff, Nat.reduceLT, reduceCtorEq, Aw.renR, Aw.pos]
/-- A difference. -/
def resR (l : List Int) (i : Nat) : Rat := ((l.getD i 0 : Int) : Rat) - atR l i
def resQ (l : List Int) (i : Nat) : QQ := subQ (intQ (l.getD i 0)) (atQ l i)
theorem res_r (l : List Int) (i : Nat) : rOf (resQ l i) = resR l i := by
  unfold resQ resR
  rw [sub_r, int_r, at_r]
theorem res_can (l : List Int) (i : Nat) : Can (resQ l i) := sub_can (int_can _) (at_can l i)
def resTake (l : List Int) (i : Nat) : List Rat := (List.range i).map (resR l)
def resL (l : List Int) : List Rat := resTake l l.length
def resS (l : List Int) : List Rat := if lineE l ≠ 0 then [] else resL l
theorem resL_take (l : List Int) (i : Nat) : resTake l i ++ [resR l i] = resTake l (i + 1) := by unfold resTake; rw [List.range_succ, List.map_append]; rfl
theorem resTake_len (l : List Int) (i : Nat) : (resTake l i).length = i := by unfold resTake; rw [List.length_map, List.length_range]
set_option maxRecDepth 20000 in
set_option maxHeartbeats 1000000 in
theorem s23 (nl' fl) (l : List Int) (hl : l.length ≤ 9223372036854775807) : Aw.Spec Tryd.prog 23 [] [ints nl' fl l] (fun rg v => rg = [] ∧ v = .tup [.imm none false 1 ((resS l).map tx), I (lineE l)]) := by
  refine Spec.shut (Post := fun rg v => v = .tup [.imm none false 1 ((resS l).map tx), I (lineE l)]) ?_ fun rg v h => by subst h; exact ⟨rfl, rfl, rfl⟩
  refine Aw.Spec.regsW k23 rfl rfl fun E hn hnp hp => ?_
  unfold a23
  have pin : ∀ r, E.pin r = none := fun r => hp.none hnp (Nat.zero_le _)
  refine AWp.ofD [999] [] hn mixed rfl ?_
  simp (config := { maxSteps := 2000000 }) only [go_sem, ↓reduceIte, Int.reduceToNat, Nat.reduceMul, Int.reduceBEq, Int.reduceBNe, Nat.reduceBEq, Nat.reduceAdd, Nat.reduceSub, Nat.reduceLeDiff, Nat.reduceEqDiff, Nat.reduceLT, reduceCtorEq]
  (refine AWpL.calle (s53 nl' fl l hl) rfl (by rw [hn]; rfl) (by simp (config := { maxSteps := 2000000 }) only [go_sem, ↓reduceIte, Int.reduceToNat, Nat.reduceMul, Int.reduceBEq, Int.reduceBNe, Nat.reduceBEq, Nat.reduceAdd, Nat.reduceSub, Nat.reduceLeDiff, Nat.reduceEqDiff, Nat.reduceLT, reduceCtorEq]) (AWpL.ofM hn rfl ?_); simp (config := { maxSteps := 2000000 }) only [go_sem, ↓reduceIte, Int.reduceToNat, Nat.reduceMul, Int.reduceBEq, Int.reduceBNe, Nat.reduceBEq, Nat.reduceAdd, Nat.reduceSub, Nat.reduceLeDiff, Nat.reduceEqDiff, Nat.reduceLT, reduceCtorEq])
  rw [lineS_e]
  unfold resS
  refine ⟨fun h => ?_, fun h => ?_⟩
  · have h0 : lineE l ≠ 0 := by simpa using h
    rw [if_pos h0]
    refine Retn.weak (weak_ent 2 (by rfl) (Ent.ofnil0 1)) _ ?_
    refine Retn.ret (π := []) hp hnp ⟨rfl, ?_⟩
    simp (config := { maxSteps := 2000000 }) only [go_sem, ↓reduceIte, Int.reduceToNat, Nat.reduceMul, Int.reduceBEq, Int.reduceBNe, Nat.reduceBEq, Nat.reduceAdd, Nat.reduceSub, Nat.reduceLeDiff, Nat.reduceEqDiff, Nat.reduceLT, reduceCtorEq, Aw.renR, Aw.pos]
  have h0 : lineE l = 0 := by simpa using h
  rw [if_neg (by simp [h0]), h0]
  obtain ⟨hv, h48, h22⟩ := lineE_ok h0
  have q1 := slope_QB hv h48 h22
  have q2 := height_QB hv h48 h22
  (refine AWpL.callA [] (s54 nl' fl l hv h48 h22) rfl rfl (by rw [hn]; rfl) rfl (fun r hr => .inr (pin r)) fun rg v hv => ?_; obtain ⟨rfl, rfl⟩ := hv; refine ⟨Nat.le_refl _, AWpL.ofM hn rfl ?_⟩)
  simp (config := { maxSteps := 2000000 }) only [go_sem, ↓reduceIte, Int.reduceToNat, Nat.reduceMul, Int.reduceBEq, Int.reduceBNe, Nat.reduceBEq, Nat.reduceAdd, Nat.reduceSub, Nat.reduceLeDiff, Nat.reduceEqDiff, Nat.reduceLT, reduceCtorEq, Aw.retS, Aw.retRg, Aw.kpM, Aw.bkM, Aw.pos, Aw.isBox]
  refine AWp.weak (weak_nil 9 22 1 rfl) ?_
  refine AWp.loop (fun k s => ∃ i : Nat, i + k = l.length ∧ Weak E s ⟨[(7, .ptr 0 0 0), (8, .ptr 1 0 0), (9, .hnd 2 0 i i false), (26, ints nl' fl l), (27, I l.length), (28, I i)], [.box 62 (qv (slopeQ l)).cells, .box 62 (qv (heightQ l)).cells, .arr 22 1 ((resTake l i).map tx)]⟩) (n := l.length)
    ⟨0, by omega, weak_to [0, 1, 2] hp hnp rfl (by simp (config := { maxSteps := 2000000 }) only [go_sem, ↓reduceIte, Int.reduceToNat, Nat.reduceMul, Int.reduceBEq, Int.reduceBNe, Nat.reduceBEq, Nat.reduceAdd, Nat.reduceSub, Nat.reduceLeDiff, Nat.reduceEqDiff, Nat.reduceLT, reduceCtorEq, Aw.pos] <;> rfl) (by simp (config := { maxSteps := 2000000 }) only [go_sem, ↓reduceIte, Int.reduceToNat, Nat.reduceMul, Int.reduceBEq, Int.reduceBNe, Nat.reduceBEq, Nat.reduceAdd, Nat.reduceSub, Nat.reduceLeDiff, Nat.reduceEqDiff, Nat.reduceLT, reduceCtorEq, Aw.renR, Aw.pos] <;> rfl)⟩ ?_
  rintro k s ⟨i, hi, hw⟩
  refine AWp.weak hw (AWp.ofD [999] [] hn mixed rfl ?_)
  rcases Nat.lt_or_ge i l.length with hlt | hge
  · have d0 : decide ((i : Int) < (l.length : Int)) = true := decide_eq_true (by omega)
    have d1 := getD_map icn hlt
    have d2 : IntKind.i64.wrap ((i : Int) + 1) = ((i + 1 : Nat) : Int) := by rw [w64 (by omega) (by omega)]; rfl
    have hvi := hv l[i] (List.getElem_mem hlt)
    have d3 : l.getD i 0 = l[i] := by rw [List.getD_eq_getElem?_getD, List.getElem?_eq_getElem hlt]; rfl
    have o1 : outL (subQ (intQ l[i]) (addQ (heightQ l) (mulQ (slopeQ l) (intQ i)))) = txtR (resR l i) := by rw [← d3]; exact (res_can l i).out.trans (by rw [res_r])
    have qi : QB 3 (intQ (i : Int)) := intQ_QB (by omega) (by omega)
    have qv' : QB 3 (intQ l[i]) := intQ_QB (by omega) (by omega)
    have qm : QB 12 (mulQ (slopeQ l) (intQ i)) := mulQ_QB (k := 6) q1 (qi.mono (by decide)) (by decide)
    have qa : QB 101 (addQ (heightQ l) (mulQ (slopeQ l) (intQ i))) := at_QB hv h48 h22 (by omega) (by omega)
    have qs : QB 203 (subQ (intQ l[i]) (addQ (heightQ l) (mulQ (slopeQ l) (intQ i)))) := subQ_QB (k := 101) (qv'.mono (by decide)) qa (by decide)
    have hap := congrArg (List.map tx) (resL_take l i)
    rw [List.map_append] at hap
    have hap : (resTake l i).map tx ++ [tx (resR l i)] = (resTake l (i + 1)).map tx := hap
    have hln : ((resTake l i).map tx).length = i := by rw [List.length_map, resTake_len]
    simp (config := { maxSteps := 2000000 }) only [go_sem, ↓reduceIte, Int.reduceToNat, Nat.reduceMul, Int.reduceBEq, Int.reduceBNe, Nat.reduceBEq, Nat.reduceAdd, Nat.reduceSub, Nat.reduceLeDiff, Nat.reduceEqDiff, Nat.reduceLT, reduceCtorEq, d0, d1]
    (repeat (refine And.intro (by first | omega | (refine ⟨by omega, by omega⟩) | (refine ⟨by omega, by omega, by omega⟩) | (simp only [List.length_map, List.length_range, List.length_append, List.length_cons, List.length_nil, List.length_replicate, List.length_set]; omega) | (simp; omega) | (intro hgd; cases hgd) | (intro hgd; refine ⟨hgd, ?_⟩; first | omega | (refine ⟨by omega, by omega⟩) | (simp; omega))) ?_))
    refine AWp.cut ⟨[(7, .ptr 0 0 0), (8, .ptr 1 0 0), (9, .hnd 2 0 (i + 1) (i + 1) false), (26, ints nl' fl l), (27, I l.length), (28, I i)], [.box 62 (qv (slopeQ l)).cells, .box 62 (qv (heightQ l)).cells, .arr 22 1 ((resTake l (i + 1)).map tx)]⟩ ?_ ?_
    · refine AWp.plan (.take 0 [false, true, true, true, true, true, true, true, true, true, true, true, false, false] (.take 1 [true, false, false, true, true, true, false, false, false, false, false, false, false, false] (.take 3 [true, true, true, false, true, true, true, true, false, false, false, false, false, false] (.take 4 [true, true, true, true, false, true, true, false, false, false, false, false, false, false] (.take 5 [true, true, true, true, true, false, false, false, false, false, false, false, false, false] (.one 2 (.one 6 (.one 7 (.one 8 (.one 9 (.one 10 (.one 11 (.one 12 (.take 13 [true, true, true, true, true, true, true, true, true, true, true, true, true, false] .done)))))))))))))) [true, true, true, true, true, true, true, true, true, true, true, true, false, true] mixed hn rfl rfl ?_
      simp (config := { maxSteps := 2000000 }) only [go_sem, ↓reduceIte, Int.reduceToNat, Nat.reduceMul, Int.reduceBEq, Int.reduceBNe, Nat.reduceBEq, Nat.reduceAdd, Nat.reduceSub, Nat.reduceLeDiff, Nat.reduceEqDiff, Nat.reduceLT, reduceCtorEq]
      repeat' first | (refine And.intro ?_ ?_) | (refine AOne.callA (s42 l[i] (by omega) (by omega)) rfl (by rw [hn]; rfl) (fun rg v hv => ?_); obtain ⟨rfl, rfl⟩ := hv; rw [retS_nil]; simp (config := { maxSteps := 2000000 }) only [go_sem, ↓reduceIte, Int.reduceToNat, Nat.reduceMul, Int.reduceBEq, Int.reduceBNe, Nat.reduceBEq, Nat.reduceAdd, Nat.reduceSub, Nat.reduceLeDiff, Nat.reduceEqDiff, Nat.reduceLT, reduceCtorEq]) | (refine AOne.callA (s42 i (by omega) (by omega)) rfl (by rw [hn]; rfl) (fun rg v hv => ?_); obtain ⟨rfl, rfl⟩ := hv; rw [retS_nil]; simp (config := { maxSteps := 2000000 }) only [go_sem, ↓reduceIte, Int.reduceToNat, Nat.reduceMul, Int.reduceBEq, Int.reduceBNe, Nat.reduceBEq, Nat.reduceAdd, Nat.reduceSub, Nat.reduceLeDiff, Nat.reduceEqDiff, Nat.reduceLT, reduceCtorEq]) | (refine AOne.callA (s43 (slopeQ l) (intQ i) (q1.mono (by decide)) (qi.mono (by decide))) rfl (by rw [hn]; rfl) (fun rg v hv => ?_); obtain ⟨rfl, rfl⟩ := hv; rw [retS_nil]; simp (config := { maxSteps := 2000000 }) only [go_sem, ↓reduceIte, Int.reduceToNat, Nat.reduceMul, Int.reduceBEq, Int.reduceBNe, Nat.reduceBEq, Nat.reduceAdd, Nat.reduceSub, Nat.reduceLeDiff, Nat.reduceEqDiff, Nat.reduceLT, reduceCtorEq]) | (refine AOne.callA (s46 (heightQ l) (mulQ (slopeQ l) (intQ i)) (q2.mono (by decide)) (qm.mono (by decide))) rfl (by rw [hn]; rfl) (fun rg v hv => ?_); obtain ⟨rfl, rfl⟩ := hv; rw [retS_nil]; simp (config := { maxSteps := 2000000 }) only [go_sem, ↓reduceIte, Int.reduceToNat, Nat.reduceMul, Int.reduceBEq, Int.reduceBNe, Nat.reduceBEq, Nat.reduceAdd, Nat.reduceSub, Nat.reduceLeDiff, Nat.reduceEqDiff, Nat.reduceLT, reduceCtorEq]) | (refine AOne.callA (s48 (intQ l[i]) (addQ (heightQ l) (mulQ (slopeQ l) (intQ i))) (qv'.mono (by decide)) (qa.mono (by decide))) rfl (by rw [hn]; rfl) (fun rg v hv => ?_); obtain ⟨rfl, rfl⟩ := hv; rw [retS_nil]; simp (config := { maxSteps := 2000000 }) only [go_sem, ↓reduceIte, Int.reduceToNat, Nat.reduceMul, Int.reduceBEq, Int.reduceBNe, Nat.reduceBEq, Nat.reduceAdd, Nat.reduceSub, Nat.reduceLeDiff, Nat.reduceEqDiff, Nat.reduceLT, reduceCtorEq]) | (refine AOne.calle (s55 (subQ (intQ l[i]) (addQ (heightQ l) (mulQ (slopeQ l) (intQ i)))) (qs.mono (by decide))) rfl (by rw [hn]; rfl) (by simp (config := { maxSteps := 2000000 }) only [go_sem, ↓reduceIte, Int.reduceToNat, Nat.reduceMul, Int.reduceBEq, Int.reduceBNe, Nat.reduceBEq, Nat.reduceAdd, Nat.reduceSub, Nat.reduceLeDiff, Nat.reduceEqDiff, Nat.reduceLT, reduceCtorEq]) ?_; rw [o1]; simp (config := { maxSteps := 2000000 }) only [go_sem, ↓reduceIte, Int.reduceToNat, Nat.reduceMul, Int.reduceBEq, Int.reduceBNe, Nat.reduceBEq, Nat.reduceAdd, Nat.reduceSub, Nat.reduceLeDiff, Nat.reduceEqDiff, Nat.reduceLT, reduceCtorEq])
      all_goals
        refine AOne.rule (AWpL.app (r := 2) (els := (resTake l i).map tx) (ys := [tx (resR l i)]) rfl rfl rfl rfl (by rw [hn]; rfl) hln.symm (pin 2) (by simp (config := { maxSteps := 2000000 }) only [go_sem, ↓reduceIte, Int.reduceToNat, Nat.reduceMul, Int.reduceBEq, Int.reduceBNe, Nat.reduceBEq, Nat.reduceAdd, Nat.reduceSub, Nat.reduceLeDiff, Nat.reduceEqDiff, Nat.reduceLT, reduceCtorEq, Nat.le_refl]) (fun el hm y hy => by
          rw [List.mem_singleton.1 hm] at hy
          rw [List.mem_singleton.1 hy]; rfl) (by simp only [List.length_cons, List.length_nil]; omega) (by simp only [List.length_cons, List.length_nil]; omega) (AWpL.ofM hn rfl ?_))
        simp (config := { maxSteps := 2000000 }) only [go_sem, ↓reduceIte, Int.reduceToNat, Nat.reduceMul, Int.reduceBEq, Int.reduceBNe, Nat.reduceBEq, Nat.reduceAdd, Nat.reduceSub, Nat.reduceLeDiff, Nat.reduceEqDiff, Nat.reduceLT, reduceCtorEq, hap]
        exact weak_to [0, 1, 2] hp hnp rfl (by simp (config := { maxSteps := 2000000 }) only [go_sem, ↓reduceIte, Int.reduceToNat, Nat.reduceMul, Int.reduceBEq, Int.reduceBNe, Nat.reduceBEq, Nat.reduceAdd, Nat.reduceSub, Nat.reduceLeDiff, Nat.reduceEqDiff, Nat.reduceLT, reduceCtorEq, Aw.pos] <;> rfl) (by simp (config := { maxSteps := 2000000 }) only [go_sem, ↓reduceIte, Int.reduceToNat, Nat.reduceMul, Int.reduceBEq, Int.reduceBNe, Nat.reduceBEq, Nat.reduceAdd, Nat.reduceSub, Nat.reduceLeDiff, Nat.reduceEqDiff, Nat.reduceLT, reduceCtorEq, Aw.renR, Aw.pos] <;> rfl)
    simp (config := { maxSteps := 2000000 }) only [go_sem, ↓reduceIte, Int.reduceToNat, Nat.reduceMul, Int.reduceBEq, Int.reduceBNe, Nat.reduceBEq, Nat.reduceAdd, Nat.reduceSub, Nat.reduceLeDiff, Nat.reduceEqDiff, Nat.reduceLT, reduceCtorEq, d2]
    (repeat (refine And.intro (by first | omega | (refine ⟨by omega, by omega⟩) | (refine ⟨by omega, by omega, by omega⟩) | (simp only [List.length_map, List.length_range, List.length_append, List.length_cons, List.length_nil, List.length_replicate, List.length_set]; omega) | (simp; omega) | (intro hgd; cases hgd) | (intro hgd; refine ⟨hgd, ?_⟩; first | omega | (refine ⟨by omega, by omega⟩) | (simp; omega))) ?_))
    exact ⟨k - 1, by omega, i + 1, by omega, weak_to [0, 1, 2] hp hnp rfl (by simp (config := { maxSteps := 2000000 }) only [go_sem, ↓reduceIte, Int.reduceToNat, Nat.reduceMul, Int.reduceBEq, Int.reduceBNe, Nat.reduceBEq, Nat.reduceAdd, Nat.reduceSub, Nat.reduceLeDiff, Nat.reduceEqDiff, Nat.reduceLT, reduceCtorEq, Aw.pos, d2] <;> rfl) (by simp (config := { maxSteps := 2000000 }) only [go_sem, ↓reduceIte, Int.reduceToNat, Nat.reduceMul, Int.reduceBEq, Int.reduceBNe, Nat.reduceBEq, Nat.reduceAdd, Nat.reduceSub, Nat.reduceLeDiff, Nat.reduceEqDiff, Nat.reduceLT, reduceCtorEq, Aw.renR, Aw.pos] <;> rfl)⟩
  have d0 : decide ((i : Int) < (l.length : Int)) = false := decide_eq_false (by omega)
  have hi2 : i = l.length := by omega
  subst hi2
  simp (config := { maxSteps := 2000000 }) only [go_sem, ↓reduceIte, Int.reduceToNat, Nat.reduceMul, Int.reduceBEq, Int.reduceBNe, Nat.reduceBEq, Nat.reduceAdd, Nat.reduceSub, Nat.reduceLeDiff, Nat.reduceEqDiff, Nat.reduceLT, reduceCtorEq, d0]
  refine Retn.weak (weak_freeze 2 rfl (pin 2) (by simp (config := { maxSteps := 2000000 }) only [go_sem, ↓reduceIte, Int.reduceToNat, Nat.reduceMul, Int.reduceBEq, Int.reduceBNe, Nat.reduceBEq, Nat.reduceAdd, Nat.reduceSub, Nat.reduceLeDiff, Nat.reduceEqDiff, Nat.reduceLT, reduceCtorEq, Nat.le_refl, List.length_map, resTake_len])) _ ?_
  refine Retn.ret (π := []) hp hnp ⟨rfl, ?_⟩
  simp (config := { maxSteps := 2000000 }) only [go_sem, ↓reduceIte, Int.reduceToNat, Nat.reduceMul, Int.reduceBEq, Int.reduceBNe, Nat.reduceBEq, Nat.reduceAdd, Nat.reduceSub, Nat.reduceLeDiff, Nat.reduceEqDiff, Nat.reduceLT, reduceCtorEq, Aw.renR, Aw.pos]
  rw [List.take_of_length_le (by rw [List.length_map, resTake_len]; exact Nat.le_refl _)]
  rfl
end Go.Proofs.YtjaakbkneeojnaaDoor
