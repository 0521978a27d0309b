/- Forecasts: values on a line. -/
import Derived.Test.YtjaakbkneeojnaaDoorAwZl
import Derived.Test.YtjaakbkneeojnaaDoorFcaC
set_option linter.unusedVariables false
set_option linter.unusedSimpArgs false
namespace Go.Proofs.YtjaakbkneeojnaaDoor
open Go.Proofs.YtjaakbkneeojnaaDoor.Aw
attribute [local go_sem] Int.natCast_zero Int.natCast_one bne_self_eq_false beq_self_eq_true Bool.not_true Bool.not_false Option.isSome_none Option.isSome_some Aw.bkM_nil Option.getD_some Option.getD_none Nat.sub_zero Int.toNat_zero Aw.frzS Aw.frzT Aw.frzA Aw.frzL Aw.frzR Aw.frzO Aw.frzOL Aw.frzOT Aw.frzOR Aw.killS Aw.mapT Aw.mapR Aw.killM Aw.resAVs Aw.resAV Aw.quietOps Aw.wpP Aw.wpT Aw.wpS Aw.AOp.mild List.getElem?_cons_zero List.getElem?_cons_succ Bool.and_false Bool.and_self Bool.false_and Aw.opOb Aw.gdB Aw.Rnd Aw.subTm List.length_map Int.toNat_natCast and_self Aw.SeqC Aw.stops Aw.Ends Aw.looks Aw.renA Aw.renL Aw.renT Aw.renS Aw.wpO Aw.aop Aw.putTm Aw.St.ev Aw.St.put Aw.St.putO Aw.binAV Aw.intBin Aw.strBin Aw.pickAV Aw.optInt Aw.AV.strip Aw.AV.guard Aw.AV.cells Aw.gdOb Aw.AOp.opds Aw.AOp.still Aw.ptrCells Aw.St.reg Aw.fillAV Aw.fillOb Aw.elsOb Aw.splice Aw.firm Aw.cellish Aw.AV.shut Aw.shutAll Aw.Seq Aw.Blk Aw.retS_nil Aw.mapA Aw.mapL Aw.borA Aw.borOb Aw.allOb Aw.tupOf Aw.params Aw.Opd.of Array.toList Value.cells List.map_cons List.map_nil List.getD_cons_zero List.getD_cons_succ List.getD_nil List.length_cons List.length_nil List.take_succ_cons List.take_zero List.take_nil List.drop_zero List.drop_succ_cons List.drop_nil List.set_cons_zero List.set_cons_succ List.append_nil List.nil_append List.cons_append List.all_cons List.all_nil cond_false cond_true if_true if_false true_and and_true Bool.and_true Bool.true_and Option.map_some Option.map_none false_implies forall_const implies_true forall_eq imp_self Bool.cond_false_right Bool.cond_true_left beq_true beq_false Bool.not_eq_true' Bool.false_eq_true Nat.zero_add Nat.add_zero Aw.eqCells Aw.stopDraw Aw.skipS Aw.exactCap Aw.revealS Aw.srcEls Aw.srcSz
attribute [local go_sem ↓] Aw.look_nil Aw.look_ite Aw.wpL_nil Aw.wpL_op Aw.wpL_gd Aw.wpQ_nil Aw.wpQ_op Aw.wpQ_gd Aw.wpC_draw Aw.wpC_reg Aw.wpC_skip Aw.wpC_ret Aw.wpC_exit Aw.wpC_seq Aw.wpC_block Aw.wpC_loop Aw.wpC_cond Aw.stopAt_nil Aw.stopAt_cons Aw.wpD_skip Aw.wpD_ret Aw.wpD_exit Aw.wpD_region Aw.wpD_draw Aw.wpM_nil Aw.wpM_op Aw.wpM_gd Aw.wpD_seq Aw.wpD_block Aw.wpD_loop Aw.wpD_cond

/- slices.IndexFunc[[]gridhall/api.Rat,gridhall/api.Rat] -/
def a61 : ACode :=
  (.seq (.region false [] [
     ⟨(some 4), none, (.mov (.v (.int .i64 0)))⟩])
  (.seq (.seq (.region false [] [
     ⟨(some 6), none, (.mov (.t 0))⟩,
     ⟨(some 7), none, (.len (.t 6))⟩,
     ⟨(some 8), none, (.mov (.v (.int .i64 0)))⟩])
  (.block 0 (.loop (.seq (.region false [] [
       ⟨(some 9), none, (.bin .lss 3 (.t 8) (.t 7))⟩])
    (.seq (.cond (.t 9)
      .skip
      (.exit 0))
    (.seq (.block 1 (.seq (.region false [] [
        ⟨(some 10), none, (.mov (.t 8))⟩,
        ⟨(some 5), none, (.mov (.t 10))⟩])
     (.seq (.region false [] [
        ⟨(some 11), none, (.mov (.t 1))⟩,
        ⟨(some 12), none, (.mov (.t 0))⟩,
        ⟨(some 13), none, (.mov (.t 5))⟩,
        ⟨(some 14), none, (.idx 1 (.t 12) (.t 13))⟩,
        ⟨(some 15), none, (.load 1 false (.t 14))⟩,
        ⟨(some 16), none, (.callv (.t 11) [(.t 15)])⟩])
     (.cond (.t 16)
       (.seq (.region false [] [
          ⟨(some 17), none, (.mov (.t 5))⟩,
          ⟨(some 4), none, (.mov (.t 17))⟩])
       .ret)
       .skip))))
    (.region false [] [
       ⟨(some 18), none, (.bin .add 3 (.t 8) (.v (.int .i64 1)))⟩,
       ⟨(some 8), none, (.mov (.t 18))⟩])))))))
  (.seq (.region false [] [
     ⟨(some 4), none, (.mov (.v (.int .i64 (-1))))⟩])
  .ret)))
theorem k61 : FnIs Tryd.prog 61 19 [.t 4] a61 := ⟨_, _, Tryd.func61, rfl, by kernel_rfl, by kernel_rfl, rfl⟩
/- slices.ContainsFunc[[]gridhall/api.Rat,gridhall/api.Rat] -/
def a33 : ACode :=
  (.seq (.region false [] [
     ⟨(some 4), none, (.mov (.v (.bool false)))⟩])
  (.seq (.region false [] [
     ⟨(some 5), none, (.mov (.t 0))⟩,
     ⟨(some 6), none, (.mov (.t 1))⟩,
     ⟨(some 7), none, (.call 61 [(.t 5), (.t 6)])⟩,
     ⟨(some 8), none, (.bin .geq 3 (.t 7) (.v (.int .i64 0)))⟩,
     ⟨(some 4), none, (.mov (.t 8))⟩])
  .ret))
theorem k33 : FnIs Tryd.prog 33 9 [.t 4] a33 := ⟨_, _, Tryd.func33, rfl, by kernel_rfl, by kernel_rfl, rfl⟩
/- gridhall/gridhallkeep4.ForecastExact$1 -/
def a34 : ACode :=
  (.seq (.region false [] [
     ⟨(some 2), none, (.mov (.v (.bool false)))⟩])
  (.seq (.region false [] [
     ⟨(some 3), none, (.mov (.t 0))⟩,
     ⟨(some 4), none, (.bin .neq 22 (.t 3) (.v (.string ⟨#[48]⟩)))⟩,
     ⟨(some 2), none, (.mov (.t 4))⟩])
  .ret))
theorem k34 : FnIs Tryd.prog 34 5 [.t 2] a34 := ⟨_, _, Tryd.func34, rfl, by kernel_rfl, by kernel_rfl, rfl⟩
/- gridhall/gridhallkeep4.ForecastExact -/
def a10 : ACode :=
  (.seq (.region false [] [
     ⟨(some 8), none, (.mov (.v (.bool false)))⟩])
  (.seq (.region false [] [
     ⟨(some 17), none, (.mov (.t 0))⟩,
     ⟨(some 18), none, (.call 26 [(.t 17), (.v (.int .i64 (-900))), (.v (.int .i64 900))])⟩,
     ⟨(some 19), none, (.mov (.t 1))⟩,
     ⟨(some 20), none, (.call 26 [(.t 19), (.v (.int .i64 (-900))), (.v (.int .i64 900))])⟩,
     ⟨(some 21), none, (.mov (.t 2))⟩,
     ⟨(some 22), none, (.call 26 [(.t 21), (.v (.int .i64 2)), (.v (.int .i64 30))])⟩,
     ⟨(some 23), none, (.mov (.t 3))⟩,
     ⟨(some 24), none, (.call 26 [(.t 23), (.v (.int .i64 0)), (.v (.int .i64 40))])⟩,
     ⟨(some 0), none, (.mov (.t 18))⟩,
     ⟨(some 1), none, (.mov (.t 20))⟩,
     ⟨(some 2), none, (.mov (.t 22))⟩,
     ⟨(some 3), none, (.mov (.t 24))⟩])
  (.seq (.region false [] [
     ⟨(some 9), none, (.mov (.v (.slice none 0 0)))⟩])
  (.seq (.seq (.region false [] [
     ⟨(some 25), none, (.mov (.t 2))⟩,
     ⟨(some 26), none, (.mov (.v (.int .i64 0)))⟩])
  (.block 0 (.loop (.seq (.region false [] [
       ⟨(some 27), none, (.bin .lss 3 (.t 26) (.t 25))⟩])
    (.seq (.cond (.t 27)
      .skip
      (.exit 0))
    (.seq (.block 1 (.seq (.region false [] [
        ⟨(some 28), none, (.mov (.t 26))⟩,
        ⟨(some 10), none, (.mov (.t 28))⟩])
     (.region false [] [
        ⟨(some 29), none, (.mov (.t 9))⟩,
        ⟨(some 30), none, (.mov (.t 0))⟩,
        ⟨(some 31), none, (.mov (.t 1))⟩,
        ⟨(some 32), none, (.mov (.t 10))⟩,
        ⟨(some 33), none, (.bin .mul 3 (.t 31) (.t 32))⟩,
        ⟨(some 34), none, (.bin .add 3 (.t 30) (.t 33))⟩,
        ⟨(some 35), none, (.bsl 3 1 1 [(0, (.t 34))])⟩,
        ⟨(some 36), none, (.app 3 1 8 (.int .i64 0) (.t 29) (.t 35))⟩,
        ⟨(some 9), none, (.mov (.t 36))⟩])))
    (.region false [] [
       ⟨(some 37), none, (.bin .add 3 (.t 26) (.v (.int .i64 1)))⟩,
       ⟨(some 26), none, (.mov (.t 37))⟩])))))))
  (.seq (.region false [] [
     ⟨(some 39), none, (.mov (.t 9))⟩,
     ⟨(some 40), none, (.call 23 [(.t 39)])⟩,
     ⟨(some 38), none, (.mov (.t 40))⟩,
     ⟨(some 41), none, (.ext 0 (.t 38))⟩,
     ⟨(some 42), none, (.ext 1 (.t 38))⟩,
     ⟨(some 11), none, (.mov (.t 41))⟩,
     ⟨(some 12), none, (.mov (.t 42))⟩])
  (.seq (.region false [] [
     ⟨(some 44), none, (.mov (.t 9))⟩,
     ⟨(some 45), none, (.mov (.t 3))⟩,
     ⟨(some 46), none, (.call 32 [(.t 44), (.t 45)])⟩,
     ⟨(some 43), none, (.mov (.t 46))⟩,
     ⟨(some 47), none, (.ext 0 (.t 43))⟩,
     ⟨(some 48), none, (.ext 1 (.t 43))⟩,
     ⟨(some 13), none, (.mov (.t 47))⟩,
     ⟨(some 14), none, (.mov (.t 48))⟩])
  (.seq (.region false [] [
     ⟨(some 50), none, (.mov (.t 0))⟩,
     ⟨(some 51), none, (.mov (.t 1))⟩,
     ⟨(some 52), none, (.mov (.t 2))⟩,
     ⟨(some 53), none, (.bin .sub 3 (.t 52) (.v (.int .i64 1)))⟩,
     ⟨(some 54), none, (.mov (.t 3))⟩,
     ⟨(some 55), none, (.bin .add 3 (.t 53) (.t 54))⟩,
     ⟨(some 56), none, (.bin .mul 3 (.t 51) (.t 55))⟩,
     ⟨(some 57), none, (.bin .add 3 (.t 50) (.t 56))⟩,
     ⟨(some 58), none, (.call 20 [(.t 57), (.v (.int .i64 1))])⟩,
     ⟨(some 49), none, (.mov (.t 58))⟩,
     ⟨(some 59), none, (.ext 0 (.t 49))⟩,
     ⟨(some 60), none, (.ext 1 (.t 49))⟩,
     ⟨(some 15), none, (.mov (.t 59))⟩,
     ⟨(some 16), none, (.mov (.t 60))⟩])
  (.seq (.region false [] [
     ⟨(some 61), none, (.call 24 [])⟩,
     ⟨(some 62), none, (.mov (.t 61))⟩,
     ⟨(some 63), (some (62, true)), (.mov (.t 12))⟩,
     ⟨(some 64), (some (62, true)), (.bin .eql 25 (.t 63) (.v (.int .i64 0)))⟩,
     ⟨(some 65), none, (.pick (.t 62) (.t 64) (.v (.bool false)))⟩,
     ⟨(some 66), none, (.mov (.t 65))⟩,
     ⟨(some 67), (some (66, true)), (.mov (.t 14))⟩,
     ⟨(some 68), (some (66, true)), (.bin .eql 25 (.t 67) (.v (.int .i64 0)))⟩,
     ⟨(some 69), none, (.pick (.t 66) (.t 68) (.v (.bool false)))⟩,
     ⟨(some 70), none, (.mov (.t 69))⟩,
     ⟨(some 71), (some (70, true)), (.mov (.t 16))⟩,
     ⟨(some 72), (some (70, true)), (.bin .eql 25 (.t 71) (.v (.int .i64 0)))⟩,
     ⟨(some 73), none, (.pick (.t 70) (.t 72) (.v (.bool false)))⟩,
     ⟨(some 74), none, (.mov (.t 73))⟩,
     ⟨(some 75), (some (74, true)), (.mov (.t 13))⟩,
     ⟨(some 76), (some (74, true)), (.mov (.t 15))⟩,
     ⟨(some 77), (some (74, true)), (.bin .eql 22 (.t 75) (.t 76))⟩,
     ⟨(some 78), none, (.pick (.t 74) (.t 77) (.v (.bool false)))⟩,
     ⟨(some 79), none, (.mov (.t 78))⟩,
     ⟨(some 80), (some (79, true)), (.mov (.t 11))⟩,
     ⟨(some 81), (some (79, true)), (.len (.t 80))⟩,
     ⟨(some 82), (some (79, true)), (.mov (.t 2))⟩,
     ⟨(some 83), (some (79, true)), (.bin .eql 3 (.t 81) (.t 82))⟩,
     ⟨(some 84), none, (.pick (.t 79) (.t 83) (.v (.bool false)))⟩,
     ⟨(some 85), none, (.mov (.t 84))⟩,
     ⟨(some 86), (some (85, true)), (.mov (.t 11))⟩,
     ⟨(some 87), (some (85, true)), (.call 33 [(.t 86), (.v (.func (.func 34) #[] #[]))])⟩,
     ⟨(some 88), (some (85, true)), (.un .not (.t 87))⟩,
     ⟨(some 89), none, (.pick (.t 85) (.t 88) (.v (.bool false)))⟩,
     ⟨(some 8), none, (.mov (.t 89))⟩])
  .ret))))))))
theorem k10 : FnIs Tryd.prog 10 90 [.t 8] a10 := ⟨_, _, Tryd.func10, rfl, by kernel_rfl, by kernel_rfl, rfl⟩

theorem s61 (nl fl) (l : List ((List UInt8))) (g : FuncId) (caps : List AV) (p : (List UInt8) → Bool) (hg : fnOk Tryd.prog g = true) (hc : renL [] caps = caps) (hq : ∀ x ∈ l, Aw.Spec Tryd.prog g [] ((fun l => S (bA l)) x :: caps) (Gives (· = B (p x)))) (hl : l.length ≤ 9223372036854775807) :
    Aw.Spec Tryd.prog 61 [] [.imm nl fl 1 (l.map bl), .fn g caps] (Gives (· = I (fIndex p 0 l))) := by
  refine Aw.Spec.givesD k61 mixed rfl rfl rfl fun E hn hnp hp => ?_
  unfold a61
  simp (config := { maxSteps := 2000000 }) only [go_sem, ↓reduceIte, Int.reduceToNat, Nat.reduceMul, Int.reduceBEq, Int.reduceBNe, Nat.reduceBEq, Nat.reduceAdd, Nat.reduceSub, Nat.reduceLeDiff, Nat.reduceEqDiff, Nat.reduceLT, reduceCtorEq]
  refine AWp.loop (fun k s => ∃ i : Nat, i + k = l.length ∧ fIndex p 0 l = fIndex p i (l.drop i) ∧ Weak E s ⟨[(0, .imm nl fl 1 (l.map bl)), (1, .fn g caps), (7, I l.length), (8, I i)], []⟩) (n := l.length)
    ⟨0, by omega, rfl, weak_to [] hp hnp rfl (by simp (config := { maxSteps := 2000000 }) only [go_sem, ↓reduceIte, Int.reduceToNat, Nat.reduceMul, Int.reduceBEq, Int.reduceBNe, Nat.reduceBEq, Nat.reduceAdd, Nat.reduceSub, Nat.reduceLeDiff, Nat.reduceEqDiff, Nat.reduceLT, reduceCtorEq, hc, Int.natCast_zero]) rfl⟩ ?_
  rintro k s ⟨i, hi, hs, hw⟩
  refine AWp.weak hw (AWp.ofD [] [] hn mixed rfl ?_)
  rcases Nat.lt_or_ge i l.length with hlt | hge
  · have e0 : decide ((i : Int) < (l.length : Int)) = true := decide_eq_true (by omega)
    have e1 := getD_map bl hlt
    have e2 : IntKind.i64.wrap ((i : Int) + 1) = ((i + 1 : Nat) : Int) := by rw [w64 (by omega) (by omega)]; omega
    have h2 := hq _ (List.getElem_mem hlt)
    rw [fIndex_drop hlt] at hs
    generalize l[i] = x at e1 h2 hs
    simp (config := { maxSteps := 2000000 }) only [go_sem, ↓reduceIte, Int.reduceToNat, Nat.reduceMul, Int.reduceBEq, Int.reduceBNe, Nat.reduceBEq, Nat.reduceAdd, Nat.reduceSub, Nat.reduceLeDiff, Nat.reduceEqDiff, Nat.reduceLT, reduceCtorEq, e0, e1]
    (repeat (refine And.intro (by first | omega | (refine ⟨by omega, by omega⟩) | (refine ⟨by omega, by omega, by omega⟩) | (simp only [List.length_map, List.length_range, List.length_append, List.length_cons, List.length_nil, List.length_replicate, List.length_set]; omega) | (simp; omega) | (intro hgd; cases hgd) | (intro hgd; refine ⟨hgd, ?_⟩; first | omega | (refine ⟨by omega, by omega⟩) | (simp; omega))) ?_))
    refine AWpL.callv rfl hg (by rw [← hc] at h2; exact h2) (by rw [hn]; rfl) fun rg v hv => ?_
    obtain ⟨rfl, rfl⟩ := hv
    rw [retS_nil]
    refine AWpL.ofM hn rfl ?_
    simp (config := { maxSteps := 2000000 }) only [go_sem, ↓reduceIte, Int.reduceToNat, Nat.reduceMul, Int.reduceBEq, Int.reduceBNe, Nat.reduceBEq, Nat.reduceAdd, Nat.reduceSub, Nat.reduceLeDiff, Nat.reduceEqDiff, Nat.reduceLT, reduceCtorEq, e2]
    refine ⟨fun h => ?_, fun h => ?_⟩
    · rw [hs, if_pos h]
    · rw [if_neg (by simp [h])] at hs
      exact ⟨k - 1, by omega, i + 1, by omega, hs, weak_to [] hp hnp rfl (by simp (config := { maxSteps := 2000000 }) only [go_sem, ↓reduceIte, Int.reduceToNat, Nat.reduceMul, Int.reduceBEq, Int.reduceBNe, Nat.reduceBEq, Nat.reduceAdd, Nat.reduceSub, Nat.reduceLeDiff, Nat.reduceEqDiff, Nat.reduceLT, reduceCtorEq, hc]) rfl⟩
  · have e0 : decide ((i : Int) < (l.length : Int)) = false := decide_eq_false (by omega)
    simp (config := { maxSteps := 2000000 }) only [go_sem, ↓reduceIte, Int.reduceToNat, Nat.reduceMul, Int.reduceBEq, Int.reduceBNe, Nat.reduceBEq, Nat.reduceAdd, Nat.reduceSub, Nat.reduceLeDiff, Nat.reduceEqDiff, Nat.reduceLT, reduceCtorEq, e0]
    rw [hs, List.drop_of_length_le hge]
    rfl

theorem s33 (nl fl) (l : List ((List UInt8))) (g : FuncId) (caps : List AV) (p : (List UInt8) → Bool) (hg : fnOk Tryd.prog g = true) (hc : renL [] caps = caps) (hb : caps.map (borA 3 ⟨[], []⟩) = caps) (hq : ∀ x ∈ l, Aw.Spec Tryd.prog g [] ((fun l => S (bA l)) x :: caps) (Gives (· = B (p x)))) (hl : l.length ≤ 9223372036854775807) :
    Aw.Spec Tryd.prog 33 [] [.imm nl fl 1 (l.map bl), .fn g caps] (Gives (· = B (l.any p))) := by
  refine Aw.Spec.givesD k33 mixed rfl rfl rfl fun E hn hnp hp => ?_
  unfold a33
  simp (config := { maxSteps := 2000000 }) only [go_sem, ↓reduceIte, Int.reduceToNat, Nat.reduceMul, Int.reduceBEq, Int.reduceBNe, Nat.reduceBEq, Nat.reduceAdd, Nat.reduceSub, Nat.reduceLeDiff, Nat.reduceEqDiff, Nat.reduceLT, reduceCtorEq]
  refine AWpL.callA [] (s61 nl fl l g caps p hg hc hq hl) rfl (by simp (config := { maxSteps := 2000000 }) only [go_sem, ↓reduceIte, Int.reduceToNat, Nat.reduceMul, Int.reduceBEq, Int.reduceBNe, Nat.reduceBEq, Nat.reduceAdd, Nat.reduceSub, Nat.reduceLeDiff, Nat.reduceEqDiff, Nat.reduceLT, reduceCtorEq, hc]) (by rw [hn]; rfl) rfl (fun r hr => by cases hr) fun rg v hv => ?_
  obtain ⟨rfl, rfl⟩ := hv
  refine ⟨Nat.le_refl _, ?_⟩
  rw [retS_nil]
  refine AWpL.ofM hn rfl ?_
  simp (config := { maxSteps := 2000000 }) only [go_sem, ↓reduceIte, Int.reduceToNat, Nat.reduceMul, Int.reduceBEq, Int.reduceBNe, Nat.reduceBEq, Nat.reduceAdd, Nat.reduceSub, Nat.reduceLeDiff, Nat.reduceEqDiff, Nat.reduceLT, reduceCtorEq]
  rw [fIndex_any]

theorem s34 : Aw.Spec Tryd.prog 34 [] [S (bA [48])] (Gives (· = B false)) := by
  refine Aw.Spec.givesD k34 mixed rfl rfl rfl fun E hn hnp hp => ?_
  unfold a34
  have e1 : (bA [48]).toList == (⟨#[48]⟩ : ByteArray).toList := by rw [bA_toList, Lib.toList_data]; rfl
  simp (config := { maxSteps := 2000000 }) only [go_sem, ↓reduceIte, Int.reduceToNat, Nat.reduceMul, Int.reduceBEq, Int.reduceBNe, Nat.reduceBEq, Nat.reduceAdd, Nat.reduceSub, Nat.reduceLeDiff, Nat.reduceEqDiff, Nat.reduceLT, reduceCtorEq, e1]
/-- Values on a line. -/
def lineV (a b : Int) (n : Nat) : List Int := (List.range n).map fun (i : Nat) => a + b * (i : Int)
theorem lineV_succ (a b : Int) (n : Nat) : lineV a b (n + 1) = lineV a b n ++ [a + b * (n : Int)] := by unfold lineV; rw [List.range_succ, List.map_append]; rfl
theorem lineV_len (a b : Int) (n : Nat) : (lineV a b n).length = n := by unfold lineV; rw [List.length_map, List.length_range]
theorem tot_line (a b : Int) : ∀ n : Nat, n ≤ 48 → tot (lineV a b n) = n * a + b * tri n
  | 0, _ => by rw [show tri 0 = 0 from rfl]; simp [lineV, tot]
  | n + 1, h => by
    rw [lineV_succ, tot_append, tot_line a b n (by omega), tri_succ (by omega), tot, tot]
    push_cast
    grind
theorem wt_line (a b : Int) : ∀ n : Nat, n ≤ 48 → wt 0 (lineV a b n) = a * tri n + b * sq n
  | 0, _ => by rw [show tri 0 = 0 from rfl, show sq 0 = 0 from rfl]; simp [lineV, wt]
  | n + 1, h => by
    rw [lineV_succ, wt_append, wt_line a b n (by omega), tri_succ (by omega), lineV_len, Nat.zero_add, wt, wt, sq]
    grind
theorem num_line (a b : Int) (n : Nat) (h : n ≤ 48) : numN (lineV a b n) = b * divD n := by
  unfold numN divD
  rw [lineV_len, tot_line a b n h, wt_line a b n h]
  grind
theorem frac_back (b D : Rat) (hD : D ≠ 0) : b * D / D = b := by grind
theorem height_back (a b n x : Rat) (hn : n ≠ 0) : (n * a + b * x - b * x) / n = a := by grind
theorem slope_line (a b : Int) (n : Nat) (h2 : 2 ≤ n) (h : n ≤ 48) : slopeR (lineV a b n) = (b : Rat) := by
  have hD := divD_pos h2 h
  have hd : ((divD n : Int) : Rat) ≠ 0 := cast_ne (by omega)
  unfold slopeR
  rw [num_line a b n h, lineV_len, Rat.intCast_mul]
  exact frac_back _ _ hd
theorem height_line (a b : Int) (n : Nat) (h2 : 2 ≤ n) (h : n ≤ 48) : heightR (lineV a b n) = (a : Rat) := by
  have hn : (((n : Nat) : Int) : Rat) ≠ 0 := cast_ne (by omega)
  unfold heightR
  rw [slope_line a b n h2 h, tot_line a b n h, lineV_len, Rat.intCast_add, Rat.intCast_mul, Rat.intCast_mul]
  exact height_back _ _ _ _ hn
theorem at_line (a b : Int) (n : Nat) (h2 : 2 ≤ n) (h : n ≤ 48) (k : Int) : atR (lineV a b n) k = ((a + b * k : Int) : Rat) := by
  unfold atR
  rw [height_line a b n h2 h, slope_line a b n h2 h, Rat.intCast_add, Rat.intCast_mul]
theorem lineV_get (a b : Int) (n i : Nat) (hi : i < n) : (lineV a b n).getD i 0 = a + b * (i : Int) := by
  unfold lineV
  rw [List.getD_eq_getElem?_getD, List.getElem?_map, List.getElem?_range hi]
  rfl
theorem res_line (a b : Int) (n : Nat) (h2 : 2 ≤ n) (h : n ≤ 48) : resL (lineV a b n) = List.replicate n 0 := by
  unfold resL resTake
  rw [lineV_len]
  apply List.ext_getElem
  · simp
  · intro i h1 h2'
    have hi : i < n := by simpa using h1
    rw [List.getElem_map, List.getElem_range, List.getElem_replicate]
    unfold resR
    rw [lineV_get a b n i hi, at_line a b n h2 h]
    grind
theorem bi_bound {b i : Int} (h0 : -900 ≤ b) (h1 : b ≤ 900) (hi : 0 ≤ i) (hi2 : i ≤ 70) : -63000 ≤ b * i ∧ b * i ≤ 63000 := by
  have := mul_bound (i := i) (v := b) (a := 70) (b := 900) hi hi2 h0 h1 (by decide)
  rw [Int.mul_comm i b] at this
  omega
theorem line_ok (a b : Int) (n : Nat) (ha : -900 ≤ a ∧ a ≤ 900) (hb : -900 ≤ b ∧ b ≤ 900) (h2 : 2 ≤ n) (h : n ≤ 30) : lineE (lineV a b n) = 0 := by
  have hv : valsOk (lineV a b n) := fun v hv => by
    unfold lineV at hv
    obtain ⟨i, hi, rfl⟩ := List.mem_map.1 hv
    have hi := List.mem_range.1 hi
    have := bi_bound hb.1 hb.2 (i := (i : Int)) (by omega) (by omega)
    omega
  have hc : checkV (lineV a b n) = 0 := by
    unfold checkV
    rw [lineV_len, if_neg (by omega), if_pos hv]
  unfold lineE
  rw [hc, if_neg (by simp), lineV_len, if_neg (by omega)]
set_option maxRecDepth 20000 in
set_option maxHeartbeats 1000000 in
theorem s10 (a0 b0 n0 k0 : Int) : Aw.Spec Tryd.prog 10 [] [I a0, I b0, I n0, I k0] (Gives (· = B true)) := by
  refine Spec.shut (Post := fun rg v => v = B true) ?_ fun rg v h => by subst h; exact ⟨rfl, rfl, rfl⟩
  refine Aw.Spec.regsW k10 rfl rfl fun E hn hnp hp => ?_
  unfold a10
  have pin : ∀ r, E.pin r = none := fun r => hp.none hnp (Nat.zero_le _)
  refine AWp.ofD [] [] hn mixed rfl ?_
  simp (config := { maxSteps := 2000000 }) only [go_sem, ↓reduceIte, Int.reduceToNat, Nat.reduceMul, Int.reduceBEq, Int.reduceBNe, Nat.reduceBEq, Nat.reduceAdd, Nat.reduceSub, Nat.reduceLeDiff, Nat.reduceEqDiff, Nat.reduceLT, reduceCtorEq]
  (refine AWpL.calle (s26 a0 (-900) 900 (by decide) (by decide) (by decide)) rfl (by rw [hn]; rfl) (by simp (config := { maxSteps := 2000000 }) only [go_sem, ↓reduceIte, Int.reduceToNat, Nat.reduceMul, Int.reduceBEq, Int.reduceBNe, Nat.reduceBEq, Nat.reduceAdd, Nat.reduceSub, Nat.reduceLeDiff, Nat.reduceEqDiff, Nat.reduceLT, reduceCtorEq]) (AWpL.ofM hn rfl ?_); simp (config := { maxSteps := 2000000 }) only [go_sem, ↓reduceIte, Int.reduceToNat, Nat.reduceMul, Int.reduceBEq, Int.reduceBNe, Nat.reduceBEq, Nat.reduceAdd, Nat.reduceSub, Nat.reduceLeDiff, Nat.reduceEqDiff, Nat.reduceLT, reduceCtorEq])
  (refine AWpL.calle (s26 b0 (-900) 900 (by decide) (by decide) (by decide)) rfl (by rw [hn]; rfl) (by simp (config := { maxSteps := 2000000 }) only [go_sem, ↓reduceIte, Int.reduceToNat, Nat.reduceMul, Int.reduceBEq, Int.reduceBNe, Nat.reduceBEq, Nat.reduceAdd, Nat.reduceSub, Nat.reduceLeDiff, Nat.reduceEqDiff, Nat.reduceLT, reduceCtorEq]) (AWpL.ofM hn rfl ?_); simp (config := { maxSteps := 2000000 }) only [go_sem, ↓reduceIte, Int.reduceToNat, Nat.reduceMul, Int.reduceBEq, Int.reduceBNe, Nat.reduceBEq, Nat.reduceAdd, Nat.reduceSub, Nat.reduceLeDiff, Nat.reduceEqDiff, Nat.reduceLT, reduceCtorEq])
  (refine AWpL.calle (s26 n0 2 30 (by decide) (by decide) (by decide)) rfl (by rw [hn]; rfl) (by simp (config := { maxSteps := 2000000 }) only [go_sem, ↓reduceIte, Int.reduceToNat, Nat.reduceMul, Int.reduceBEq, Int.reduceBNe, Nat.reduceBEq, Nat.reduceAdd, Nat.reduceSub, Nat.reduceLeDiff, Nat.reduceEqDiff, Nat.reduceLT, reduceCtorEq]) (AWpL.ofM hn rfl ?_); simp (config := { maxSteps := 2000000 }) only [go_sem, ↓reduceIte, Int.reduceToNat, Nat.reduceMul, Int.reduceBEq, Int.reduceBNe, Nat.reduceBEq, Nat.reduceAdd, Nat.reduceSub, Nat.reduceLeDiff, Nat.reduceEqDiff, Nat.reduceLT, reduceCtorEq])
  (refine AWpL.calle (s26 k0 0 40 (by decide) (by decide) (by decide)) rfl (by rw [hn]; rfl) (by simp (config := { maxSteps := 2000000 }) only [go_sem, ↓reduceIte, Int.reduceToNat, Nat.reduceMul, Int.reduceBEq, Int.reduceBNe, Nat.reduceBEq, Nat.reduceAdd, Nat.reduceSub, Nat.reduceLeDiff, Nat.reduceEqDiff, Nat.reduceLT, reduceCtorEq]) (AWpL.ofM hn rfl ?_); simp (config := { maxSteps := 2000000 }) only [go_sem, ↓reduceIte, Int.reduceToNat, Nat.reduceMul, Int.reduceBEq, Int.reduceBNe, Nat.reduceBEq, Nat.reduceAdd, Nat.reduceSub, Nat.reduceLeDiff, Nat.reduceEqDiff, Nat.reduceLT, reduceCtorEq])
  have hc900 : ∀ x : Int, -900 ≤ cut x (-900) 900 ∧ cut x (-900) 900 ≤ 900 := fun x => by
    have : cut x (-900) 900 = -900 + x % 1801 := rfl
    omega
  have ha := hc900 a0
  have hb := hc900 b0
  clear hc900
  have hnn : 2 ≤ cut n0 2 30 ∧ cut n0 2 30 ≤ 30 := by unfold cut; omega
  have hk : 0 ≤ cut k0 0 40 ∧ cut k0 0 40 ≤ 40 := by unfold cut; omega
  generalize cut a0 (-900) 900 = a at *
  generalize cut b0 (-900) 900 = b at *
  generalize cut n0 2 30 = n' at *
  generalize cut k0 0 40 = k at *
  obtain ⟨n, rfl⟩ : ∃ n : Nat, n' = (n : Int) := ⟨n'.toNat, by omega⟩
  (repeat (refine And.intro (by first | omega | (refine ⟨by omega, by omega⟩) | (refine ⟨by omega, by omega, by omega⟩) | (simp only [List.length_map, List.length_range, List.length_append, List.length_cons, List.length_nil, List.length_replicate, List.length_set]; omega) | (simp; omega) | (intro hgd; cases hgd) | (intro hgd; refine ⟨hgd, ?_⟩; first | omega | (refine ⟨by omega, by omega⟩) | (simp; omega))) ?_))
  refine AWp.weak (weak_nil 9 3 1 rfl) ?_
  refine AWp.loop (fun j s => ∃ i : Nat, i + j = n ∧ Weak E s ⟨[(0, I a), (1, I b), (2, I n), (3, I k), (9, .hnd 0 0 i i false), (25, I n), (26, I i)], [.arr 3 1 ((lineV a b i).map icn)]⟩) (n := n)
    ⟨0, by omega, weak_to [0] hp hnp rfl (by simp (config := { maxSteps := 2000000 }) only [go_sem, ↓reduceIte, Int.reduceToNat, Nat.reduceMul, Int.reduceBEq, Int.reduceBNe, Nat.reduceBEq, Nat.reduceAdd, Nat.reduceSub, Nat.reduceLeDiff, Nat.reduceEqDiff, Nat.reduceLT, reduceCtorEq, Aw.pos] <;> rfl) (by simp (config := { maxSteps := 2000000 }) only [go_sem, ↓reduceIte, Int.reduceToNat, Nat.reduceMul, Int.reduceBEq, Int.reduceBNe, Nat.reduceBEq, Nat.reduceAdd, Nat.reduceSub, Nat.reduceLeDiff, Nat.reduceEqDiff, Nat.reduceLT, reduceCtorEq, Aw.renR, Aw.pos] <;> rfl)⟩ ?_
  rintro j s ⟨i, hi, hw⟩
  refine AWp.weak hw (AWp.ofD [] [] hn mixed rfl ?_)
  rcases Nat.lt_or_ge i n with hlt | hge
  · have d0 : decide ((i : Int) < (n : Int)) = true := decide_eq_true (by omega)
    have d2 : IntKind.i64.wrap ((i : Int) + 1) = ((i + 1 : Nat) : Int) := by rw [w64 (by omega) (by omega)]; rfl
    have hbi := bi_bound hb.1 hb.2 (i := (i : Int)) (by omega) (by omega)
    have d3 : IntKind.i64.wrap (b * (i : Int)) = b * (i : Int) := w64 (by omega) (by omega)
    have d4 : IntKind.i64.wrap (a + b * (i : Int)) = a + b * (i : Int) := w64 (by omega) (by omega)
    have hap := congrArg (List.map icn) (lineV_succ a b i)
    rw [List.map_append] at hap
    have hap : (lineV a b i).map icn ++ [icn (a + b * (i : Int))] = (lineV a b (i + 1)).map icn := hap.symm
    have hln : ((lineV a b i).map icn).length = i := by rw [List.length_map, lineV_len]
    simp (config := { maxSteps := 2000000 }) only [go_sem, ↓reduceIte, Int.reduceToNat, Nat.reduceMul, Int.reduceBEq, Int.reduceBNe, Nat.reduceBEq, Nat.reduceAdd, Nat.reduceSub, Nat.reduceLeDiff, Nat.reduceEqDiff, Nat.reduceLT, reduceCtorEq, d0, d3, d4]
    (repeat (refine And.intro (by first | omega | (refine ⟨by omega, by omega⟩) | (refine ⟨by omega, by omega, by omega⟩) | (simp only [List.length_map, List.length_range, List.length_append, List.length_cons, List.length_nil, List.length_replicate, List.length_set]; omega) | (simp; omega) | (intro hgd; cases hgd) | (intro hgd; refine ⟨hgd, ?_⟩; first | omega | (refine ⟨by omega, by omega⟩) | (simp; omega))) ?_))
    refine AWpL.app (r := 0) (els := (lineV a b i).map icn) (ys := [icn (a + b * (i : Int))]) rfl rfl rfl rfl (by rw [hn]; rfl) hln.symm (pin 0) (by simp (config := { maxSteps := 2000000 }) only [go_sem, ↓reduceIte, Int.reduceToNat, Nat.reduceMul, Int.reduceBEq, Int.reduceBNe, Nat.reduceBEq, Nat.reduceAdd, Nat.reduceSub, Nat.reduceLeDiff, Nat.reduceEqDiff, Nat.reduceLT, reduceCtorEq, Nat.le_refl]) (fun el hm y hy => by
      rw [List.mem_singleton.1 hm] at hy
      rw [List.mem_singleton.1 hy]; rfl) (by simp only [List.length_cons, List.length_nil]; omega) (by simp only [List.length_cons, List.length_nil]; omega) (AWpL.ofM hn rfl ?_)
    simp (config := { maxSteps := 2000000 }) only [go_sem, ↓reduceIte, Int.reduceToNat, Nat.reduceMul, Int.reduceBEq, Int.reduceBNe, Nat.reduceBEq, Nat.reduceAdd, Nat.reduceSub, Nat.reduceLeDiff, Nat.reduceEqDiff, Nat.reduceLT, reduceCtorEq, hap, d2]
    exact ⟨j - 1, by omega, i + 1, by omega, weak_to [0] hp hnp rfl (by simp (config := { maxSteps := 2000000 }) only [go_sem, ↓reduceIte, Int.reduceToNat, Nat.reduceMul, Int.reduceBEq, Int.reduceBNe, Nat.reduceBEq, Nat.reduceAdd, Nat.reduceSub, Nat.reduceLeDiff, Nat.reduceEqDiff, Nat.reduceLT, reduceCtorEq, Aw.pos, d2] <;> rfl) (by simp (config := { maxSteps := 2000000 }) only [go_sem, ↓reduceIte, Int.reduceToNat, Nat.reduceMul, Int.reduceBEq, Int.reduceBNe, Nat.reduceBEq, Nat.reduceAdd, Nat.reduceSub, Nat.reduceLeDiff, Nat.reduceEqDiff, Nat.reduceLT, reduceCtorEq, Aw.renR, Aw.pos] <;> rfl)⟩
  have d0 : decide ((i : Int) < (n : Int)) = false := decide_eq_false (by omega)
  have hi2 : i = n := by omega
  subst hi2
  have hE := line_ok a b i ha hb (by omega) (by omega)
  have hR : resS (lineV a b i) = List.replicate i 0 := by
    unfold resS
    rw [if_neg (by simp [hE]), res_line a b i (by omega) (by omega)]
  have hb2 := bi_bound hb.1 hb.2 (i := (i : Int) - 1 + k) (by omega) (by omega)
  have hA : aheadS (lineV a b i) k = (txtR ((a + b * ((i : Int) - 1 + k) : Int) : Rat), 0) := by
    unfold aheadS
    rw [if_neg (by simp [hE]), if_neg (by omega), lineV_len, at_line a b i (by omega) (by omega)]
  obtain ⟨o1, o2⟩ := of_int (a + b * ((i : Int) - 1 + k)) (by omega) (by omega)
  have w1 : IntKind.i64.wrap ((i : Int) - 1) = (i : Int) - 1 := w64 (by omega) (by omega)
  have w2 : IntKind.i64.wrap ((i : Int) - 1 + k) = (i : Int) - 1 + k := w64 (by omega) (by omega)
  have w3 : IntKind.i64.wrap (b * ((i : Int) - 1 + k)) = b * ((i : Int) - 1 + k) := w64 (by omega) (by omega)
  have w4 : IntKind.i64.wrap (a + b * ((i : Int) - 1 + k)) = a + b * ((i : Int) - 1 + k) := w64 (by omega) (by omega)
  have htk : List.take i ((lineV a b i).map icn) = (lineV a b i).map icn := List.take_of_length_le (by rw [List.length_map, lineV_len]; exact Nat.le_refl _)
  simp (config := { maxSteps := 2000000 }) only [go_sem, ↓reduceIte, Int.reduceToNat, Nat.reduceMul, Int.reduceBEq, Int.reduceBNe, Nat.reduceBEq, Nat.reduceAdd, Nat.reduceSub, Nat.reduceLeDiff, Nat.reduceEqDiff, Nat.reduceLT, reduceCtorEq, d0]
  refine AWpL.weak (weak_freeze 0 rfl (pin 0) (by simp (config := { maxSteps := 2000000 }) only [go_sem, ↓reduceIte, Int.reduceToNat, Nat.reduceMul, Int.reduceBEq, Int.reduceBNe, Nat.reduceBEq, Nat.reduceAdd, Nat.reduceSub, Nat.reduceLeDiff, Nat.reduceEqDiff, Nat.reduceLT, reduceCtorEq, Nat.le_refl, List.length_map, lineV_len])) ?_
  simp (config := { maxSteps := 2000000 }) only [go_sem, ↓reduceIte, Int.reduceToNat, Nat.reduceMul, Int.reduceBEq, Int.reduceBNe, Nat.reduceBEq, Nat.reduceAdd, Nat.reduceSub, Nat.reduceLeDiff, Nat.reduceEqDiff, Nat.reduceLT, reduceCtorEq, htk]
  (refine AWpL.callA [] (s23 none false (lineV a b i) (by rw [lineV_len]; omega)) rfl rfl (by rw [hn]; rfl) rfl (fun r hr => .inr (pin r)) fun rg v hv => ?_; obtain ⟨rfl, rfl⟩ := hv; refine ⟨Nat.le_refl _, AWpL.ofM hn rfl ?_⟩)
  simp (config := { maxSteps := 2000000 }) only [go_sem, ↓reduceIte, Int.reduceToNat, Nat.reduceMul, Int.reduceBEq, Int.reduceBNe, Nat.reduceBEq, Nat.reduceAdd, Nat.reduceSub, Nat.reduceLeDiff, Nat.reduceEqDiff, Nat.reduceLT, reduceCtorEq, Aw.retS, Aw.retRg, Aw.kpM, Aw.bkM, Aw.pos, Aw.isBox, hE, hR]
  refine AWpL.calle (s32 _ _ (lineV a b i) k (by rw [lineV_len]; omega)) rfl (by rw [hn]; rfl) (by simp (config := { maxSteps := 2000000 }) only [go_sem, ↓reduceIte, Int.reduceToNat, Nat.reduceMul, Int.reduceBEq, Int.reduceBNe, Nat.reduceBEq, Nat.reduceAdd, Nat.reduceSub, Nat.reduceLeDiff, Nat.reduceEqDiff, Nat.reduceLT, reduceCtorEq]) (AWpL.ofM hn rfl ?_)
  rw [hA]
  simp (config := { maxSteps := 2000000 }) only [go_sem, ↓reduceIte, Int.reduceToNat, Nat.reduceMul, Int.reduceBEq, Int.reduceBNe, Nat.reduceBEq, Nat.reduceAdd, Nat.reduceSub, Nat.reduceLeDiff, Nat.reduceEqDiff, Nat.reduceLT, reduceCtorEq, w1, w2, w3, w4]
  refine AWpL.calle (s20 (a + b * ((i : Int) - 1 + k)) 1 (by omega) (by omega) (by decide) (by decide)) rfl (by rw [hn]; rfl) (by simp (config := { maxSteps := 2000000 }) only [go_sem, ↓reduceIte, Int.reduceToNat, Nat.reduceMul, Int.reduceBEq, Int.reduceBNe, Nat.reduceBEq, Nat.reduceAdd, Nat.reduceSub, Nat.reduceLeDiff, Nat.reduceEqDiff, Nat.reduceLT, reduceCtorEq]) (AWpL.ofM hn rfl ?_)
  rw [o1]
  simp (config := { maxSteps := 2000000 }) only [go_sem, ↓reduceIte, Int.reduceToNat, Nat.reduceMul, Int.reduceBEq, Int.reduceBNe, Nat.reduceBEq, Nat.reduceAdd, Nat.reduceSub, Nat.reduceLeDiff, Nat.reduceEqDiff, Nat.reduceLT, reduceCtorEq]
  (refine AWpL.calle (s24) rfl (by rw [hn]; rfl) (by simp (config := { maxSteps := 2000000 }) only [go_sem, ↓reduceIte, Int.reduceToNat, Nat.reduceMul, Int.reduceBEq, Int.reduceBNe, Nat.reduceBEq, Nat.reduceAdd, Nat.reduceSub, Nat.reduceLeDiff, Nat.reduceEqDiff, Nat.reduceLT, reduceCtorEq]) (AWpL.ofM hn rfl ?_); simp (config := { maxSteps := 2000000 }) only [go_sem, ↓reduceIte, Int.reduceToNat, Nat.reduceMul, Int.reduceBEq, Int.reduceBNe, Nat.reduceBEq, Nat.reduceAdd, Nat.reduceSub, Nat.reduceLeDiff, Nat.reduceEqDiff, Nat.reduceLT, reduceCtorEq])
  have e9 : (List.replicate i (0 : Rat)).map tx = (List.replicate i [48]).map bl := by rw [List.map_replicate, List.map_replicate]; show List.replicate i [S (bA (txtR 0))] = _; rw [zero_ok.1]
  have e8 : (((List.replicate i (0 : Rat)).length : Int) == (i : Int)) = true := by simp
  rw [e9]
  simp (config := { maxSteps := 2000000 }) only [go_sem, ↓reduceIte, Int.reduceToNat, Nat.reduceMul, Int.reduceBEq, Int.reduceBNe, Nat.reduceBEq, Nat.reduceAdd, Nat.reduceSub, Nat.reduceLeDiff, Nat.reduceEqDiff, Nat.reduceLT, reduceCtorEq, e8]
  refine AWpL.gcalle (b := true) (y := B false) rfl (fun _ => by
    have h := s33 none false (List.replicate i [48]) 34 [] (fun _ => false) (by kernel_rfl) rfl rfl (fun x hx => by rw [(List.mem_replicate.1 hx).2]; exact s34) (by rw [List.length_replicate]; omega)
    rw [List.any_eq_false.2 (fun _ _ => by simp)] at h
    exact Aw.Spec.args h ⟨Ent.refl _, Ent.ofunc _, trivial⟩) rfl (by rw [hn]; rfl) (fun _ => by simp (config := { maxSteps := 2000000 }) only [go_sem, ↓reduceIte, Int.reduceToNat, Nat.reduceMul, Int.reduceBEq, Int.reduceBNe, Nat.reduceBEq, Nat.reduceAdd, Nat.reduceSub, Nat.reduceLeDiff, Nat.reduceEqDiff, Nat.reduceLT, reduceCtorEq]) (AWpL.ofM hn rfl ?_)
  simp (config := { maxSteps := 2000000 }) only [go_sem, ↓reduceIte, Int.reduceToNat, Nat.reduceMul, Int.reduceBEq, Int.reduceBNe, Nat.reduceBEq, Nat.reduceAdd, Nat.reduceSub, Nat.reduceLeDiff, Nat.reduceEqDiff, Nat.reduceLT, reduceCtorEq]
  refine Retn.ret (π := []) hp hnp ⟨rfl, ?_⟩
  simp (config := { maxSteps := 2000000 }) only [go_sem, ↓reduceIte, Int.reduceToNat, Nat.reduceMul, Int.reduceBEq, Int.reduceBNe, Nat.reduceBEq, Nat.reduceAdd, Nat.reduceSub, Nat.reduceLeDiff, Nat.reduceEqDiff, Nat.reduceLT, reduceCtorEq]
end Go.Proofs.YtjaakbkneeojnaaDoor
