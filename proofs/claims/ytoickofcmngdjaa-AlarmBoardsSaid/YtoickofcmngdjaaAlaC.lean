/- Alarms: causes and their explanations. -/
import Derived.Test.YtoickofcmngdjaaAwZl
import Derived.Test.YtoickofcmngdjaaAlaB
import Derived.Test.YtoickofcmngdjaaSrtA
set_option linter.unusedVariables false
set_option linter.unusedSimpArgs false
namespace Go.Proofs.Ytoickofcmngdjaa
open Go.Proofs.Ytoickofcmngdjaa.Aw
attribute [local go_sem] Int.natCast_zero Int.natCast_one bne_self_eq_false beq_self_eq_true Bool.not_true Bool.not_false Option.isSome_none Option.isSome_some Aw.bkM_nil Option.getD_some Option.getD_none Nat.sub_zero Int.toNat_zero Aw.frzS Aw.frzT Aw.frzA Aw.frzL Aw.frzR Aw.frzO Aw.frzOL Aw.frzOT Aw.frzOR Aw.killS Aw.mapT Aw.mapR Aw.killM Aw.resAVs Aw.resAV Aw.quietOps Aw.wpP Aw.wpT Aw.wpS Aw.AOp.mild List.getElem?_cons_zero List.getElem?_cons_succ Bool.and_false Bool.and_self Bool.false_and Aw.opOb Aw.gdB Aw.Rnd Aw.subTm List.length_map Int.toNat_natCast and_self Aw.SeqC Aw.stops Aw.Ends Aw.looks Aw.renA Aw.renL Aw.renT Aw.renS Aw.wpO Aw.aop Aw.putTm Aw.St.ev Aw.St.put Aw.St.putO Aw.binAV Aw.intBin Aw.strBin Aw.pickAV Aw.optInt Aw.AV.strip Aw.AV.guard Aw.AV.cells Aw.gdOb Aw.AOp.opds Aw.AOp.still Aw.ptrCells Aw.St.reg Aw.fillAV Aw.fillOb Aw.elsOb Aw.splice Aw.firm Aw.cellish Aw.AV.shut Aw.shutAll Aw.Seq Aw.Blk Aw.retS_nil Aw.mapA Aw.mapL Aw.borA Aw.borOb Aw.allOb Aw.tupOf Aw.params Aw.Opd.of Array.toList Value.cells List.map_cons List.map_nil List.getD_cons_zero List.getD_cons_succ List.getD_nil List.length_cons List.length_nil List.take_succ_cons List.take_zero List.take_nil List.drop_zero List.drop_succ_cons List.drop_nil List.set_cons_zero List.set_cons_succ List.append_nil List.nil_append List.cons_append List.all_cons List.all_nil cond_false cond_true if_true if_false true_and and_true Bool.and_true Bool.true_and Option.map_some Option.map_none false_implies forall_const implies_true forall_eq imp_self Bool.cond_false_right Bool.cond_true_left beq_true beq_false Bool.not_eq_true' Bool.false_eq_true Nat.zero_add Nat.add_zero Aw.eqCells Aw.stopDraw Aw.skipS Aw.exactCap Aw.revealS Aw.srcEls Aw.srcSz
attribute [local go_sem ↓] Aw.look_nil Aw.look_ite Aw.wpL_nil Aw.wpL_op Aw.wpL_gd Aw.wpQ_nil Aw.wpQ_op Aw.wpQ_gd Aw.wpC_draw Aw.wpC_reg Aw.wpC_skip Aw.wpC_ret Aw.wpC_exit Aw.wpC_seq Aw.wpC_block Aw.wpC_loop Aw.wpC_cond Aw.stopAt_nil Aw.stopAt_cons Aw.wpD_skip Aw.wpD_ret Aw.wpD_exit Aw.wpD_region Aw.wpD_draw Aw.wpM_nil Aw.wpM_op Aw.wpM_gd Aw.wpD_seq Aw.wpD_block Aw.wpD_loop Aw.wpD_cond
/- gridhall/alarm.first -/
def a27 : ACode :=
  (.seq (.region false [] [
     ⟨(some 6), none, (.mov (.v (.bool false)))⟩])
  (.seq (.seq (.region false [] [
     ⟨(some 8), none, (.mov (.t 1))⟩,
     ⟨(some 9), none, (.len (.t 8))⟩,
     ⟨(some 10), none, (.mov (.v (.int .i64 0)))⟩])
  (.block 0 (.loop (.seq (.region false [] [
       ⟨(some 11), none, (.bin .lss 3 (.t 10) (.t 9))⟩])
    (.seq (.cond (.t 11)
      .skip
      (.exit 0))
    (.seq (.block 1 (.seq (.region false [] [
        ⟨(some 12), none, (.mov (.t 10))⟩,
        ⟨(some 7), none, (.mov (.t 12))⟩])
     (.seq (.region true [[], [], [0, 1], [2], [], [3, 4], [5], [6], [7], [7], [8, 9, 7], [10, 7], [7], [11, 12, 7], [13, 7], [14, 7], [15, 7, 7], [16], [16], [17, 18, 16], [19, 16], [16], [16], [21, 22, 16], [23, 16], [20, 24, 16], [16, 25, 7], [7, 26]] [
        ⟨(some 13), none, (.mov (.t 0))⟩,
        ⟨(some 14), none, (.mov (.t 2))⟩,
        ⟨(some 15), none, (.idx 1 (.t 13) (.t 14))⟩,
        ⟨(some 16), none, (.load 1 false (.t 15))⟩,
        ⟨(some 17), none, (.mov (.t 7))⟩,
        ⟨(some 18), none, (.idx 1 (.t 16) (.t 17))⟩,
        ⟨(some 19), none, (.load 1 false (.t 18))⟩,
        ⟨(some 20), none, (.mov (.t 19))⟩,
        ⟨(some 21), (some (20, true)), (.mov (.t 0))⟩,
        ⟨(some 22), (some (20, true)), (.mov (.t 7))⟩,
        ⟨(some 23), (some (20, true)), (.idx 1 (.t 21) (.t 22))⟩,
        ⟨(some 24), (some (20, true)), (.load 1 false (.t 23))⟩,
        ⟨(some 25), (some (20, true)), (.mov (.t 2))⟩,
        ⟨(some 26), (some (20, true)), (.idx 1 (.t 24) (.t 25))⟩,
        ⟨(some 27), (some (20, true)), (.load 1 false (.t 26))⟩,
        ⟨(some 28), (some (20, true)), (.un .not (.t 27))⟩,
        ⟨(some 29), (some (20, true)), (.mov (.t 28))⟩,
        ⟨(some 30), (some (29, false)), (.mov (.t 1))⟩,
        ⟨(some 31), (some (29, false)), (.mov (.t 7))⟩,
        ⟨(some 32), (some (29, false)), (.idx 1 (.t 30) (.t 31))⟩,
        ⟨(some 33), (some (29, false)), (.load 1 false (.t 32))⟩,
        ⟨(some 34), (some (29, false)), (.mov (.t 1))⟩,
        ⟨(some 35), (some (29, false)), (.mov (.t 2))⟩,
        ⟨(some 36), (some (29, false)), (.idx 1 (.t 34) (.t 35))⟩,
        ⟨(some 37), (some (29, false)), (.load 1 false (.t 36))⟩,
        ⟨(some 38), (some (29, false)), (.bin .lss 9 (.t 33) (.t 37))⟩,
        ⟨(some 39), (some (20, true)), (.pick (.t 29) (.v (.bool true)) (.t 38))⟩,
        ⟨(some 40), none, (.pick (.t 20) (.t 39) (.v (.bool false)))⟩])
     (.cond (.t 40)
       (.seq (.region false [] [
          ⟨(some 6), none, (.mov (.v (.bool false)))⟩])
       .ret)
       .skip))))
    (.region false [] [
       ⟨(some 41), none, (.bin .add 3 (.t 10) (.v (.int .i64 1)))⟩,
       ⟨(some 10), none, (.mov (.t 41))⟩])))))))
  (.seq (.region false [] [
     ⟨(some 6), none, (.mov (.v (.bool true)))⟩])
  .ret)))
theorem k27 : FnIs Try.prog 27 42 [.t 6] a27 := ⟨_, _, Try.func27, rfl, by kernel_rfl, by kernel_rfl, rfl⟩
/- gridhall/alarm.Causes -/
def a11 : ACode :=
  (.seq (.region false [] [
     ⟨(some 4), none, (.mov (.v (.slice none 0 0)))⟩,
     ⟨(some 5), none, (.mov (.v (.int .i64 0)))⟩])
  (.seq (.seq (.region false [] [
     ⟨(some 12), none, (.mov (.t 0))⟩,
     ⟨(some 13), none, (.call 6 [(.t 12)])⟩,
     ⟨(some 6), none, (.mov (.t 13))⟩])
  (.seq (.region false [] [
     ⟨(some 14), none, (.mov (.t 6))⟩,
     ⟨(some 15), none, (.bin .neq 24 (.t 14) (.v (.int .i64 0)))⟩])
  (.cond (.t 15)
    (.seq (.region false [] [
       ⟨(some 16), none, (.mov (.t 6))⟩,
       ⟨(some 4), none, (.mov (.v (.slice none 0 0)))⟩,
       ⟨(some 5), none, (.mov (.t 16))⟩])
    .ret)
    .skip)))
  (.seq (.seq (.region false [] [
     ⟨(some 17), none, (.mov (.t 1))⟩,
     ⟨(some 18), none, (.call 26 [(.t 17)])⟩,
     ⟨(some 7), none, (.mov (.t 18))⟩])
  (.seq (.region false [] [
     ⟨(some 19), none, (.mov (.t 7))⟩,
     ⟨(some 20), none, (.bin .neq 24 (.t 19) (.v (.int .i64 0)))⟩])
  (.cond (.t 20)
    (.seq (.region false [] [
       ⟨(some 21), none, (.mov (.t 7))⟩,
       ⟨(some 4), none, (.mov (.v (.slice none 0 0)))⟩,
       ⟨(some 5), none, (.mov (.t 21))⟩])
    .ret)
    .skip)))
  (.seq (.region false [] [
     ⟨(some 22), none, (.mov (.t 0))⟩,
     ⟨(some 23), none, (.mov (.t 1))⟩,
     ⟨(some 24), none, (.call 25 [(.t 22), (.t 23)])⟩,
     ⟨(some 8), none, (.mov (.t 24))⟩])
  (.seq (.region false [] [
     ⟨(some 9), none, (.mov (.v (.slice none 0 0)))⟩])
  (.seq (.seq (.region false [] [
     ⟨(some 25), none, (.mov (.t 1))⟩,
     ⟨(some 26), none, (.len (.t 25))⟩,
     ⟨(some 27), none, (.mov (.v (.int .i64 0)))⟩])
  (.block 0 (.loop (.seq (.region false [] [
       ⟨(some 28), none, (.bin .lss 3 (.t 27) (.t 26))⟩])
    (.seq (.cond (.t 28)
      .skip
      (.exit 0))
    (.seq (.block 1 (.seq (.region false [] [
        ⟨(some 29), none, (.mov (.t 27))⟩,
        ⟨(some 30), none, (.idx 1 (.t 25) (.t 27))⟩,
        ⟨(some 31), none, (.load 1 false (.t 30))⟩,
        ⟨(some 10), none, (.mov (.t 29))⟩,
        ⟨(some 11), none, (.mov (.t 31))⟩])
     (.seq (.region false [] [
        ⟨(some 32), none, (.mov (.t 8))⟩,
        ⟨(some 33), none, (.mov (.t 1))⟩,
        ⟨(some 34), none, (.mov (.t 10))⟩,
        ⟨(some 35), none, (.call 27 [(.t 32), (.t 33), (.t 34)])⟩])
     (.cond (.t 35)
       (.region false [] [
          ⟨(some 36), none, (.mov (.t 9))⟩,
          ⟨(some 37), none, (.mov (.t 11))⟩,
          ⟨(some 38), none, (.bsl 9 1 1 [(0, (.t 37))])⟩,
          ⟨(some 39), none, (.app 9 1 16 (.string ⟨#[]⟩) (.t 36) (.t 38))⟩,
          ⟨(some 9), none, (.mov (.t 39))⟩])
       .skip))))
    (.region false [] [
       ⟨(some 40), none, (.bin .add 3 (.t 27) (.v (.int .i64 1)))⟩,
       ⟨(some 27), none, (.mov (.t 40))⟩])))))))
  (.seq (.region false [] [
     ⟨(some 41), none, (.mov (.t 9))⟩,
     ⟨(some 42), none, (.call 21 [(.t 41)])⟩])
  (.seq (.region false [] [
     ⟨(some 43), none, (.mov (.t 9))⟩,
     ⟨(some 4), none, (.mov (.t 43))⟩,
     ⟨(some 5), none, (.mov (.v (.int .i64 0)))⟩])
  .ret))))))))
theorem k11 : FnIs Try.prog 11 44 [.t 4, .t 5] a11 := ⟨_, _, Try.func11, rfl, by kernel_rfl, by kernel_rfl, rfl⟩
/- gridhall/alarm.Explain -/
def a9 : ACode :=
  (.seq (.region false [] [
     ⟨(some 6), none, (.mov (.v (.slice none 0 0)))⟩,
     ⟨(some 7), none, (.mov (.v (.int .i64 0)))⟩])
  (.seq (.region false [] [
     ⟨(some 16), none, (.mov (.t 0))⟩,
     ⟨(some 17), none, (.mov (.t 1))⟩,
     ⟨(some 18), none, (.call 11 [(.t 16), (.t 17)])⟩,
     ⟨(some 15), none, (.mov (.t 18))⟩,
     ⟨(some 19), none, (.ext 0 (.t 15))⟩,
     ⟨(some 20), none, (.ext 1 (.t 15))⟩,
     ⟨(some 8), none, (.mov (.t 19))⟩,
     ⟨(some 9), none, (.mov (.t 20))⟩])
  (.seq (.seq (.region false [] [
     ⟨(some 21), none, (.mov (.t 9))⟩,
     ⟨(some 22), none, (.bin .neq 24 (.t 21) (.v (.int .i64 0)))⟩])
  (.cond (.t 22)
    (.seq (.region false [] [
       ⟨(some 23), none, (.mov (.t 9))⟩,
       ⟨(some 6), none, (.mov (.v (.slice none 0 0)))⟩,
       ⟨(some 7), none, (.mov (.t 23))⟩])
    .ret)
    .skip))
  (.seq (.region false [] [
     ⟨(some 24), none, (.mov (.t 1))⟩,
     ⟨(some 25), none, (.mov (.t 2))⟩,
     ⟨(some 26), none, (.call 16 [(.t 24), (.t 25)])⟩,
     ⟨(some 10), none, (.mov (.t 26))⟩])
  (.seq (.seq (.region false [] [
     ⟨(some 27), none, (.mov (.t 10))⟩,
     ⟨(some 28), none, (.bin .lss 3 (.t 27) (.v (.int .i64 0)))⟩])
  (.cond (.t 28)
    (.seq (.region false [] [
       ⟨(some 6), none, (.mov (.v (.slice none 0 0)))⟩,
       ⟨(some 7), none, (.mov (.v (.int .i64 8)))⟩])
    .ret)
    .skip))
  (.seq (.region false [] [
     ⟨(some 29), none, (.mov (.t 0))⟩,
     ⟨(some 30), none, (.mov (.t 1))⟩,
     ⟨(some 31), none, (.call 25 [(.t 29), (.t 30)])⟩,
     ⟨(some 11), none, (.mov (.t 31))⟩])
  (.seq (.region false [] [
     ⟨(some 12), none, (.mov (.v (.slice none 0 0)))⟩])
  (.seq (.seq (.region false [] [
     ⟨(some 32), none, (.mov (.t 8))⟩,
     ⟨(some 33), none, (.len (.t 32))⟩,
     ⟨(some 34), none, (.mov (.v (.int .i64 0)))⟩])
  (.block 0 (.loop (.seq (.region false [] [
       ⟨(some 35), none, (.bin .lss 3 (.t 34) (.t 33))⟩])
    (.seq (.cond (.t 35)
      .skip
      (.exit 0))
    (.seq (.block 1 (.seq (.region false [] [
        ⟨(some 36), none, (.idx 1 (.t 32) (.t 34))⟩,
        ⟨(some 37), none, (.load 1 false (.t 36))⟩,
        ⟨(some 14), none, (.mov (.t 37))⟩])
     (.seq (.region true [[], [], [0, 1], [2], [], [], [4, 5], [3, 6], [7]] [
        ⟨(some 38), none, (.mov (.t 11))⟩,
        ⟨(some 39), none, (.mov (.t 10))⟩,
        ⟨(some 40), none, (.idx 1 (.t 38) (.t 39))⟩,
        ⟨(some 41), none, (.load 1 false (.t 40))⟩,
        ⟨(some 42), none, (.mov (.t 1))⟩,
        ⟨(some 43), none, (.mov (.t 14))⟩,
        ⟨(some 44), none, (.call 16 [(.t 42), (.t 43)])⟩,
        ⟨(some 45), none, (.idx 1 (.t 41) (.t 44))⟩,
        ⟨(some 46), none, (.load 1 false (.t 45))⟩])
     (.cond (.t 46)
       (.region false [] [
          ⟨(some 47), none, (.mov (.t 12))⟩,
          ⟨(some 48), none, (.mov (.t 14))⟩,
          ⟨(some 49), none, (.bsl 9 1 1 [(0, (.t 48))])⟩,
          ⟨(some 50), none, (.app 9 1 16 (.string ⟨#[]⟩) (.t 47) (.t 49))⟩,
          ⟨(some 12), none, (.mov (.t 50))⟩])
       .skip))))
    (.region false [] [
       ⟨(some 51), none, (.bin .add 3 (.t 34) (.v (.int .i64 1)))⟩,
       ⟨(some 34), none, (.mov (.t 51))⟩])))))))
  (.seq (.region false [] [
     ⟨(some 52), none, (.mov (.t 12))⟩,
     ⟨(some 6), none, (.mov (.t 52))⟩,
     ⟨(some 7), none, (.mov (.v (.int .i64 0)))⟩])
  .ret)))))))))
theorem k9 : FnIs Try.prog 9 53 [.t 6, .t 7] a9 := ⟨_, _, Try.func9, rfl, by kernel_rfl, by kernel_rfl, rfl⟩

abbrev matV (n : Nat) (M : Nat → Nat → Bool) : AV := .imm none true 1 ((List.range n).map fun i => [.imm none true 1 ((List.range n).map fun k => [B (M i k)])])
def badF (M : Nat → Nat → Bool) (l : List ByteArray) (k i : Nat) : Bool := M k i && (!M i k || ltS (l.getD i default) (l.getD k default))
def firstF (M : Nat → Nat → Bool) (l : List ByteArray) (k : Nat) : Bool := (List.range l.length).all fun i => !badF M l k i
set_option maxRecDepth 20000 in
theorem s27 (nl fl) (M : Nat → Nat → Bool) (l : List ByteArray) (k : Nat) (hk : k < l.length) (hl : l.length ≤ 1000) : Aw.Spec Try.prog 27 [] [matV l.length M, ss nl fl l, I k] (Gives (· = B (firstF M l k))) := by
  refine Aw.Spec.givesD k27 mixed rfl rfl rfl fun E hn hnp hp => ?_
  unfold a27
  generalize hN : l.length = N at *
  simp (config := { maxSteps := 2000000 }) only [go_sem, ↓reduceIte, Int.reduceToNat, Nat.reduceMul, Int.reduceBEq, Int.reduceBNe, Nat.reduceBEq, Nat.reduceAdd, Nat.reduceSub, Nat.reduceLeDiff, Nat.reduceEqDiff, Nat.reduceLT, reduceCtorEq, hN]
  refine AWp.loop (fun j s => ∃ i : Nat, i + j = N ∧ (∀ p, p < i → badF M l k p = false) ∧ Weak E s ⟨[(0, matV N M), (1, ss nl fl l), (2, I k), (9, I N), (10, I i)], []⟩) (n := N)
    ⟨0, by omega, fun p hp => by omega, weak_to [] hp hnp rfl (by simp (config := { maxSteps := 2000000 }) only [go_sem, ↓reduceIte, Int.reduceToNat, Nat.reduceMul, Int.reduceBEq, Int.reduceBNe, Nat.reduceBEq, Nat.reduceAdd, Nat.reduceSub, Nat.reduceLeDiff, Nat.reduceEqDiff, Nat.reduceLT, reduceCtorEq, Int.natCast_zero]) rfl⟩ ?_
  rintro j s ⟨i, hi, hb, hw⟩
  refine AWp.weak hw (AWp.ofD [] [] hn mixed rfl ?_)
  rcases Nat.lt_or_ge i N with hlt | hge
  · have e0 : decide ((i : Int) < (N : Int)) = true := decide_eq_true (by omega)
    have e2 : IntKind.i64.wrap ((i : Int) + 1) = ((i + 1 : Nat) : Int) := by rw [w64 (by omega) (by omega)]; omega
    have r1 : ∀ a, a < N → ((List.range N).map fun i => [AV.imm none true 1 ((List.range N).map fun k => [B (M i k)])]).getD a [] = [.imm none true 1 ((List.range N).map fun k => [B (M a k)])] := fun a ha => getD_rng (fun i => [AV.imm none true 1 ((List.range N).map fun k => [B (M i k)])]) ha
    have r2 : ∀ a b, b < N → ((List.range N).map fun k => [B (M a k)]).getD b [] = [B (M a b)] := fun a b hb => getD_rng (fun k => [B (M a k)]) hb
    have e3 := getD_mapD default sc (l := l) (i := i) (by omega)
    have e4 := getD_mapD default sc (l := l) (i := k) (by omega)
    have hbd : badF M l k i = (M k i && (!M i k || ltS (l.getD i default) (l.getD k default))) := rfl
    have hlt2 : ltS (l.getD i default) (l.getD k default) = Op.bytesLess (l.getD i default).toList (l.getD k default).toList := rfl
    simp (config := { maxSteps := 2000000 }) only [go_sem, ↓reduceIte, Int.reduceToNat, Nat.reduceMul, Int.reduceBEq, Int.reduceBNe, Nat.reduceBEq, Nat.reduceAdd, Nat.reduceSub, Nat.reduceLeDiff, Nat.reduceEqDiff, Nat.reduceLT, reduceCtorEq, e0, r1 k hk, r1 i hlt, r2 k i hlt, r2 i k hk, e3, e4, List.length_range]
    rw [← hlt2, ← hbd]
    refine ⟨⟨by omega, by omega⟩, ⟨by omega, by omega⟩, fun h => ⟨h, by omega, by omega⟩, fun h => ⟨h, by omega, by omega⟩, fun h => ⟨h, by omega, by omega⟩, fun h => ⟨h, by omega, by omega⟩, fun h => ⟨h, fun h2 => by rw [h, h2]; rfl⟩, fun h => ?_, fun h => ?_⟩
    · have : firstF M l k = false := by
        cases hc : firstF M l k with
        | false => rfl
        | true =>
          have := List.all_eq_true.1 hc i (List.mem_range.2 (by omega))
          rw [h] at this; cases this
      rw [this]
    · refine ⟨j - 1, by omega, i + 1, by omega, fun p hp' => ?_, ?_⟩
      · rcases Nat.lt_or_ge p i with h1 | h1
        · exact hb p h1
        · rw [show p = i by omega]; exact h
      · rw [e2]
        exact weak_to [] hp hnp rfl (by simp (config := { maxSteps := 2000000 }) only [go_sem, ↓reduceIte, Int.reduceToNat, Nat.reduceMul, Int.reduceBEq, Int.reduceBNe, Nat.reduceBEq, Nat.reduceAdd, Nat.reduceSub, Nat.reduceLeDiff, Nat.reduceEqDiff, Nat.reduceLT, reduceCtorEq]) rfl
  · have e0 : decide ((i : Int) < (N : Int)) = false := decide_eq_false (by omega)
    simp (config := { maxSteps := 2000000 }) only [go_sem, ↓reduceIte, Int.reduceToNat, Nat.reduceMul, Int.reduceBEq, Int.reduceBNe, Nat.reduceBEq, Nat.reduceAdd, Nat.reduceSub, Nat.reduceLeDiff, Nat.reduceEqDiff, Nat.reduceLT, reduceCtorEq, e0]
    have : firstF M l k = true := List.all_eq_true.2 fun p hp => by
      have := List.mem_range.1 hp
      rw [hb p (by omega)]; rfl
    rw [this]
/-- The causes among the first n alarms, in their order. -/
def firstsF (M : Nat → Nat → Bool) (l : List ByteArray) (n : Nat) : List ByteArray := ((List.range n).filter fun k => firstF M l k).map fun k => l.getD k default
theorem firstsF_succ (M : Nat → Nat → Bool) (l : List ByteArray) (n : Nat) : firstsF M l (n + 1) = firstsF M l n ++ if firstF M l n = true then [l.getD n default] else [] := by
  unfold firstsF
  rw [List.range_succ, List.filter_append, List.map_append]
  congr 1
  cases h : firstF M l n <;> simp [h]
theorem firstsF_len (M : Nat → Nat → Bool) (l : List ByteArray) (n : Nat) : (firstsF M l n).length ≤ n := by
  unfold firstsF
  rw [List.length_map]
  exact Nat.le_trans (List.length_filter_le _ _) (by simp)
def causesE (cs : List Cau) (l : List ByteArray) : Int := if causesF cs ≠ 0 then causesF cs else actF l
def causesL (cs : List Cau) (l : List ByteArray) : List ByteArray := if causesE cs l = 0 then sortS (firstsF (reachF cs l) l l.length) else []
theorem causesF_len {l : List Cau} (h : causesF l = 0) : l.length ≤ 40 := by
  unfold causesF at h
  split at h
  · cases h
  · omega
theorem actF_len {l : List ByteArray} (h : actF l = 0) : l.length ≤ 24 := by
  unfold actF at h
  split at h
  · cases h
  · omega
set_option maxRecDepth 20000 in
set_option maxHeartbeats 1000000 in
theorem s11 (nl fl) (cs : List Cau) (nm' fm) (l : List ByteArray) (hc : ∀ c ∈ cs, CauOk c) (hs : ∀ x ∈ l, x.size ≤ 9223372036854775807) :
    Aw.Spec Try.prog 11 [] [cas nl fl cs, ss nm' fm l] (fun rg v => rg = [] ∧ v = .tup [.imm none false 1 ((causesL cs l).map sc), I (causesE cs l)]) := by
  refine Aw.Spec.regsW k11 rfl rfl fun E hn hnp hp => ?_
  unfold a11
  have pin : ∀ r, E.pin r = none := fun r => hp.none hnp (Nat.zero_le _)
  have hE : causesE cs l = if causesF cs ≠ 0 then causesF cs else actF l := rfl
  have hL : causesL cs l = if causesE cs l = 0 then sortS (firstsF (reachF cs l) l l.length) else [] := rfl
  refine AWp.ofD [] [] hn mixed rfl ?_
  simp (config := { maxSteps := 2000000 }) only [go_sem, ↓reduceIte, Int.reduceToNat, Nat.reduceMul, Int.reduceBEq, Int.reduceBNe, Nat.reduceBEq, Nat.reduceAdd, Nat.reduceSub, Nat.reduceLeDiff, Nat.reduceEqDiff, Nat.reduceLT, reduceCtorEq]
  (refine AWpL.calle (s6 nl fl cs hc) rfl (by rw [hn]; rfl) (by simp (config := { maxSteps := 2000000 }) only [go_sem, ↓reduceIte, Int.reduceToNat, Nat.reduceMul, Int.reduceBEq, Int.reduceBNe, Nat.reduceBEq, Nat.reduceAdd, Nat.reduceSub, Nat.reduceLeDiff, Nat.reduceEqDiff, Nat.reduceLT, reduceCtorEq]) (AWpL.ofM hn rfl ?_); simp (config := { maxSteps := 2000000 }) only [go_sem, ↓reduceIte, Int.reduceToNat, Nat.reduceMul, Int.reduceBEq, Int.reduceBNe, Nat.reduceBEq, Nat.reduceAdd, Nat.reduceSub, Nat.reduceLeDiff, Nat.reduceEqDiff, Nat.reduceLT, reduceCtorEq])
  simp only [bne_iff_ne, ne_eq, bne_eq_false_iff_eq]
  refine ⟨fun h => ?_, fun h => ?_⟩
  · rw [if_pos h] at hE
    rw [if_neg (by rw [hE]; exact h)] at hL
    rw [hL, hE]
    refine Retn.weak (weak_ent 4 (by rfl) (Ent.ofnil0 1)) _ (Retn.ret (π := []) hp hnp ⟨rfl, ?_⟩)
    simp (config := { maxSteps := 2000000 }) only [go_sem, ↓reduceIte, Int.reduceToNat, Nat.reduceMul, Int.reduceBEq, Int.reduceBNe, Nat.reduceBEq, Nat.reduceAdd, Nat.reduceSub, Nat.reduceLeDiff, Nat.reduceEqDiff, Nat.reduceLT, reduceCtorEq]
  rw [if_neg (by simp [h])] at hE
  (refine AWpL.calle (s26 nm' fm l hs) rfl (by rw [hn]; rfl) (by simp (config := { maxSteps := 2000000 }) only [go_sem, ↓reduceIte, Int.reduceToNat, Nat.reduceMul, Int.reduceBEq, Int.reduceBNe, Nat.reduceBEq, Nat.reduceAdd, Nat.reduceSub, Nat.reduceLeDiff, Nat.reduceEqDiff, Nat.reduceLT, reduceCtorEq]) (AWpL.ofM hn rfl ?_); simp (config := { maxSteps := 2000000 }) only [go_sem, ↓reduceIte, Int.reduceToNat, Nat.reduceMul, Int.reduceBEq, Int.reduceBNe, Nat.reduceBEq, Nat.reduceAdd, Nat.reduceSub, Nat.reduceLeDiff, Nat.reduceEqDiff, Nat.reduceLT, reduceCtorEq])
  simp only [bne_iff_ne, ne_eq, bne_eq_false_iff_eq]
  refine ⟨fun h2 => ?_, fun h2 => ?_⟩
  · rw [if_neg (by rw [hE]; exact h2)] at hL
    rw [hL, hE]
    refine Retn.weak (weak_ent 4 (by rfl) (Ent.ofnil0 1)) _ (Retn.ret (π := []) hp hnp ⟨rfl, ?_⟩)
    simp (config := { maxSteps := 2000000 }) only [go_sem, ↓reduceIte, Int.reduceToNat, Nat.reduceMul, Int.reduceBEq, Int.reduceBNe, Nat.reduceBEq, Nat.reduceAdd, Nat.reduceSub, Nat.reduceLeDiff, Nat.reduceEqDiff, Nat.reduceLT, reduceCtorEq]
  rw [hE, if_pos h2] at hL
  rw [h2] at hE
  have h40 := causesF_len h
  have h24 := actF_len h2
  refine AWpL.callA [] (s25 nl fl cs nm' fm l (by omega) (by omega)) rfl rfl (by rw [hn]; rfl) rfl (fun r hr => by cases hr) fun rg v hv => ?_
  obtain ⟨rfl, rfl⟩ := hv
  refine ⟨Nat.zero_le _, AWpL.ofM hn rfl ?_⟩
  rw [hL, hE]
  generalize reachF cs l = M at *
  simp (config := { maxSteps := 2000000 }) only [go_sem, ↓reduceIte, Int.reduceToNat, Nat.reduceMul, Int.reduceBEq, Int.reduceBNe, Nat.reduceBEq, Nat.reduceAdd, Nat.reduceSub, Nat.reduceLeDiff, Nat.reduceEqDiff, Nat.reduceLT, reduceCtorEq, Aw.retS, Aw.retRg, Aw.kpM, Aw.bkM, Aw.pos, Aw.isBox]
  refine AWp.weak (weak_nil 9 9 1 rfl) ?_
  refine AWp.loop (fun k s => ∃ i : Nat, i + k = l.length ∧ Weak E s ⟨[(1, ss nm' fm l), (8, matV l.length M), (9, .hnd 0 0 (firstsF M l i).length (firstsF M l i).length false), (25, ss nm' fm l), (26, I l.length), (27, I i)], [.arr 9 1 ((firstsF M l i).map sc)]⟩) (n := l.length)
    ⟨0, by omega, weak_to [0] hp hnp rfl (by simp (config := { maxSteps := 2000000 }) only [go_sem, ↓reduceIte, Int.reduceToNat, Nat.reduceMul, Int.reduceBEq, Int.reduceBNe, Nat.reduceBEq, Nat.reduceAdd, Nat.reduceSub, Nat.reduceLeDiff, Nat.reduceEqDiff, Nat.reduceLT, reduceCtorEq, Int.natCast_zero, Aw.pos, firstsF, List.range_zero, List.filter_nil, List.map_nil]) (by simp (config := { maxSteps := 2000000 }) only [go_sem, ↓reduceIte, Int.reduceToNat, Nat.reduceMul, Int.reduceBEq, Int.reduceBNe, Nat.reduceBEq, Nat.reduceAdd, Nat.reduceSub, Nat.reduceLeDiff, Nat.reduceEqDiff, Nat.reduceLT, reduceCtorEq, Aw.renR, Aw.pos, firstsF, List.range_zero, List.filter_nil, List.map_nil])⟩ ?_
  rintro k s ⟨i, hik, hw⟩
  refine AWp.weak hw (AWp.ofD [] [] hn mixed rfl ?_)
  have hlen := firstsF_len M l i
  rcases Nat.lt_or_ge i l.length with hlt | hge
  · have e0 : decide ((i : Int) < (l.length : Int)) = true := decide_eq_true (by omega)
    have e1 := getD_mapD default sc hlt
    have e2 : IntKind.i64.wrap ((i : Int) + 1) = ((i + 1 : Nat) : Int) := by rw [w64 (by omega) (by omega)]; omega
    have hsu := firstsF_succ M l i
    generalize l.getD i default = x at *
    simp (config := { maxSteps := 2000000 }) only [go_sem, ↓reduceIte, Int.reduceToNat, Nat.reduceMul, Int.reduceBEq, Int.reduceBNe, Nat.reduceBEq, Nat.reduceAdd, Nat.reduceSub, Nat.reduceLeDiff, Nat.reduceEqDiff, Nat.reduceLT, reduceCtorEq, e0, e1]
    (repeat (refine And.intro (by first | omega | (refine ⟨by omega, by omega⟩) | (refine ⟨by omega, by omega, by omega⟩) | (simp only [List.length_map, List.length_range, List.length_append, List.length_cons, List.length_nil, List.length_replicate, List.length_set]; omega) | (simp; omega) | (intro hgd; cases hgd) | (intro hgd; refine ⟨hgd, ?_⟩; first | omega | (refine ⟨by omega, by omega⟩) | (simp; omega))) ?_))
    (refine AWpL.calle (s27 nm' fm M l i hlt (by omega)) rfl (by rw [hn]; rfl) (by simp (config := { maxSteps := 2000000 }) only [go_sem, ↓reduceIte, Int.reduceToNat, Nat.reduceMul, Int.reduceBEq, Int.reduceBNe, Nat.reduceBEq, Nat.reduceAdd, Nat.reduceSub, Nat.reduceLeDiff, Nat.reduceEqDiff, Nat.reduceLT, reduceCtorEq]) (AWpL.ofM hn rfl ?_); simp (config := { maxSteps := 2000000 }) only [go_sem, ↓reduceIte, Int.reduceToNat, Nat.reduceMul, Int.reduceBEq, Int.reduceBNe, Nat.reduceBEq, Nat.reduceAdd, Nat.reduceSub, Nat.reduceLeDiff, Nat.reduceEqDiff, Nat.reduceLT, reduceCtorEq])
    refine ⟨fun h3 => ?_, fun h3 => ?_⟩
    · rw [if_pos h3] at hsu
      have hl2 : (firstsF M l (i + 1)).length = (firstsF M l i).length + 1 := by rw [hsu, List.length_append]; rfl
      have hap : (firstsF M l i).map sc ++ [sc x] = (firstsF M l (i + 1)).map sc := by rw [hsu, List.map_append]; rfl
      refine AWpL.app (r := 0) (els := (firstsF M l i).map sc) (ys := [sc x]) rfl rfl rfl rfl (by rw [hn]; rfl) (by simp) (pin 0) (Nat.le_refl 1) (fun el hm y hy => by
        rw [List.mem_singleton.1 hm] at hy
        simp only [List.mem_cons, List.not_mem_nil, or_false] at hy
        subst hy; rfl) (by simp only [List.length_cons, List.length_nil]; omega) (by simp only [List.length_cons, List.length_nil]; omega) (AWpL.ofM hn rfl ?_)
      simp (config := { maxSteps := 2000000 }) only [go_sem, ↓reduceIte, Int.reduceToNat, Nat.reduceMul, Int.reduceBEq, Int.reduceBNe, Nat.reduceBEq, Nat.reduceAdd, Nat.reduceSub, Nat.reduceLeDiff, Nat.reduceEqDiff, Nat.reduceLT, reduceCtorEq, hap, ← hl2, e2]
      exact ⟨k - 1, by omega, i + 1, by omega, weak_to [0] hp hnp rfl (by simp (config := { maxSteps := 2000000 }) only [go_sem, ↓reduceIte, Int.reduceToNat, Nat.reduceMul, Int.reduceBEq, Int.reduceBNe, Nat.reduceBEq, Nat.reduceAdd, Nat.reduceSub, Nat.reduceLeDiff, Nat.reduceEqDiff, Nat.reduceLT, reduceCtorEq, Aw.pos]) (by simp (config := { maxSteps := 2000000 }) only [go_sem, ↓reduceIte, Int.reduceToNat, Nat.reduceMul, Int.reduceBEq, Int.reduceBNe, Nat.reduceBEq, Nat.reduceAdd, Nat.reduceSub, Nat.reduceLeDiff, Nat.reduceEqDiff, Nat.reduceLT, reduceCtorEq, Aw.renR, Aw.pos])⟩
    · rw [if_neg (by rw [h3]; decide), List.append_nil] at hsu
      simp (config := { maxSteps := 2000000 }) only [go_sem, ↓reduceIte, Int.reduceToNat, Nat.reduceMul, Int.reduceBEq, Int.reduceBNe, Nat.reduceBEq, Nat.reduceAdd, Nat.reduceSub, Nat.reduceLeDiff, Nat.reduceEqDiff, Nat.reduceLT, reduceCtorEq, e2]
      exact ⟨k - 1, by omega, i + 1, by omega, weak_to [0] hp hnp rfl (by simp (config := { maxSteps := 2000000 }) only [go_sem, ↓reduceIte, Int.reduceToNat, Nat.reduceMul, Int.reduceBEq, Int.reduceBNe, Nat.reduceBEq, Nat.reduceAdd, Nat.reduceSub, Nat.reduceLeDiff, Nat.reduceEqDiff, Nat.reduceLT, reduceCtorEq, Aw.pos, hsu]) (by simp (config := { maxSteps := 2000000 }) only [go_sem, ↓reduceIte, Int.reduceToNat, Nat.reduceMul, Int.reduceBEq, Int.reduceBNe, Nat.reduceBEq, Nat.reduceAdd, Nat.reduceSub, Nat.reduceLeDiff, Nat.reduceEqDiff, Nat.reduceLT, reduceCtorEq, Aw.renR, Aw.pos, hsu])⟩
  · have e0 : decide ((i : Int) < (l.length : Int)) = false := decide_eq_false (by omega)
    obtain rfl : i = l.length := by omega
    simp (config := { maxSteps := 2000000 }) only [go_sem, ↓reduceIte, Int.reduceToNat, Nat.reduceMul, Int.reduceBEq, Int.reduceBNe, Nat.reduceBEq, Nat.reduceAdd, Nat.reduceSub, Nat.reduceLeDiff, Nat.reduceEqDiff, Nat.reduceLT, reduceCtorEq, e0]
    refine sortStr (firstsF M l l.length) rfl rfl rfl (by rw [hn]; rfl) (by omega) (AWpL.ofM hn rfl ?_)
    have hl3 := sortS_len (firstsF M l l.length)
    have htk : ((sortS (firstsF M l l.length)).map sc).take (firstsF M l l.length).length = (sortS (firstsF M l l.length)).map sc := List.take_of_length_le (by simp [hl3])
    simp (config := { maxSteps := 2000000 }) only [go_sem, ↓reduceIte, Int.reduceToNat, Nat.reduceMul, Int.reduceBEq, Int.reduceBNe, Nat.reduceBEq, Nat.reduceAdd, Nat.reduceSub, Nat.reduceLeDiff, Nat.reduceEqDiff, Nat.reduceLT, reduceCtorEq]
    refine Retn.weak (weak_freeze 0 rfl (pin 0) (by simp (config := { maxSteps := 2000000 }) only [go_sem, ↓reduceIte, Int.reduceToNat, Nat.reduceMul, Int.reduceBEq, Int.reduceBNe, Nat.reduceBEq, Nat.reduceAdd, Nat.reduceSub, Nat.reduceLeDiff, Nat.reduceEqDiff, Nat.reduceLT, reduceCtorEq, List.length_map, hl3, Nat.le_refl])) _ ?_
    simp (config := { maxSteps := 2000000 }) only [go_sem, ↓reduceIte, Int.reduceToNat, Nat.reduceMul, Int.reduceBEq, Int.reduceBNe, Nat.reduceBEq, Nat.reduceAdd, Nat.reduceSub, Nat.reduceLeDiff, Nat.reduceEqDiff, Nat.reduceLT, reduceCtorEq, htk]
    refine Retn.weak (weak_ent 4 (by rfl) (Ent.plain _ _ _ _)) _ (Retn.ret (π := []) hp hnp ⟨rfl, ?_⟩)
    simp (config := { maxSteps := 2000000 }) only [go_sem, ↓reduceIte, Int.reduceToNat, Nat.reduceMul, Int.reduceBEq, Int.reduceBNe, Nat.reduceBEq, Nat.reduceAdd, Nat.reduceSub, Nat.reduceLeDiff, Nat.reduceEqDiff, Nat.reduceLT, reduceCtorEq]
theorem sIndex_mem {x : ByteArray} : ∀ {l : List ByteArray} {k : Nat}, x ∈ l → ∃ i, ∃ h : i < l.length, sIndex x k l = (k + i : Nat) ∧ l[i] = x
  | y :: l, k, h => by
    unfold sIndex
    by_cases hq : seq x y = true
    · rw [if_pos hq]
      refine ⟨0, Nat.zero_lt_succ _, by simp, ?_⟩
      unfold seq at hq
      rw [beq_iff_eq, Lib.toList_data, Lib.toList_data] at hq
      exact (data_inj hq).symm
    · rw [if_neg hq]
      rcases List.mem_cons.1 h with rfl | h
      · exact absurd (by unfold seq; simp) hq
      · obtain ⟨i, hi, h1, h2⟩ := sIndex_mem (k := k + 1) h
        exact ⟨i + 1, by rw [List.length_cons]; omega, by rw [h1]; omega, by simpa using h2⟩
theorem sIndex_mem' {x : ByteArray} {l : List ByteArray} (h : x ∈ l) : ∃ i : Nat, i < l.length ∧ sIndex x 0 l = i ∧ l.getD i default = x := by
  obtain ⟨i, hi, h1, h2⟩ := sIndex_mem (k := 0) h
  exact ⟨i, hi, by rw [h1]; omega, by rw [List.getD_eq_getElem?_getD, List.getElem?_eq_getElem hi]; exact h2⟩
theorem firstsF_mem {M : Nat → Nat → Bool} {l : List ByteArray} {n : Nat} (hn : n ≤ l.length) {x : ByteArray} : x ∈ firstsF M l n ↔ ∃ k, k < n ∧ firstF M l k = true ∧ l.getD k default = x := by
  unfold firstsF
  rw [List.mem_map]
  constructor
  · rintro ⟨k, hk, rfl⟩
    obtain ⟨h1, h2⟩ := List.mem_filter.1 hk
    exact ⟨k, List.mem_range.1 h1, h2, rfl⟩
  · rintro ⟨k, h1, h2, rfl⟩
    exact ⟨k, List.mem_filter.2 ⟨List.mem_range.2 h1, h2⟩, rfl⟩
theorem causesL_mem {cs : List Cau} {l : List ByteArray} {x : ByteArray} (h : x ∈ causesL cs l) : x ∈ l := by
  unfold causesL at h
  split at h
  · rw [sortS_mem, firstsF_mem (Nat.le_refl _)] at h
    obtain ⟨k, h1, _, rfl⟩ := h
    rw [List.getD_eq_getElem?_getD, List.getElem?_eq_getElem h1]
    exact List.getElem_mem h1
  · cases h
theorem causesL_len (cs : List Cau) (l : List ByteArray) : (causesL cs l).length ≤ l.length := by
  unfold causesL
  split
  · rw [sortS_len]; exact firstsF_len _ _ _
  · exact Nat.zero_le _
def explainE (cs : List Cau) (l : List ByteArray) (n : ByteArray) : Int := if causesE cs l ≠ 0 then causesE cs l else if sIndex n 0 l < 0 then 8 else 0
def keepF (cs : List Cau) (l : List ByteArray) (n : ByteArray) (x : ByteArray) : Bool := reachF cs l (sIndex n 0 l).toNat (sIndex x 0 l).toNat
def explainL (cs : List Cau) (l : List ByteArray) (n : ByteArray) : List ByteArray := if explainE cs l n = 0 then (causesL cs l).filter (keepF cs l n) else []
set_option maxRecDepth 20000 in
set_option maxHeartbeats 1000000 in
theorem s9 (nl fl) (cs : List Cau) (nm' fm) (l : List ByteArray) (n : ByteArray) (hc : ∀ c ∈ cs, CauOk c) (hs : ∀ x ∈ l, x.size ≤ 9223372036854775807) (hl63 : l.length ≤ 9223372036854775807) :
    Aw.Spec Try.prog 9 [] [cas nl fl cs, ss nm' fm l, S n] (fun rg v => rg = [] ∧ v = .tup [.imm none false 1 ((explainL cs l n).map sc), I (explainE cs l n)]) := by
  refine Aw.Spec.regsW k9 rfl rfl fun E hn hnp hp => ?_
  unfold a9
  have pin : ∀ r, E.pin r = none := fun r => hp.none hnp (Nat.zero_le _)
  have hE : explainE cs l n = if causesE cs l ≠ 0 then causesE cs l else if sIndex n 0 l < 0 then 8 else 0 := rfl
  have hL : explainL cs l n = if explainE cs l n = 0 then (causesL cs l).filter (keepF cs l n) else [] := rfl
  refine AWp.ofD [] [] hn mixed rfl ?_
  simp (config := { maxSteps := 2000000 }) only [go_sem, ↓reduceIte, Int.reduceToNat, Nat.reduceMul, Int.reduceBEq, Int.reduceBNe, Nat.reduceBEq, Nat.reduceAdd, Nat.reduceSub, Nat.reduceLeDiff, Nat.reduceEqDiff, Nat.reduceLT, reduceCtorEq]
  refine AWpL.callA [] (s11 nl fl cs nm' fm l hc hs) rfl rfl (by rw [hn]; rfl) rfl (fun r hr => by cases hr) fun rg v hv => ?_
  obtain ⟨rfl, rfl⟩ := hv
  refine ⟨Nat.zero_le _, AWpL.ofM hn rfl ?_⟩
  simp (config := { maxSteps := 2000000 }) only [go_sem, ↓reduceIte, Int.reduceToNat, Nat.reduceMul, Int.reduceBEq, Int.reduceBNe, Nat.reduceBEq, Nat.reduceAdd, Nat.reduceSub, Nat.reduceLeDiff, Nat.reduceEqDiff, Nat.reduceLT, reduceCtorEq, Aw.retS, Aw.retRg, Aw.kpM, Aw.bkM, Aw.pos, Aw.isBox]
  simp only [bne_iff_ne, ne_eq, bne_eq_false_iff_eq]
  refine ⟨fun h => ?_, fun h => ?_⟩
  · rw [if_pos h] at hE
    rw [if_neg (by rw [hE]; exact h)] at hL
    rw [hL, hE]
    refine Retn.weak (weak_ent 6 (by rfl) (Ent.ofnil0 1)) _ (Retn.ret (π := []) hp hnp ⟨rfl, ?_⟩)
    simp (config := { maxSteps := 2000000 }) only [go_sem, ↓reduceIte, Int.reduceToNat, Nat.reduceMul, Int.reduceBEq, Int.reduceBNe, Nat.reduceBEq, Nat.reduceAdd, Nat.reduceSub, Nat.reduceLeDiff, Nat.reduceEqDiff, Nat.reduceLT, reduceCtorEq]
  rw [if_neg (by simp [h])] at hE
  have h24 : l.length ≤ 24 ∧ cs.length ≤ 40 := by
    unfold causesE at h
    split at h
    · rename_i h1; exact absurd h h1
    · rename_i h1; exact ⟨actF_len h, causesF_len (by simpa using h1)⟩
  (refine AWpL.calle (s16 nm' fm l n (by omega)) rfl (by rw [hn]; rfl) (by simp (config := { maxSteps := 2000000 }) only [go_sem, ↓reduceIte, Int.reduceToNat, Nat.reduceMul, Int.reduceBEq, Int.reduceBNe, Nat.reduceBEq, Nat.reduceAdd, Nat.reduceSub, Nat.reduceLeDiff, Nat.reduceEqDiff, Nat.reduceLT, reduceCtorEq]) (AWpL.ofM hn rfl ?_); simp (config := { maxSteps := 2000000 }) only [go_sem, ↓reduceIte, Int.reduceToNat, Nat.reduceMul, Int.reduceBEq, Int.reduceBNe, Nat.reduceBEq, Nat.reduceAdd, Nat.reduceSub, Nat.reduceLeDiff, Nat.reduceEqDiff, Nat.reduceLT, reduceCtorEq])
  simp only [decide_eq_true_eq, decide_eq_false_iff_not]
  refine ⟨fun h2 => ?_, fun h2 => ?_⟩
  · rw [if_pos h2] at hE
    rw [if_neg (by rw [hE]; decide)] at hL
    rw [hL, hE]
    refine Retn.weak (weak_ent 6 (by rfl) (Ent.ofnil0 1)) _ (Retn.ret (π := []) hp hnp ⟨rfl, ?_⟩)
    simp (config := { maxSteps := 2000000 }) only [go_sem, ↓reduceIte, Int.reduceToNat, Nat.reduceMul, Int.reduceBEq, Int.reduceBNe, Nat.reduceBEq, Nat.reduceAdd, Nat.reduceSub, Nat.reduceLeDiff, Nat.reduceEqDiff, Nat.reduceLT, reduceCtorEq]
  rw [if_neg h2] at hE
  rw [if_pos hE] at hL
  rw [hL, hE]
  have hri := sIndex_range n l 0
  obtain ⟨p, hpi⟩ : ∃ p : Nat, sIndex n 0 l = p := ⟨(sIndex n 0 l).toNat, by omega⟩
  have hkf : ∀ x, keepF cs l n x = reachF cs l p (sIndex x 0 l).toNat := fun x => by unfold keepF; rw [hpi]; rfl
  have hmem : ∀ x ∈ causesL cs l, x ∈ l := fun x hx => causesL_mem hx
  have hcl := causesL_len cs l
  rw [hpi]
  have hpl : p < l.length := by omega
  refine AWpL.callA [] (s25 nl fl cs nm' fm l (by omega) (by omega)) rfl rfl (by rw [hn]; rfl) rfl (fun r hr => by cases hr) fun rg v hv => ?_
  obtain ⟨rfl, rfl⟩ := hv
  refine ⟨Nat.zero_le _, AWpL.ofM hn rfl ?_⟩
  generalize reachF cs l = M at *
  generalize causesL cs l = A at *
  generalize keepF cs l n = K at *
  simp (config := { maxSteps := 2000000 }) only [go_sem, ↓reduceIte, Int.reduceToNat, Nat.reduceMul, Int.reduceBEq, Int.reduceBNe, Nat.reduceBEq, Nat.reduceAdd, Nat.reduceSub, Nat.reduceLeDiff, Nat.reduceEqDiff, Nat.reduceLT, reduceCtorEq, Aw.retS, Aw.retRg, Aw.kpM, Aw.bkM, Aw.pos, Aw.isBox]
  refine AWp.weak (weak_nil 12 9 1 rfl) ?_
  refine AWp.loop (fun k s => ∃ i : Nat, i + k = A.length ∧ Weak E s ⟨[(1, ss nm' fm l), (10, I p), (11, matV l.length M), (12, .hnd 0 0 ((A.take i).filter K).length ((A.take i).filter K).length false), (32, .imm none false 1 (A.map sc)), (33, I A.length), (34, I i)], [.arr 9 1 (((A.take i).filter K).map sc)]⟩) (n := A.length)
    ⟨0, by omega, weak_to [0] hp hnp rfl (by simp (config := { maxSteps := 2000000 }) only [go_sem, ↓reduceIte, Int.reduceToNat, Nat.reduceMul, Int.reduceBEq, Int.reduceBNe, Nat.reduceBEq, Nat.reduceAdd, Nat.reduceSub, Nat.reduceLeDiff, Nat.reduceEqDiff, Nat.reduceLT, reduceCtorEq, Int.natCast_zero, Aw.pos, List.filter_nil, List.map_nil]) (by simp (config := { maxSteps := 2000000 }) only [go_sem, ↓reduceIte, Int.reduceToNat, Nat.reduceMul, Int.reduceBEq, Int.reduceBNe, Nat.reduceBEq, Nat.reduceAdd, Nat.reduceSub, Nat.reduceLeDiff, Nat.reduceEqDiff, Nat.reduceLT, reduceCtorEq, Aw.renR, Aw.pos, List.filter_nil, List.map_nil])⟩ ?_
  rintro k s ⟨i, hik, hw⟩
  refine AWp.weak hw (AWp.ofD [] [] hn mixed rfl ?_)
  have hlen : ((A.take i).filter K).length ≤ A.length := Nat.le_trans (List.length_filter_le _ _) (by rw [List.length_take]; omega)
  rcases Nat.lt_or_ge i A.length with hlt | hge
  · have e0 : decide ((i : Int) < (A.length : Int)) = true := decide_eq_true (by omega)
    have e1 := getD_map sc hlt
    have e2 : IntKind.i64.wrap ((i : Int) + 1) = ((i + 1 : Nat) : Int) := by rw [w64 (by omega) (by omega)]; omega
    have htk : (A.take (i + 1)).filter K = (A.take i).filter K ++ if K A[i] = true then [A[i]] else [] := by
      rw [take_get hlt, List.filter_append]
      congr 1
      cases h3 : K A[i] <;> simp [h3]
    have hx := hkf A[i]
    obtain ⟨q, hq1, hq2, hq3⟩ := sIndex_mem' (hmem _ (List.getElem_mem hlt))
    rw [hq2, Int.toNat_natCast] at hx
    generalize A[i] = x at *
    have r1 : ∀ a, a < l.length → ((List.range l.length).map fun i => [AV.imm none true 1 ((List.range l.length).map fun k => [B (M i k)])]).getD a [] = [.imm none true 1 ((List.range l.length).map fun k => [B (M a k)])] := fun a ha => getD_rng (fun i => [AV.imm none true 1 ((List.range l.length).map fun k => [B (M i k)])]) ha
    have r2 : ∀ a b, b < l.length → ((List.range l.length).map fun k => [B (M a k)]).getD b [] = [B (M a b)] := fun a b hb => getD_rng (fun k => [B (M a k)]) hb
    simp (config := { maxSteps := 2000000 }) only [go_sem, ↓reduceIte, Int.reduceToNat, Nat.reduceMul, Int.reduceBEq, Int.reduceBNe, Nat.reduceBEq, Nat.reduceAdd, Nat.reduceSub, Nat.reduceLeDiff, Nat.reduceEqDiff, Nat.reduceLT, reduceCtorEq, e0, e1, r1 p hpl, List.length_range]
    (repeat (refine And.intro (by first | omega | (refine ⟨by omega, by omega⟩) | (refine ⟨by omega, by omega, by omega⟩) | (simp only [List.length_map, List.length_range, List.length_append, List.length_cons, List.length_nil, List.length_replicate, List.length_set]; omega) | (simp; omega) | (intro hgd; cases hgd) | (intro hgd; refine ⟨hgd, ?_⟩; first | omega | (refine ⟨by omega, by omega⟩) | (simp; omega))) ?_))
    refine AWpQ.calle (s16 nm' fm l x (by omega)) (by rw [hn]; rfl) (by simp (config := { maxSteps := 2000000 }) only [go_sem, ↓reduceIte, Int.reduceToNat, Nat.reduceMul, Int.reduceBEq, Int.reduceBNe, Nat.reduceBEq, Nat.reduceAdd, Nat.reduceSub, Nat.reduceLeDiff, Nat.reduceEqDiff, Nat.reduceLT, reduceCtorEq]) (AWpQ.of hn rfl ?_)
    rw [hq2]
    simp (config := { maxSteps := 2000000 }) only [go_sem, ↓reduceIte, Int.reduceToNat, Nat.reduceMul, Int.reduceBEq, Int.reduceBNe, Nat.reduceBEq, Nat.reduceAdd, Nat.reduceSub, Nat.reduceLeDiff, Nat.reduceEqDiff, Nat.reduceLT, reduceCtorEq, r1 p hpl, r2 p q hq1, List.length_range, ← hx]
    refine ⟨⟨by omega, by omega⟩, fun h3 => ?_, fun h3 => ?_⟩
    · rw [if_pos h3] at htk
      have hl2 : ((A.take (i + 1)).filter K).length = ((A.take i).filter K).length + 1 := by rw [htk, List.length_append]; rfl
      have hap : ((A.take i).filter K).map sc ++ [sc x] = ((A.take (i + 1)).filter K).map sc := by rw [htk, List.map_append]; rfl
      refine AWpL.app (r := 0) (els := ((A.take i).filter K).map sc) (ys := [sc x]) rfl rfl rfl rfl (by rw [hn]; rfl) (by simp) (pin 0) (Nat.le_refl 1) (fun el hm y hy => by
        rw [List.mem_singleton.1 hm] at hy
        simp only [List.mem_cons, List.not_mem_nil, or_false] at hy
        subst hy; rfl) (by simp only [List.length_cons, List.length_nil]; omega) (by simp only [List.length_cons, List.length_nil]; omega) (AWpL.ofM hn rfl ?_)
      simp (config := { maxSteps := 2000000 }) only [go_sem, ↓reduceIte, Int.reduceToNat, Nat.reduceMul, Int.reduceBEq, Int.reduceBNe, Nat.reduceBEq, Nat.reduceAdd, Nat.reduceSub, Nat.reduceLeDiff, Nat.reduceEqDiff, Nat.reduceLT, reduceCtorEq, hap, ← hl2, e2]
      exact ⟨k - 1, by omega, i + 1, by omega, weak_to [0] hp hnp rfl (by simp (config := { maxSteps := 2000000 }) only [go_sem, ↓reduceIte, Int.reduceToNat, Nat.reduceMul, Int.reduceBEq, Int.reduceBNe, Nat.reduceBEq, Nat.reduceAdd, Nat.reduceSub, Nat.reduceLeDiff, Nat.reduceEqDiff, Nat.reduceLT, reduceCtorEq, Aw.pos]) (by simp (config := { maxSteps := 2000000 }) only [go_sem, ↓reduceIte, Int.reduceToNat, Nat.reduceMul, Int.reduceBEq, Int.reduceBNe, Nat.reduceBEq, Nat.reduceAdd, Nat.reduceSub, Nat.reduceLeDiff, Nat.reduceEqDiff, Nat.reduceLT, reduceCtorEq, Aw.renR, Aw.pos])⟩
    · rw [if_neg (by rw [h3]; decide), List.append_nil] at htk
      simp (config := { maxSteps := 2000000 }) only [go_sem, ↓reduceIte, Int.reduceToNat, Nat.reduceMul, Int.reduceBEq, Int.reduceBNe, Nat.reduceBEq, Nat.reduceAdd, Nat.reduceSub, Nat.reduceLeDiff, Nat.reduceEqDiff, Nat.reduceLT, reduceCtorEq, e2]
      exact ⟨k - 1, by omega, i + 1, by omega, weak_to [0] hp hnp rfl (by simp (config := { maxSteps := 2000000 }) only [go_sem, ↓reduceIte, Int.reduceToNat, Nat.reduceMul, Int.reduceBEq, Int.reduceBNe, Nat.reduceBEq, Nat.reduceAdd, Nat.reduceSub, Nat.reduceLeDiff, Nat.reduceEqDiff, Nat.reduceLT, reduceCtorEq, Aw.pos, htk]) (by simp (config := { maxSteps := 2000000 }) only [go_sem, ↓reduceIte, Int.reduceToNat, Nat.reduceMul, Int.reduceBEq, Int.reduceBNe, Nat.reduceBEq, Nat.reduceAdd, Nat.reduceSub, Nat.reduceLeDiff, Nat.reduceEqDiff, Nat.reduceLT, reduceCtorEq, Aw.renR, Aw.pos, htk])⟩
  · have e0 : decide ((i : Int) < (A.length : Int)) = false := decide_eq_false (by omega)
    have hti : A.take i = A := List.take_of_length_le hge
    rw [hti]
    simp (config := { maxSteps := 2000000 }) only [go_sem, ↓reduceIte, Int.reduceToNat, Nat.reduceMul, Int.reduceBEq, Int.reduceBNe, Nat.reduceBEq, Nat.reduceAdd, Nat.reduceSub, Nat.reduceLeDiff, Nat.reduceEqDiff, Nat.reduceLT, reduceCtorEq, e0]
    have htk : ((A.filter K).map sc).take (A.filter K).length = (A.filter K).map sc := List.take_of_length_le (by simp)
    refine Retn.weak (weak_freeze 0 rfl (pin 0) (by simp (config := { maxSteps := 2000000 }) only [go_sem, ↓reduceIte, Int.reduceToNat, Nat.reduceMul, Int.reduceBEq, Int.reduceBNe, Nat.reduceBEq, Nat.reduceAdd, Nat.reduceSub, Nat.reduceLeDiff, Nat.reduceEqDiff, Nat.reduceLT, reduceCtorEq, List.length_map, Nat.le_refl])) _ ?_
    simp (config := { maxSteps := 2000000 }) only [go_sem, ↓reduceIte, Int.reduceToNat, Nat.reduceMul, Int.reduceBEq, Int.reduceBNe, Nat.reduceBEq, Nat.reduceAdd, Nat.reduceSub, Nat.reduceLeDiff, Nat.reduceEqDiff, Nat.reduceLT, reduceCtorEq, htk]
    refine Retn.weak (weak_ent 6 (by rfl) (Ent.plain _ _ _ _)) _ (Retn.ret (π := []) hp hnp ⟨rfl, ?_⟩)
    simp (config := { maxSteps := 2000000 }) only [go_sem, ↓reduceIte, Int.reduceToNat, Nat.reduceMul, Int.reduceBEq, Int.reduceBNe, Nat.reduceBEq, Nat.reduceAdd, Nat.reduceSub, Nat.reduceLeDiff, Nat.reduceEqDiff, Nat.reduceLT, reduceCtorEq]
end Go.Proofs.Ytoickofcmngdjaa
