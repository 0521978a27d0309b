/- Graphs: slices.Repeat, Count. -/
import Derived.Test.YtmginfhlohenhaaAwZk
import Derived.Test.YtmginfhlohenhaaNetC
set_option linter.unusedVariables false
set_option linter.unusedSimpArgs false
namespace Go.Proofs.Ytmginfhlohenhaa
open Go.Proofs.Ytmginfhlohenhaa.Aw
attribute [local go_sem] Int.natCast_zero Int.natCast_one bne_self_eq_false beq_self_eq_true Bool.not_true Bool.not_false Option.isSome_none Option.isSome_some Aw.bkM_nil Option.getD_some Option.getD_none Nat.sub_zero Int.toNat_zero Aw.frzS Aw.frzT Aw.frzA Aw.frzL Aw.frzR Aw.frzO Aw.frzOL Aw.frzOT Aw.frzOR Aw.killS Aw.mapT Aw.mapR Aw.killM Aw.resAVs Aw.resAV Aw.quietOps Aw.wpP Aw.wpT Aw.wpS Aw.AOp.mild List.getElem?_cons_zero List.getElem?_cons_succ Bool.and_false Bool.and_self Bool.false_and Aw.opOb Aw.gdB Aw.Rnd Aw.subTm List.length_map Int.toNat_natCast and_self Aw.SeqC Aw.stops Aw.Ends Aw.looks Aw.renA Aw.renL Aw.renT Aw.renS Aw.wpO Aw.aop Aw.putTm Aw.St.ev Aw.St.put Aw.St.putO Aw.binAV Aw.intBin Aw.strBin Aw.pickAV Aw.optInt Aw.AV.strip Aw.AV.guard Aw.AV.cells Aw.gdOb Aw.AOp.opds Aw.AOp.still Aw.ptrCells Aw.St.reg Aw.fillAV Aw.fillOb Aw.elsOb Aw.splice Aw.firm Aw.cellish Aw.AV.shut Aw.shutAll Aw.Seq Aw.Blk Aw.retS_nil Aw.mapA Aw.mapL Aw.borA Aw.borOb Aw.allOb Aw.tupOf Aw.params Aw.Opd.of Array.toList Value.cells List.map_cons List.map_nil List.getD_cons_zero List.getD_cons_succ List.getD_nil List.length_cons List.length_nil List.take_succ_cons List.take_zero List.take_nil List.drop_zero List.drop_succ_cons List.drop_nil List.set_cons_zero List.set_cons_succ List.append_nil List.nil_append List.cons_append List.all_cons List.all_nil cond_false cond_true if_true if_false true_and and_true Bool.and_true Bool.true_and Option.map_some Option.map_none false_implies forall_const implies_true forall_eq imp_self Bool.cond_false_right Bool.cond_true_left beq_true beq_false Bool.not_eq_true' Bool.false_eq_true Nat.zero_add Nat.add_zero Aw.eqCells Aw.stopDraw Aw.skipS Aw.exactCap Aw.revealS Aw.srcEls Aw.srcSz
attribute [local go_sem ↓] Aw.look_nil Aw.look_ite Aw.wpL_nil Aw.wpL_op Aw.wpL_gd Aw.wpQ_nil Aw.wpQ_op Aw.wpQ_gd Aw.wpC_draw Aw.wpC_reg Aw.wpC_skip Aw.wpC_ret Aw.wpC_exit Aw.wpC_seq Aw.wpC_block Aw.wpC_loop Aw.wpC_cond Aw.stopAt_nil Aw.stopAt_cons Aw.wpD_skip Aw.wpD_ret Aw.wpD_exit Aw.wpD_region Aw.wpD_draw Aw.wpM_nil Aw.wpM_op Aw.wpM_gd Aw.wpD_seq Aw.wpD_block Aw.wpD_loop Aw.wpD_cond
/- math/bits.Mul -/
def a73 : ACode :=
  (.seq (.region false [] [
     ⟨(some 4), none, (.mov (.v (.int .u64 0)))⟩,
     ⟨(some 5), none, (.mov (.v (.int .u64 0)))⟩])
  (.seq (.cond (.v (.bool false))
    (.seq (.region false [] [
       ⟨(some 11), none, (.mov (.t 0))⟩,
       ⟨(some 12), none, (.itoi .u32 (.t 11))⟩,
       ⟨(some 13), none, (.mov (.t 1))⟩,
       ⟨(some 14), none, (.itoi .u32 (.t 13))⟩,
       ⟨(some 15), none, (.call 76 [(.t 12), (.t 14)])⟩,
       ⟨(some 10), none, (.mov (.t 15))⟩,
       ⟨(some 16), none, (.ext 0 (.t 10))⟩,
       ⟨(some 17), none, (.ext 1 (.t 10))⟩,
       ⟨(some 6), none, (.mov (.t 16))⟩,
       ⟨(some 7), none, (.mov (.t 17))⟩])
    (.seq (.region false [] [
       ⟨(some 18), none, (.mov (.t 6))⟩,
       ⟨(some 19), none, (.itoi .u64 (.t 18))⟩,
       ⟨(some 20), none, (.mov (.t 7))⟩,
       ⟨(some 21), none, (.itoi .u64 (.t 20))⟩,
       ⟨(some 4), none, (.mov (.t 19))⟩,
       ⟨(some 5), none, (.mov (.t 21))⟩])
    .ret))
    .skip)
  (.seq (.region false [] [
     ⟨(some 23), none, (.mov (.t 0))⟩,
     ⟨(some 24), none, (.mov (.t 1))⟩,
     ⟨(some 25), none, (.call 77 [(.t 23), (.t 24)])⟩,
     ⟨(some 22), none, (.mov (.t 25))⟩,
     ⟨(some 26), none, (.ext 0 (.t 22))⟩,
     ⟨(some 27), none, (.ext 1 (.t 22))⟩,
     ⟨(some 8), none, (.mov (.t 26))⟩,
     ⟨(some 9), none, (.mov (.t 27))⟩])
  (.seq (.region false [] [
     ⟨(some 28), none, (.mov (.t 8))⟩,
     ⟨(some 29), none, (.mov (.t 9))⟩,
     ⟨(some 4), none, (.mov (.t 28))⟩,
     ⟨(some 5), none, (.mov (.t 29))⟩])
  .ret))))
theorem k73 : FnIs Try.prog 73 30 [.t 4, .t 5] a73 := ⟨_, _, Try.func73, rfl, by kernel_rfl, by kernel_rfl, rfl⟩
/- math/bits.Mul64 -/
def a77 : ACode :=
  (.seq (.region false [] [
     ⟨(some 4), none, (.mov (.v (.int .u64 0)))⟩,
     ⟨(some 5), none, (.mov (.v (.int .u64 0)))⟩])
  (.seq (.region false [] [
     ⟨(some 14), none, (.mov (.t 0))⟩,
     ⟨(some 15), none, (.bin .and 137 (.t 14) (.v (.int .u64 4294967295)))⟩,
     ⟨(some 6), none, (.mov (.t 15))⟩])
  (.seq (.region false [] [
     ⟨(some 16), none, (.mov (.t 0))⟩,
     ⟨(some 17), none, (.bin .shr 137 (.t 16) (.v (.int .u64 32)))⟩,
     ⟨(some 7), none, (.mov (.t 17))⟩])
  (.seq (.region false [] [
     ⟨(some 18), none, (.mov (.t 1))⟩,
     ⟨(some 19), none, (.bin .and 137 (.t 18) (.v (.int .u64 4294967295)))⟩,
     ⟨(some 8), none, (.mov (.t 19))⟩])
  (.seq (.region false [] [
     ⟨(some 20), none, (.mov (.t 1))⟩,
     ⟨(some 21), none, (.bin .shr 137 (.t 20) (.v (.int .u64 32)))⟩,
     ⟨(some 9), none, (.mov (.t 21))⟩])
  (.seq (.region false [] [
     ⟨(some 22), none, (.mov (.t 6))⟩,
     ⟨(some 23), none, (.mov (.t 8))⟩,
     ⟨(some 24), none, (.bin .mul 137 (.t 22) (.t 23))⟩,
     ⟨(some 10), none, (.mov (.t 24))⟩])
  (.seq (.region false [] [
     ⟨(some 25), none, (.mov (.t 7))⟩,
     ⟨(some 26), none, (.mov (.t 8))⟩,
     ⟨(some 27), none, (.bin .mul 137 (.t 25) (.t 26))⟩,
     ⟨(some 28), none, (.mov (.t 10))⟩,
     ⟨(some 29), none, (.bin .shr 137 (.t 28) (.v (.int .u64 32)))⟩,
     ⟨(some 30), none, (.bin .add 137 (.t 27) (.t 29))⟩,
     ⟨(some 11), none, (.mov (.t 30))⟩])
  (.seq (.region false [] [
     ⟨(some 31), none, (.mov (.t 11))⟩,
     ⟨(some 32), none, (.bin .and 137 (.t 31) (.v (.int .u64 4294967295)))⟩,
     ⟨(some 12), none, (.mov (.t 32))⟩])
  (.seq (.region false [] [
     ⟨(some 33), none, (.mov (.t 11))⟩,
     ⟨(some 34), none, (.bin .shr 137 (.t 33) (.v (.int .u64 32)))⟩,
     ⟨(some 13), none, (.mov (.t 34))⟩])
  (.seq (.region false [] [
     ⟨(some 35), none, (.mov (.t 12))⟩,
     ⟨(some 36), none, (.mov (.t 6))⟩,
     ⟨(some 37), none, (.mov (.t 9))⟩,
     ⟨(some 38), none, (.bin .mul 137 (.t 36) (.t 37))⟩,
     ⟨(some 39), none, (.bin .add 137 (.t 35) (.t 38))⟩,
     ⟨(some 12), none, (.mov (.t 39))⟩])
  (.seq (.region false [] [
     ⟨(some 40), none, (.mov (.t 7))⟩,
     ⟨(some 41), none, (.mov (.t 9))⟩,
     ⟨(some 42), none, (.bin .mul 137 (.t 40) (.t 41))⟩,
     ⟨(some 43), none, (.mov (.t 13))⟩,
     ⟨(some 44), none, (.bin .add 137 (.t 42) (.t 43))⟩,
     ⟨(some 45), none, (.mov (.t 12))⟩,
     ⟨(some 46), none, (.bin .shr 137 (.t 45) (.v (.int .u64 32)))⟩,
     ⟨(some 47), none, (.bin .add 137 (.t 44) (.t 46))⟩,
     ⟨(some 4), none, (.mov (.t 47))⟩])
  (.seq (.region false [] [
     ⟨(some 48), none, (.mov (.t 0))⟩,
     ⟨(some 49), none, (.mov (.t 1))⟩,
     ⟨(some 50), none, (.bin .mul 137 (.t 48) (.t 49))⟩,
     ⟨(some 5), none, (.mov (.t 50))⟩])
  .ret))))))))))))
theorem k77 : FnIs Try.prog 77 51 [.t 4, .t 5] a77 := ⟨_, _, Try.func77, rfl, by kernel_rfl, by kernel_rfl, rfl⟩
/- slices.Repeat[[]int,int] -/
def a67 : ACode :=
  (.seq (.region false [] [
     ⟨(some 4), none, (.mov (.v (.slice none 0 0)))⟩])
  (.seq (.seq (.region false [] [
     ⟨(some 9), none, (.mov (.t 1))⟩,
     ⟨(some 10), none, (.bin .lss 3 (.t 9) (.v (.int .i64 0)))⟩])
  (.cond (.t 10)
    (.region false [] [
       ⟨(some 11), none, (.bad none [])⟩,
       ⟨none, none, (.bad none [])⟩])
    .skip))
  (.seq (.region false [] [
     ⟨(some 13), none, (.mov (.t 0))⟩,
     ⟨(some 14), none, (.len (.t 13))⟩,
     ⟨(some 15), none, (.itoi .u64 (.t 14))⟩,
     ⟨(some 16), none, (.mov (.t 1))⟩,
     ⟨(some 17), none, (.itoi .u64 (.t 16))⟩,
     ⟨(some 18), none, (.call 73 [(.t 15), (.t 17)])⟩,
     ⟨(some 12), none, (.mov (.t 18))⟩,
     ⟨(some 19), none, (.ext 0 (.t 12))⟩,
     ⟨(some 20), none, (.ext 1 (.t 12))⟩,
     ⟨(some 5), none, (.mov (.t 19))⟩,
     ⟨(some 6), none, (.mov (.t 20))⟩])
  (.seq (.seq (.region false [] [
     ⟨(some 21), none, (.mov (.t 5))⟩,
     ⟨(some 22), none, (.bin .gtr 130 (.t 21) (.v (.int .u64 0)))⟩,
     ⟨(some 23), none, (.mov (.t 22))⟩,
     ⟨(some 24), (some (23, false)), (.mov (.t 6))⟩,
     ⟨(some 25), (some (23, false)), (.bin .gtr 130 (.t 24) (.v (.int .u64 9223372036854775807)))⟩,
     ⟨(some 26), none, (.pick (.t 23) (.v (.bool true)) (.t 25))⟩])
  (.cond (.t 26)
    (.region false [] [
       ⟨(some 27), none, (.bad none [])⟩,
       ⟨none, none, (.bad none [])⟩])
    .skip))
  (.seq (.region false [] [
     ⟨(some 28), none, (.mov (.t 6))⟩,
     ⟨(some 29), none, (.itoi .i64 (.t 28))⟩,
     ⟨(some 30), none, (.mksl 3 1 8 (.int .i64 0) (.t 29) (.t 29))⟩,
     ⟨(some 7), none, (.mov (.t 30))⟩])
  (.seq (.region false [] [
     ⟨(some 31), none, (.mov (.t 7))⟩,
     ⟨(some 32), none, (.mov (.t 0))⟩,
     ⟨(some 33), none, (.copy 1 (.t 31) (.t 32))⟩,
     ⟨(some 8), none, (.mov (.t 33))⟩])
  (.seq (.block 0 (.loop (.seq (.seq (.region false [] [
       ⟨(some 34), none, (.mov (.t 8))⟩,
       ⟨(some 35), none, (.mov (.t 7))⟩,
       ⟨(some 36), none, (.len (.t 35))⟩,
       ⟨(some 37), none, (.bin .lss 3 (.t 34) (.t 36))⟩])
    (.cond (.t 37)
      .skip
      (.exit 0)))
    (.block 1 (.region true [[], [], [], [1, 2], [], [], [4, 5], [3, 6], [0, 7], [8, 7, 0, 1, 2, 3, 4, 5, 6, 7, 8]] [
        ⟨(some 38), none, (.mov (.t 8))⟩,
        ⟨(some 39), none, (.mov (.t 7))⟩,
        ⟨(some 40), none, (.mov (.t 8))⟩,
        ⟨(some 41), none, (.slc 1 (.t 39) (some (.t 40)) none none)⟩,
        ⟨(some 42), none, (.mov (.t 7))⟩,
        ⟨(some 43), none, (.mov (.t 8))⟩,
        ⟨(some 44), none, (.slc 1 (.t 42) none (some (.t 43)) none)⟩,
        ⟨(some 45), none, (.copy 1 (.t 41) (.t 44))⟩,
        ⟨(some 46), none, (.bin .add 3 (.t 38) (.t 45))⟩,
        ⟨(some 8), none, (.mov (.t 46))⟩])))))
  (.seq (.region false [] [
     ⟨(some 47), none, (.mov (.t 7))⟩,
     ⟨(some 4), none, (.mov (.t 47))⟩])
  .ret))))))))
theorem k67 : FnIs Try.prog 67 48 [.t 4] a67 := ⟨_, _, Try.func67, rfl, by kernel_rfl, by kernel_rfl, rfl⟩
/- gridhall/graph.Count -/
def a70 : ACode :=
  (.seq (.region false [] [
     ⟨(some 2), none, (.mov (.v (.int .i64 0)))⟩])
  (.seq (.region false [] [
     ⟨(some 3), none, (.mov (.v (.int .i64 0)))⟩])
  (.seq (.seq (.region false [] [
     ⟨(some 6), none, (.mov (.t 0))⟩,
     ⟨(some 7), none, (.len (.t 6))⟩,
     ⟨(some 8), none, (.mov (.v (.int .i64 0)))⟩])
  (.block 0 (.loop (.seq (.region false [] [
       ⟨(some 9), none, (.bin .lss 3 (.t 8) (.t 7))⟩])
    (.seq (.cond (.t 9)
      .skip
      (.exit 0))
    (.seq (.block 1 (.seq (.region false [] [
        ⟨(some 10), none, (.idx 1 (.t 6) (.t 8))⟩,
        ⟨(some 11), none, (.load 1 false (.t 10))⟩,
        ⟨(some 5), none, (.mov (.t 11))⟩])
     (.region false [] [
        ⟨(some 12), none, (.mov (.t 3))⟩,
        ⟨(some 13), none, (.mov (.t 5))⟩,
        ⟨(some 14), none, (.bin .add 3 (.t 13) (.v (.int .i64 1)))⟩,
        ⟨(some 15), none, (.mxi (.t 12) (.t 14))⟩,
        ⟨(some 3), none, (.mov (.t 15))⟩])))
    (.region false [] [
       ⟨(some 16), none, (.bin .add 3 (.t 8) (.v (.int .i64 1)))⟩,
       ⟨(some 8), none, (.mov (.t 16))⟩])))))))
  (.seq (.region false [] [
     ⟨(some 17), none, (.mov (.t 3))⟩,
     ⟨(some 2), none, (.mov (.t 17))⟩])
  .ret))))
theorem k70 : FnIs Try.prog 70 18 [.t 2] a70 := ⟨_, _, Try.func70, rfl, by kernel_rfl, by kernel_rfl, rfl⟩

theorem le24 {L : Nat} (h : L ≤ 24) : L = 0 ∨ L = 1 ∨ L = 2 ∨ L = 3 ∨ L = 4 ∨ L = 5 ∨ L = 6 ∨ L = 7 ∨ L = 8 ∨ L = 9 ∨ L = 10 ∨ L = 11 ∨ L = 12 ∨ L = 13 ∨ L = 14 ∨ L = 15 ∨ L = 16 ∨ L = 17 ∨ L = 18 ∨ L = 19 ∨ L = 20 ∨ L = 21 ∨ L = 22 ∨ L = 23 ∨ L = 24 := by omega
abbrev U (n : Int) : AV := .val (.int .u64 n)
theorem s77 (L : Nat) (hL : L ≤ 24) : Aw.Spec Try.prog 77 [] [U 1, U (L : Nat)] (Gives (· = .tup [U 0, U (L : Nat)])) := by
  rcases le24 hL with rfl | rfl | rfl | rfl | rfl | rfl | rfl | rfl | rfl | rfl | rfl | rfl | rfl | rfl | rfl | rfl | rfl | rfl | rfl | rfl | rfl | rfl | rfl | rfl | rfl
  all_goals
    refine Aw.Spec.givesD k77 mixed rfl rfl rfl fun E hn hnp hp => ?_
    unfold a77
    simp (config := { maxSteps := 2000000 }) only [go_sem, ↓reduceIte, Int.reduceToNat, Nat.reduceMul, Int.reduceBEq, Int.reduceBNe, Nat.reduceBEq, Nat.reduceAdd, Nat.reduceSub, Nat.reduceLeDiff, Nat.reduceEqDiff, Nat.reduceLT, reduceCtorEq]
    repeat' refine And.intro ?_ ?_
    all_goals first | kernel_rfl | decide
theorem s73 (L : Nat) (hL : L ≤ 24) : Aw.Spec Try.prog 73 [] [U 1, U (L : Nat)] (Gives (· = .tup [U 0, U (L : Nat)])) := by
  refine Aw.Spec.givesD k73 mixed rfl rfl rfl fun E hn hnp hp => ?_
  unfold a73
  simp (config := { maxSteps := 2000000 }) only [go_sem, ↓reduceIte, Int.reduceToNat, Nat.reduceMul, Int.reduceBEq, Int.reduceBNe, Nat.reduceBEq, Nat.reduceAdd, Nat.reduceSub, Nat.reduceLeDiff, Nat.reduceEqDiff, Nat.reduceLT, reduceCtorEq]
  refine AWp.cond (b := false) rfl (fun h => by cases h) fun _ => ?_
  refine AWp.ofD [] [] hn mixed rfl ?_
  simp (config := { maxSteps := 2000000 }) only [go_sem, ↓reduceIte, Int.reduceToNat, Nat.reduceMul, Int.reduceBEq, Int.reduceBNe, Nat.reduceBEq, Nat.reduceAdd, Nat.reduceSub, Nat.reduceLeDiff, Nat.reduceEqDiff, Nat.reduceLT, reduceCtorEq]
  (refine AWpL.calle (s77 L hL) rfl (by rw [hn]; rfl) (by simp (config := { maxSteps := 2000000 }) only [go_sem, ↓reduceIte, Int.reduceToNat, Nat.reduceMul, Int.reduceBEq, Int.reduceBNe, Nat.reduceBEq, Nat.reduceAdd, Nat.reduceSub, Nat.reduceLeDiff, Nat.reduceEqDiff, Nat.reduceLT, reduceCtorEq]) (AWpL.ofM hn rfl ?_); simp (config := { maxSteps := 2000000 }) only [go_sem, ↓reduceIte, Int.reduceToNat, Nat.reduceMul, Int.reduceBEq, Int.reduceBNe, Nat.reduceBEq, Nat.reduceAdd, Nat.reduceSub, Nat.reduceLeDiff, Nat.reduceEqDiff, Nat.reduceLT, reduceCtorEq])
theorem over_rep {α : Type} {x y : α} {n N : Nat} (h : n ≤ N) : (List.replicate n x ++ List.replicate (N - n) y).take n ++ ((List.replicate (min n (N - n)) x) ++ (List.replicate n x ++ List.replicate (N - n) y).drop (n + min n (N - n))) = List.replicate (n + min n (N - n)) x ++ List.replicate (N - (n + min n (N - n))) y := by
  rw [List.take_left' (by simp), List.drop_append, List.drop_of_length_le (by simp), List.nil_append, List.length_replicate, List.drop_replicate, ← List.append_assoc, List.replicate_append_replicate]
  congr 2; omega
set_option maxRecDepth 20000 in
theorem s67 (nl fl) (N : Nat) (hN : N ≤ 24) : Aw.Spec Try.prog 67 [] [.imm nl fl 1 [[I (-1)]], I (N : Nat)] (fun rg v => rg = [.arr 3 1 (List.replicate (N) [I (-1)])] ∧ v = .hnd 0 0 (N) (N) true) := by
  refine Aw.Spec.regsD k67 mixed rfl rfl rfl fun E hn hnp hp => ?_
  unfold a67
  have pin : ∀ r, E.pin r = none := fun r => hp.none hnp (Nat.zero_le _)
  have e1 : decide (((N : Nat) : Int) < 0) = false := decide_eq_false (by omega)
  have e2 : IntKind.u64.wrap ((N : Nat) : Int) = ((N : Nat) : Int) := IntWalk.u64_in _ ⟨by omega, by omega⟩
  have e3 : IntKind.u64.wrap 1 = 1 := by decide +kernel
  simp (config := { maxSteps := 2000000 }) only [go_sem, ↓reduceIte, Int.reduceToNat, Nat.reduceMul, Int.reduceBEq, Int.reduceBNe, Nat.reduceBEq, Nat.reduceAdd, Nat.reduceSub, Nat.reduceLeDiff, Nat.reduceEqDiff, Nat.reduceLT, reduceCtorEq, e1, e2, e3]
  (refine AWpL.calle (s73 N hN) rfl (by rw [hn]; rfl) (by simp (config := { maxSteps := 2000000 }) only [go_sem, ↓reduceIte, Int.reduceToNat, Nat.reduceMul, Int.reduceBEq, Int.reduceBNe, Nat.reduceBEq, Nat.reduceAdd, Nat.reduceSub, Nat.reduceLeDiff, Nat.reduceEqDiff, Nat.reduceLT, reduceCtorEq]) (AWpL.ofM hn rfl ?_); simp (config := { maxSteps := 2000000 }) only [go_sem, ↓reduceIte, Int.reduceToNat, Nat.reduceMul, Int.reduceBEq, Int.reduceBNe, Nat.reduceBEq, Nat.reduceAdd, Nat.reduceSub, Nat.reduceLeDiff, Nat.reduceEqDiff, Nat.reduceLT, reduceCtorEq])
  have e4 : decide ((0 : Int) > 0) = false := rfl
  have e5 : decide (((N : Nat) : Int) > 9223372036854775807) = false := decide_eq_false (by omega)
  have e6 : IntKind.i64.wrap ((N : Nat) : Int) = ((N : Nat) : Int) := w64 (by omega) (by omega)
  simp (config := { maxSteps := 2000000 }) only [go_sem, ↓reduceIte, Int.reduceToNat, Nat.reduceMul, Int.reduceBEq, Int.reduceBNe, Nat.reduceBEq, Nat.reduceAdd, Nat.reduceSub, Nat.reduceLeDiff, Nat.reduceEqDiff, Nat.reduceLT, reduceCtorEq, e4, e5, e6, Bool.or_self]
  (repeat (refine And.intro (by first | omega | (refine ⟨by omega, by omega⟩) | (refine ⟨by omega, by omega, by omega⟩) | (simp only [List.length_map, List.length_range, List.length_append, List.length_cons, List.length_nil, List.length_replicate, List.length_set]; omega) | (simp; omega) | (intro hgd; cases hgd) | (intro hgd; refine ⟨hgd, ?_⟩; first | omega | (refine ⟨by omega, by omega⟩) | (simp; omega))) ?_))
  rcases Nat.eq_zero_or_pos N with rfl | hpos
  · refine AWpL.copy0 (ys := [[I (-1)]]) rfl rfl rfl (by rw [hn]; rfl) trivial (AWpL.ofM hn rfl ?_)
    simp (config := { maxSteps := 2000000 }) only [go_sem, ↓reduceIte, Int.reduceToNat, Nat.reduceMul, Int.reduceBEq, Int.reduceBNe, Nat.reduceBEq, Nat.reduceAdd, Nat.reduceSub, Nat.reduceLeDiff, Nat.reduceEqDiff, Nat.reduceLT, reduceCtorEq, Int.natCast_zero]
    refine AWp.loop (fun k s => k = 0 ∧ Weak E s ⟨[(7, .hnd 0 0 0 0 true), (8, I 0)], [.arr 3 1 []]⟩) (n := 0)
      ⟨rfl, weak_to [0] hp hnp rfl (by simp (config := { maxSteps := 2000000 }) only [go_sem, ↓reduceIte, Int.reduceToNat, Nat.reduceMul, Int.reduceBEq, Int.reduceBNe, Nat.reduceBEq, Nat.reduceAdd, Nat.reduceSub, Nat.reduceLeDiff, Nat.reduceEqDiff, Nat.reduceLT, reduceCtorEq, Aw.pos]) (by simp (config := { maxSteps := 2000000 }) only [go_sem, ↓reduceIte, Int.reduceToNat, Nat.reduceMul, Int.reduceBEq, Int.reduceBNe, Nat.reduceBEq, Nat.reduceAdd, Nat.reduceSub, Nat.reduceLeDiff, Nat.reduceEqDiff, Nat.reduceLT, reduceCtorEq, Aw.renR, Aw.pos] <;> rfl)⟩ ?_
    rintro k s ⟨rfl, hw⟩
    refine AWp.weak hw (AWp.ofD [] [] hn mixed rfl ?_)
    simp (config := { maxSteps := 2000000 }) only [go_sem, ↓reduceIte, Int.reduceToNat, Nat.reduceMul, Int.reduceBEq, Int.reduceBNe, Nat.reduceBEq, Nat.reduceAdd, Nat.reduceSub, Nat.reduceLeDiff, Nat.reduceEqDiff, Nat.reduceLT, reduceCtorEq]
    refine ⟨fun h => by simp at h, fun _ => ?_⟩
    refine Retn.ret (π := [0]) hp hnp ⟨rfl, ?_⟩
    simp (config := { maxSteps := 2000000 }) only [go_sem, ↓reduceIte, Int.reduceToNat, Nat.reduceMul, Int.reduceBEq, Int.reduceBNe, Nat.reduceBEq, Nat.reduceAdd, Nat.reduceSub, Nat.reduceLeDiff, Nat.reduceEqDiff, Nat.reduceLT, reduceCtorEq, Aw.renR, Aw.pos]
    rfl
  refine AWpL.copy (r := 0) (els := List.replicate N [I 0]) (ys := [[I (-1)]]) rfl rfl rfl rfl (by rw [hn]; rfl) trivial (by simp) (fun el hm y hy => by
    rw [List.mem_singleton.1 (List.mem_of_mem_take hm)] at hy
    rw [List.mem_singleton.1 hy]; rfl) (by omega) (AWpL.ofM hn rfl ?_)
  have h1 : overEls (List.replicate N [I 0]) 0 ([[I (-1)]].take N) = List.replicate (min 1 N) [I (-1)] ++ List.replicate (N - min 1 N) [I 0] := by
    rw [List.take_of_length_le (by show 1 ≤ N; omega), show min 1 N = 1 by omega]
    unfold overEls
    simp
  rw [h1]
  simp (config := { maxSteps := 2000000 }) only [go_sem, ↓reduceIte, Int.reduceToNat, Nat.reduceMul, Int.reduceBEq, Int.reduceBNe, Nat.reduceBEq, Nat.reduceAdd, Nat.reduceSub, Nat.reduceLeDiff, Nat.reduceEqDiff, Nat.reduceLT, reduceCtorEq]
  refine AWp.loop (fun k s => ∃ n : Nat, n + k = N ∧ (0 < n ∨ N = 0) ∧ Weak E s ⟨[(7, .hnd 0 0 N N true), (8, I n)], [.arr 3 1 (List.replicate n [I (-1)] ++ List.replicate (N - n) [I 0])]⟩) (n := N - min 1 N)
    ⟨min 1 N, by omega, by omega, weak_to [0] hp hnp rfl (by simp (config := { maxSteps := 2000000 }) only [go_sem, ↓reduceIte, Int.reduceToNat, Nat.reduceMul, Int.reduceBEq, Int.reduceBNe, Nat.reduceBEq, Nat.reduceAdd, Nat.reduceSub, Nat.reduceLeDiff, Nat.reduceEqDiff, Nat.reduceLT, reduceCtorEq, Aw.pos, Int.natCast_one]) (by simp (config := { maxSteps := 2000000 }) only [go_sem, ↓reduceIte, Int.reduceToNat, Nat.reduceMul, Int.reduceBEq, Int.reduceBNe, Nat.reduceBEq, Nat.reduceAdd, Nat.reduceSub, Nat.reduceLeDiff, Nat.reduceEqDiff, Nat.reduceLT, reduceCtorEq, Aw.renR, Aw.pos])⟩ ?_
  rintro k s ⟨n, hnk, hn0, hw⟩
  refine AWp.weak hw (AWp.ofD [] [] hn mixed rfl ?_)
  rcases Nat.lt_or_ge n N with hlt | hge
  · have e0 : decide ((n : Int) < (N : Int)) = true := decide_eq_true (by omega)
    simp (config := { maxSteps := 2000000 }) only [go_sem, ↓reduceIte, Int.reduceToNat, Nat.reduceMul, Int.reduceBEq, Int.reduceBNe, Nat.reduceBEq, Nat.reduceAdd, Nat.reduceSub, Nat.reduceLeDiff, Nat.reduceEqDiff, Nat.reduceLT, reduceCtorEq, e0]
    refine AWp.plan (.take 1 [true, false, true, false, true, true, true, false, false, false] (.take 2 [true, true, false, false, true, true, true, false, false, false] (.take 3 [true, true, true, false, true, true, true, false, false, false] (.take 4 [true, true, true, true, false, true, false, false, false, false] (.take 5 [true, true, true, true, true, false, false, false, false, false] (.take 6 [true, true, true, true, true, true, false, false, false, false] (.two 0 (.one 7 (.take 8 [true, true, true, true, true, true, true, true, false, false] (.take 9 [true, true, true, true, true, true, true, true, true, false] .done))) 7 (.take 0 [false, true, true, true, true, true, true, true, false, false] (.take 8 [true, true, true, true, true, true, true, true, false, false] (.take 9 [true, true, true, true, true, true, true, true, true, false] .done)))))))))) [true, true, true, true, true, true, true, false, true, true] mixed hn rfl rfl ?_
    simp (config := { maxSteps := 2000000 }) only [go_sem, ↓reduceIte, Int.reduceToNat, Nat.reduceMul, Int.reduceBEq, Int.reduceBNe, Nat.reduceBEq, Nat.reduceAdd, Nat.reduceSub, Nat.reduceLeDiff, Nat.reduceEqDiff, Nat.reduceLT, reduceCtorEq]
    refine ⟨by omega, by omega, ?_⟩
    have hys : ((List.replicate n [I (-1)] ++ List.replicate (N - n) [I 0]).take n) = List.replicate n [I (-1)] := List.take_left' (by simp)
    have hy2 : (List.replicate n [I (-1)]).take (N - n) = List.replicate (min n (N - n)) [I (-1)] := by rw [List.take_replicate, Nat.min_comm]
    have hov : overEls (List.replicate n [I (-1)] ++ List.replicate (N - n) [I 0]) n (List.replicate (min n (N - n)) [I (-1)]) = List.replicate (n + min n (N - n)) [I (-1)] ++ List.replicate (N - (n + min n (N - n))) [I 0] := by
      unfold overEls
      rw [List.length_replicate]
      exact over_rep (by omega)
    have hw2 : IntKind.i64.wrap ((n : Int) + ((min n (N - n) : Nat) : Int)) = ((n + min n (N - n) : Nat) : Int) := by rw [w64 (by omega) (by omega)]; omega
    refine ⟨?_, ?_⟩
    all_goals
      refine AOne.rule ?_
      refine AWpL.copy (r := 0) (els := List.replicate n [I (-1)] ++ List.replicate (N - n) [I 0]) (ys := List.replicate n [I (-1)]) (ob := 0 + n ≤ (List.replicate n [I (-1)] ++ List.replicate (N - n) [I 0]).length) rfl rfl (by show some (((List.replicate n [I (-1)] ++ List.replicate (N - n) [I 0]).drop 0).take n, _) = _; rw [List.drop_zero, hys]) rfl (by rw [hn]; rfl) (by simp only [List.length_append, List.length_replicate]; omega) (by simp only [List.length_append, List.length_replicate]; omega) (fun el hm y hy => by
        rw [List.eq_of_mem_replicate (List.mem_of_mem_take hm)] at hy
        rw [List.mem_singleton.1 hy]; rfl) (by omega) (AWpL.ofM hn rfl ?_)
      rw [hy2, hov]
      simp (config := { maxSteps := 2000000 }) only [go_sem, ↓reduceIte, Int.reduceToNat, Nat.reduceMul, Int.reduceBEq, Int.reduceBNe, Nat.reduceBEq, Nat.reduceAdd, Nat.reduceSub, Nat.reduceLeDiff, Nat.reduceEqDiff, Nat.reduceLT, reduceCtorEq, List.length_replicate, hw2]
      exact ⟨k - min n (N - n), by omega, n + min n (N - n), by omega, by omega, weak_to [0] hp hnp rfl (by simp (config := { maxSteps := 2000000 }) only [go_sem, ↓reduceIte, Int.reduceToNat, Nat.reduceMul, Int.reduceBEq, Int.reduceBNe, Nat.reduceBEq, Nat.reduceAdd, Nat.reduceSub, Nat.reduceLeDiff, Nat.reduceEqDiff, Nat.reduceLT, reduceCtorEq, Aw.pos]) (by simp (config := { maxSteps := 2000000 }) only [go_sem, ↓reduceIte, Int.reduceToNat, Nat.reduceMul, Int.reduceBEq, Int.reduceBNe, Nat.reduceBEq, Nat.reduceAdd, Nat.reduceSub, Nat.reduceLeDiff, Nat.reduceEqDiff, Nat.reduceLT, reduceCtorEq, Aw.renR, Aw.pos])⟩
  · have e0 : decide ((n : Int) < (N : Int)) = false := decide_eq_false (by omega)
    obtain rfl : n = N := by omega
    simp (config := { maxSteps := 2000000 }) only [go_sem, ↓reduceIte, Int.reduceToNat, Nat.reduceMul, Int.reduceBEq, Int.reduceBNe, Nat.reduceBEq, Nat.reduceAdd, Nat.reduceSub, Nat.reduceLeDiff, Nat.reduceEqDiff, Nat.reduceLT, reduceCtorEq, e0, Nat.sub_self, List.replicate_zero, List.append_nil]
    refine Retn.ret (π := [0]) hp hnp ⟨rfl, ?_⟩
    simp (config := { maxSteps := 2000000 }) only [go_sem, ↓reduceIte, Int.reduceToNat, Nat.reduceMul, Int.reduceBEq, Int.reduceBNe, Nat.reduceBEq, Nat.reduceAdd, Nat.reduceSub, Nat.reduceLeDiff, Nat.reduceEqDiff, Nat.reduceLT, reduceCtorEq, Aw.renR, Aw.pos]
def countF (l : List Int) : Int := l.foldl (fun n p => max n (p + 1)) 0
theorem foldl_take {α β : Type} (f : β → α → β) (b : β) {l : List α} {i : Nat} (h : i < l.length) : (l.take (i + 1)).foldl f b = f ((l.take i).foldl f b) l[i] := by
  rw [take_get h, List.foldl_append]; rfl
theorem countF_nn (l : List Int) : 0 ≤ countF l := by
  unfold countF
  suffices ∀ (l : List Int) (n : Int), 0 ≤ n → 0 ≤ l.foldl (fun n p => max n (p + 1)) n from this l 0 (by decide)
  intro l
  induction l with
  | nil => intro n h; exact h
  | cons x l ih => intro n h; exact ih _ (by show 0 ≤ max n (x + 1); omega)
abbrev ic (n : Int) : List AV := [I n]
theorem s70 (nl fl) (l : List Int) (hl : l.length ≤ 1000) (hb : ∀ x ∈ l, -1 ≤ x ∧ x ≤ 1000) : Aw.Spec Try.prog 70 [] [.imm nl fl 1 (l.map ic)] (Gives (· = I (countF l))) := by
  refine Aw.Spec.givesD k70 mixed rfl rfl rfl fun E hn hnp hp => ?_
  unfold a70
  simp (config := { maxSteps := 2000000 }) only [go_sem, ↓reduceIte, Int.reduceToNat, Nat.reduceMul, Int.reduceBEq, Int.reduceBNe, Nat.reduceBEq, Nat.reduceAdd, Nat.reduceSub, Nat.reduceLeDiff, Nat.reduceEqDiff, Nat.reduceLT, reduceCtorEq]
  refine AWp.loop (fun k s => ∃ i : Nat, i + k = l.length ∧ Weak E s ⟨[(3, I (countF (l.take i))), (6, .imm nl fl 1 (l.map ic)), (7, I l.length), (8, I i)], []⟩) (n := l.length)
    ⟨0, by omega, weak_to [] hp hnp rfl (by simp (config := { maxSteps := 2000000 }) only [go_sem, ↓reduceIte, Int.reduceToNat, Nat.reduceMul, Int.reduceBEq, Int.reduceBNe, Nat.reduceBEq, Nat.reduceAdd, Nat.reduceSub, Nat.reduceLeDiff, Nat.reduceEqDiff, Nat.reduceLT, reduceCtorEq, Int.natCast_zero]; rfl) rfl⟩ ?_
  rintro k s ⟨i, hik, hw⟩
  refine AWp.weak hw (AWp.ofD [] [] hn mixed rfl ?_)
  rcases Nat.lt_or_ge i l.length with hlt | hge
  · have e0 : decide ((i : Int) < (l.length : Int)) = true := decide_eq_true (by omega)
    have e1 := getD_map ic hlt
    have e2 : IntKind.i64.wrap ((i : Int) + 1) = ((i + 1 : Nat) : Int) := by rw [w64 (by omega) (by omega)]; omega
    have hx := hb _ (List.getElem_mem hlt)
    have hf : countF (l.take (i + 1)) = max (countF (l.take i)) (l[i] + 1) := foldl_take _ _ hlt
    generalize l[i] = x at *
    have e3 : IntKind.i64.wrap (x + 1) = x + 1 := w64 (by omega) (by omega)
    simp (config := { maxSteps := 2000000 }) only [go_sem, ↓reduceIte, Int.reduceToNat, Nat.reduceMul, Int.reduceBEq, Int.reduceBNe, Nat.reduceBEq, Nat.reduceAdd, Nat.reduceSub, Nat.reduceLeDiff, Nat.reduceEqDiff, Nat.reduceLT, reduceCtorEq, e0, e1, e2, e3]
    (repeat (refine And.intro (by first | omega | (refine ⟨by omega, by omega⟩) | (refine ⟨by omega, by omega, by omega⟩) | (simp only [List.length_map, List.length_range, List.length_append, List.length_cons, List.length_nil, List.length_replicate, List.length_set]; omega) | (simp; omega) | (intro hgd; cases hgd) | (intro hgd; refine ⟨hgd, ?_⟩; first | omega | (refine ⟨by omega, by omega⟩) | (simp; omega))) ?_))
    exact ⟨k - 1, by omega, i + 1, by omega, weak_to [] hp hnp rfl (by simp (config := { maxSteps := 2000000 }) only [go_sem, ↓reduceIte, Int.reduceToNat, Nat.reduceMul, Int.reduceBEq, Int.reduceBNe, Nat.reduceBEq, Nat.reduceAdd, Nat.reduceSub, Nat.reduceLeDiff, Nat.reduceEqDiff, Nat.reduceLT, reduceCtorEq, hf]) rfl⟩
  · have e0 : decide ((i : Int) < (l.length : Int)) = false := decide_eq_false (by omega)
    simp (config := { maxSteps := 2000000 }) only [go_sem, ↓reduceIte, Int.reduceToNat, Nat.reduceMul, Int.reduceBEq, Int.reduceBNe, Nat.reduceBEq, Nat.reduceAdd, Nat.reduceSub, Nat.reduceLeDiff, Nat.reduceEqDiff, Nat.reduceLT, reduceCtorEq, e0]
    rw [List.take_of_length_le hge]
end Go.Proofs.Ytmginfhlohenhaa
