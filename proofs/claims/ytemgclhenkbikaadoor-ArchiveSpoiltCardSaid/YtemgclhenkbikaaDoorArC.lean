/- Archives: events, their checks, texts and digests. -/
import Derived.Test.YtemgclhenkbikaaDoorAwZl
import Derived.Test.YtemgclhenkbikaaDoorArB
import Derived.Lib.ItoaLen
set_option linter.unusedVariables false
set_option linter.unusedSimpArgs false
namespace Go.Proofs.YtemgclhenkbikaaDoor
open Go.Proofs.YtemgclhenkbikaaDoor.Aw
attribute [local go_sem] Int.natCast_zero Int.natCast_one bne_self_eq_false beq_self_eq_true Bool.not_true Bool.not_false Option.isSome_none Option.isSome_some Aw.bkM_nil Option.getD_some Option.getD_none Nat.sub_zero Int.toNat_zero Aw.frzS Aw.frzT Aw.frzA Aw.frzL Aw.frzR Aw.frzO Aw.frzOL Aw.frzOT Aw.frzOR Aw.killS Aw.mapT Aw.mapR Aw.killM Aw.resAVs Aw.resAV Aw.quietOps Aw.wpP Aw.wpT Aw.wpS Aw.AOp.mild List.getElem?_cons_zero List.getElem?_cons_succ Bool.and_false Bool.and_self Bool.false_and Aw.opOb Aw.gdB Aw.Rnd Aw.subTm List.length_map Int.toNat_natCast and_self Aw.SeqC Aw.stops Aw.Ends Aw.looks Aw.renA Aw.renL Aw.renT Aw.renS Aw.wpO Aw.aop Aw.putTm Aw.St.ev Aw.St.put Aw.St.putO Aw.binAV Aw.intBin Aw.strBin Aw.pickAV Aw.optInt Aw.AV.strip Aw.AV.guard Aw.AV.cells Aw.gdOb Aw.AOp.opds Aw.AOp.still Aw.ptrCells Aw.St.reg Aw.fillAV Aw.fillOb Aw.elsOb Aw.splice Aw.firm Aw.cellish Aw.AV.shut Aw.shutAll Aw.Seq Aw.Blk Aw.retS_nil Aw.mapA Aw.mapL Aw.borA Aw.borOb Aw.allOb Aw.tupOf Aw.params Aw.Opd.of Array.toList Value.cells List.map_cons List.map_nil List.getD_cons_zero List.getD_cons_succ List.getD_nil List.length_cons List.length_nil List.take_succ_cons List.take_zero List.take_nil List.drop_zero List.drop_succ_cons List.drop_nil List.set_cons_zero List.set_cons_succ List.append_nil List.nil_append List.cons_append List.all_cons List.all_nil cond_false cond_true if_true if_false true_and and_true Bool.and_true Bool.true_and Option.map_some Option.map_none false_implies forall_const implies_true forall_eq imp_self Bool.cond_false_right Bool.cond_true_left beq_true beq_false Bool.not_eq_true' Bool.false_eq_true Nat.zero_add Nat.add_zero Aw.eqCells Aw.stopDraw Aw.skipS Aw.exactCap Aw.revealS Aw.srcEls Aw.srcSz
attribute [local go_sem ↓] Aw.look_nil Aw.look_ite Aw.wpL_nil Aw.wpL_op Aw.wpL_gd Aw.wpQ_nil Aw.wpQ_op Aw.wpQ_gd Aw.wpC_draw Aw.wpC_reg Aw.wpC_skip Aw.wpC_ret Aw.wpC_exit Aw.wpC_seq Aw.wpC_block Aw.wpC_loop Aw.wpC_cond Aw.stopAt_nil Aw.stopAt_cons Aw.wpD_skip Aw.wpD_ret Aw.wpD_exit Aw.wpD_region Aw.wpD_draw Aw.wpM_nil Aw.wpM_op Aw.wpM_gd Aw.wpD_seq Aw.wpD_block Aw.wpD_loop Aw.wpD_cond

/- gridhall/archive.named -/
def a45 : ACode :=
  (.seq (.region false [] [
     ⟨(some 2), none, (.mov (.v (.bool false)))⟩])
  (.seq (.seq (.region false [] [
     ⟨(some 5), none, (.mov (.t 0))⟩,
     ⟨(some 6), none, (.stb 5 (.t 5))⟩,
     ⟨(some 7), none, (.len (.t 6))⟩,
     ⟨(some 8), none, (.mov (.v (.int .i64 0)))⟩])
  (.block 0 (.loop (.seq (.region false [] [
       ⟨(some 9), none, (.bin .lss 3 (.t 8) (.t 7))⟩])
    (.seq (.cond (.t 9)
      .skip
      (.exit 0))
    (.seq (.block 1 (.seq (.region false [] [
        ⟨(some 10), none, (.mov (.t 8))⟩,
        ⟨(some 11), none, (.idx 1 (.t 6) (.t 8))⟩,
        ⟨(some 12), none, (.load 1 false (.t 11))⟩,
        ⟨(some 3), none, (.mov (.t 10))⟩,
        ⟨(some 4), none, (.mov (.t 12))⟩])
     (.seq (.region false [] [
        ⟨(some 13), none, (.mov (.t 4))⟩,
        ⟨(some 14), none, (.bin .geq 5 (.t 13) (.v (.int .u8 65)))⟩,
        ⟨(some 15), none, (.mov (.t 14))⟩,
        ⟨(some 16), (some (15, true)), (.mov (.t 4))⟩,
        ⟨(some 17), (some (15, true)), (.bin .leq 5 (.t 16) (.v (.int .u8 90)))⟩,
        ⟨(some 18), none, (.pick (.t 15) (.t 17) (.v (.bool false)))⟩,
        ⟨(some 19), none, (.mov (.t 18))⟩,
        ⟨(some 20), (some (19, false)), (.mov (.t 3))⟩,
        ⟨(some 21), (some (19, false)), (.bin .gtr 3 (.t 20) (.v (.int .i64 0)))⟩,
        ⟨(some 22), (some (19, false)), (.mov (.t 21))⟩,
        ⟨(some 23), (some (22, true)), (.mov (.t 4))⟩,
        ⟨(some 24), (some (22, true)), (.bin .geq 5 (.t 23) (.v (.int .u8 48)))⟩,
        ⟨(some 25), (some (19, false)), (.pick (.t 22) (.t 24) (.v (.bool false)))⟩,
        ⟨(some 26), (some (19, false)), (.mov (.t 25))⟩,
        ⟨(some 27), (some (26, true)), (.mov (.t 4))⟩,
        ⟨(some 28), (some (26, true)), (.bin .leq 5 (.t 27) (.v (.int .u8 57)))⟩,
        ⟨(some 29), (some (19, false)), (.pick (.t 26) (.t 28) (.v (.bool false)))⟩,
        ⟨(some 30), none, (.pick (.t 19) (.v (.bool true)) (.t 29))⟩,
        ⟨(some 31), none, (.un .not (.t 30))⟩])
     (.cond (.t 31)
       (.seq (.region false [] [
          ⟨(some 2), none, (.mov (.v (.bool false)))⟩])
       .ret)
       .skip))))
    (.region false [] [
       ⟨(some 32), none, (.bin .add 3 (.t 8) (.v (.int .i64 1)))⟩,
       ⟨(some 8), none, (.mov (.t 32))⟩])))))))
  (.seq (.region false [] [
     ⟨(some 33), none, (.mov (.t 0))⟩,
     ⟨(some 34), none, (.bin .neq 9 (.t 33) (.v (.string ⟨#[]⟩)))⟩,
     ⟨(some 35), none, (.mov (.t 34))⟩,
     ⟨(some 36), (some (35, true)), (.mov (.t 0))⟩,
     ⟨(some 37), (some (35, true)), (.lens (.t 36))⟩,
     ⟨(some 38), (some (35, true)), (.bin .leq 3 (.t 37) (.v (.int .i64 8)))⟩,
     ⟨(some 39), none, (.pick (.t 35) (.t 38) (.v (.bool false)))⟩,
     ⟨(some 2), none, (.mov (.t 39))⟩])
  .ret)))
theorem k45 : FnIs Tryd.prog 45 40 [.t 2] a45 := ⟨_, _, Tryd.func45, rfl, by kernel_rfl, by kernel_rfl, rfl⟩
/- gridhall/archive.kind -/
def a44 : ACode :=
  (.seq (.region false [] [
     ⟨(some 2), none, (.mov (.v (.bool false)))⟩])
  (.seq (.region false [] [
     ⟨(some 3), none, (.mov (.t 0))⟩,
     ⟨(some 4), none, (.bin .neq 9 (.t 3) (.v (.string ⟨#[]⟩)))⟩,
     ⟨(some 5), none, (.mov (.t 4))⟩,
     ⟨(some 6), (some (5, true)), (.mov (.t 0))⟩,
     ⟨(some 7), (some (5, true)), (.lens (.t 6))⟩,
     ⟨(some 8), (some (5, true)), (.bin .leq 3 (.t 7) (.v (.int .i64 8)))⟩,
     ⟨(some 9), none, (.pick (.t 5) (.t 8) (.v (.bool false)))⟩,
     ⟨(some 10), none, (.mov (.t 9))⟩,
     ⟨(some 11), (some (10, true)), (.mov (.t 0))⟩,
     ⟨(some 12), (some (10, true)), (.call 55 [(.t 11), (.v (.string ⟨#[97, 98, 99, 100, 101, 102, 103, 104, 105, 106, 107, 108, 109, 110, 111, 112, 113, 114, 115, 116, 117, 118, 119, 120, 121, 122]⟩))])⟩,
     ⟨(some 13), (some (10, true)), (.bin .eql 9 (.t 12) (.v (.string ⟨#[]⟩)))⟩,
     ⟨(some 14), none, (.pick (.t 10) (.t 13) (.v (.bool false)))⟩,
     ⟨(some 2), none, (.mov (.t 14))⟩])
  .ret))
theorem k44 : FnIs Tryd.prog 44 15 [.t 2] a44 := ⟨_, _, Tryd.func44, rfl, by kernel_rfl, by kernel_rfl, rfl⟩
/- gridhall/archive.Check -/
def a32 : ACode :=
  (.seq (.region false [] [
     ⟨(some 1), none, (.box 30 (.t 0))⟩,
     ⟨(some 2), none, (.mov (.v (.int .i64 0)))⟩])
  (.seq (.block 0 (.seq (.region false [] [
      ⟨(some 4), none, (.fld 0 (.t 1))⟩,
      ⟨(some 5), none, (.load 1 false (.t 4))⟩,
      ⟨(some 6), none, (.bin .lss 3 (.t 5) (.v (.int .i64 0)))⟩,
      ⟨(some 7), none, (.mov (.t 6))⟩,
      ⟨(some 8), (some (7, false)), (.fld 0 (.t 1))⟩,
      ⟨(some 9), (some (7, false)), (.load 1 false (.t 8))⟩,
      ⟨(some 10), (some (7, false)), (.bin .gtr 3 (.t 9) (.v (.int .i64 200000)))⟩,
      ⟨(some 11), none, (.pick (.t 7) (.v (.bool true)) (.t 10))⟩,
      ⟨(some 3), none, (.mov (.t 11))⟩])
   (.cond (.t 3)
     (.seq (.region false [] [
        ⟨(some 2), none, (.mov (.v (.int .i64 12)))⟩])
     .ret)
     (.seq (.region false [] [
        ⟨(some 13), none, (.fld 1 (.t 1))⟩,
        ⟨(some 14), none, (.load 1 false (.t 13))⟩,
        ⟨(some 15), none, (.call 44 [(.t 14)])⟩,
        ⟨(some 16), none, (.un .not (.t 15))⟩,
        ⟨(some 17), none, (.mov (.t 16))⟩,
        ⟨(some 18), (some (17, false)), (.fld 2 (.t 1))⟩,
        ⟨(some 19), (some (17, false)), (.load 1 false (.t 18))⟩,
        ⟨(some 20), (some (17, false)), (.call 45 [(.t 19)])⟩,
        ⟨(some 21), (some (17, false)), (.un .not (.t 20))⟩,
        ⟨(some 22), none, (.pick (.t 17) (.v (.bool true)) (.t 21))⟩,
        ⟨(some 12), none, (.mov (.t 22))⟩])
     (.cond (.t 12)
       (.seq (.region false [] [
          ⟨(some 2), none, (.mov (.v (.int .i64 6)))⟩])
       .ret)
       (.seq (.region false [] [
          ⟨(some 24), none, (.fld 3 (.t 1))⟩,
          ⟨(some 25), none, (.load 1 false (.t 24))⟩,
          ⟨(some 26), none, (.bin .lss 3 (.t 25) (.v (.int .i64 (-1000000))))⟩,
          ⟨(some 27), none, (.mov (.t 26))⟩,
          ⟨(some 28), (some (27, false)), (.fld 3 (.t 1))⟩,
          ⟨(some 29), (some (27, false)), (.load 1 false (.t 28))⟩,
          ⟨(some 30), (some (27, false)), (.bin .gtr 3 (.t 29) (.v (.int .i64 1000000)))⟩,
          ⟨(some 31), none, (.pick (.t 27) (.v (.bool true)) (.t 30))⟩,
          ⟨(some 23), none, (.mov (.t 31))⟩])
       (.cond (.t 23)
         (.seq (.region false [] [
            ⟨(some 2), none, (.mov (.v (.int .i64 4)))⟩])
         .ret)
         .skip)))))))
  (.seq (.region false [] [
     ⟨(some 2), none, (.mov (.v (.int .i64 0)))⟩])
  .ret)))
theorem k32 : FnIs Tryd.prog 32 32 [.t 2] a32 := ⟨_, _, Tryd.func32, rfl, by kernel_rfl, by kernel_rfl, rfl⟩
/- gridhall/archive.line -/
def a31 : ACode :=
  (.seq (.region false [] [
     ⟨(some 1), none, (.box 30 (.t 0))⟩,
     ⟨(some 2), none, (.mov (.v (.string ⟨#[]⟩)))⟩])
  (.seq (.region true [[], [0], [1], [2], [], [4], [3, 5], [6], [], [8], [7, 9], [10], [], [12], [13, 2], [11, 14], [15, 14, 0, 1, 2, 3, 4, 5, 6, 7, 8, 9, 10, 11, 12, 13, 14, 15]] [
     ⟨(some 3), none, (.fld 0 (.t 1))⟩,
     ⟨(some 4), none, (.load 1 false (.t 3))⟩,
     ⟨(some 5), none, (.call 43 [(.t 4)])⟩,
     ⟨(some 6), none, (.bin .add 9 (.t 5) (.v (.string ⟨#[32]⟩)))⟩,
     ⟨(some 7), none, (.fld 1 (.t 1))⟩,
     ⟨(some 8), none, (.load 1 false (.t 7))⟩,
     ⟨(some 9), none, (.bin .add 9 (.t 6) (.t 8))⟩,
     ⟨(some 10), none, (.bin .add 9 (.t 9) (.v (.string ⟨#[32]⟩)))⟩,
     ⟨(some 11), none, (.fld 2 (.t 1))⟩,
     ⟨(some 12), none, (.load 1 false (.t 11))⟩,
     ⟨(some 13), none, (.bin .add 9 (.t 10) (.t 12))⟩,
     ⟨(some 14), none, (.bin .add 9 (.t 13) (.v (.string ⟨#[32]⟩)))⟩,
     ⟨(some 15), none, (.fld 3 (.t 1))⟩,
     ⟨(some 16), none, (.load 1 false (.t 15))⟩,
     ⟨(some 17), none, (.call 43 [(.t 16)])⟩,
     ⟨(some 18), none, (.bin .add 9 (.t 14) (.t 17))⟩,
     ⟨(some 2), none, (.mov (.t 18))⟩])
  .ret))
theorem k31 : FnIs Tryd.prog 31 19 [.t 2] a31 := ⟨_, _, Tryd.func31, rfl, by kernel_rfl, by kernel_rfl, rfl⟩
/- gridhall/archive.chain -/
def a30 : ACode :=
  (.seq (.region false [] [
     ⟨(some 4), none, (.mov (.v (.int .u64 0)))⟩])
  (.seq (.seq (.region false [] [
     ⟨(some 7), none, (.mov (.t 1))⟩,
     ⟨(some 8), none, (.stb 5 (.t 7))⟩,
     ⟨(some 9), none, (.len (.t 8))⟩,
     ⟨(some 10), none, (.mov (.v (.int .i64 0)))⟩])
  (.block 0 (.loop (.seq (.region false [] [
       ⟨(some 11), none, (.bin .lss 3 (.t 10) (.t 9))⟩])
    (.seq (.cond (.t 11)
      .skip
      (.exit 0))
    (.seq (.block 1 (.seq (.region false [] [
        ⟨(some 12), none, (.idx 1 (.t 8) (.t 10))⟩,
        ⟨(some 13), none, (.load 1 false (.t 12))⟩,
        ⟨(some 6), none, (.mov (.t 13))⟩])
     (.region false [] [
        ⟨(some 14), none, (.mov (.t 0))⟩,
        ⟨(some 15), none, (.mov (.t 6))⟩,
        ⟨(some 16), none, (.itoi .u64 (.t 15))⟩,
        ⟨(some 17), none, (.bin .xor 42 (.t 14) (.t 16))⟩,
        ⟨(some 18), none, (.bin .mul 42 (.t 17) (.v (.int .u64 1099511628211)))⟩,
        ⟨(some 0), none, (.mov (.t 18))⟩])))
    (.region false [] [
       ⟨(some 19), none, (.bin .add 3 (.t 10) (.v (.int .i64 1)))⟩,
       ⟨(some 10), none, (.mov (.t 19))⟩])))))))
  (.seq (.region false [] [
     ⟨(some 20), none, (.mov (.t 0))⟩,
     ⟨(some 21), none, (.bin .xor 42 (.t 20) (.v (.int .u64 10)))⟩,
     ⟨(some 22), none, (.bin .mul 42 (.t 21) (.v (.int .u64 1099511628211)))⟩,
     ⟨(some 4), none, (.mov (.t 22))⟩])
  .ret)))
theorem k30 : FnIs Tryd.prog 30 23 [.t 4] a30 := ⟨_, _, Tryd.func30, rfl, by kernel_rfl, by kernel_rfl, rfl⟩

set_option maxRecDepth 20000 in
theorem s45 (x : ByteArray) (hx : x.size ≤ 9223372036854775807) : Aw.Spec Tryd.prog 45 [] [S x] (Gives (· = B (nm 8 x))) := by
  refine Aw.Spec.givesD k45 mixed rfl rfl rfl fun E hn hnp hp => ?_
  unfold a45
  simp (config := { maxSteps := 2000000 }) only [go_sem, ↓reduceIte, Int.reduceToNat, Nat.reduceMul, Int.reduceBEq, Int.reduceBNe, Nat.reduceBEq, Nat.reduceAdd, Nat.reduceSub, Nat.reduceLeDiff, Nat.reduceEqDiff, Nat.reduceLT, reduceCtorEq]
  have hsz : x.data.toList.length = x.size := by rw [Array.length_toList]; rfl
  refine AWp.loop (fun k s => ∃ i : Nat, i + k = x.data.toList.length ∧ nmOk 0 x.data.toList = nmOk i (x.data.toList.drop i) ∧ Weak E s ⟨[(0, S x), (6, .imm (some false) false 1 (x.data.toList.map fun c => [.val (.int .u8 c.toNat)])), (7, I x.data.toList.length), (8, I i)], []⟩) (n := x.data.toList.length)
    ⟨0, by omega, rfl, weak_to [] hp hnp rfl ⟨rfl, rfl, rfl, rfl, trivial⟩ rfl⟩ ?_
  rintro k s ⟨i, hi, hs, hw⟩
  refine AWp.weak hw (AWp.ofD [] [] hn mixed rfl ?_)
  rcases Nat.lt_or_ge i x.data.toList.length with hlt | hge
  · have e0 : decide ((i : Int) < (x.data.toList.length : Int)) = true := by simp; omega
    have e1 := getD_map (fun c : UInt8 => [.val (.int .u8 c.toNat)]) hlt
    have e2 : IntKind.i64.wrap ((i : Int) + 1) = ((i + 1 : Nat) : Int) := by rw [w64 (by omega) (by omega)]; omega
    have e3 : decide ((0 : Int) < (i : Int)) = decide (0 < i) := by simp
    simp (config := { maxSteps := 2000000 }) only [go_sem, ↓reduceIte, Int.reduceToNat, Nat.reduceMul, Int.reduceBEq, Int.reduceBNe, Nat.reduceBEq, Nat.reduceAdd, Nat.reduceSub, Nat.reduceLeDiff, Nat.reduceEqDiff, Nat.reduceLT, reduceCtorEq, e0, e1, e2, ge_iff_le, gt_iff_lt, e3]
    rw [nmOk_drop hlt] at hs
    generalize (decide ((65 : Int) ≤ x.data.toList[i].toNat) && decide ((x.data.toList[i].toNat : Int) ≤ 90)) = A at *
    generalize decide ((48 : Int) ≤ x.data.toList[i].toNat) = C at *
    generalize decide ((x.data.toList[i].toNat : Int) ≤ 57) = D at *
    generalize decide (0 < i) = F at *
    refine ⟨⟨by omega, by omega⟩, ?_, ?_, fun h => ?_, fun h => ?_⟩
    · exact (by decide : ∀ A F : Bool, A = false → A = false ∧ (F = true → (!A && F) = true)) A F
    · exact (by decide : ∀ A F C : Bool, A = false → A = false ∧ ((F && C) = true → (!A && (F && C)) = true)) A F C
    · have h' : (A || F && C && D) = false := by simpa using h
      unfold nm
      rw [hs, h']; rfl
    · have h' : (A || F && C && D) = true := by
        cases hX : (A || F && C && D) with
        | true => rfl
        | false => rw [hX] at h; cases h
      rw [h', Bool.true_and] at hs
      exact ⟨k - 1, by omega, i + 1, by omega, hs, weak_to [] hp hnp rfl (by simp (config := { maxSteps := 2000000 }) only [go_sem, ↓reduceIte, Int.reduceToNat, Nat.reduceMul, Int.reduceBEq, Int.reduceBNe, Nat.reduceBEq, Nat.reduceAdd, Nat.reduceSub, Nat.reduceLeDiff, Nat.reduceEqDiff, Nat.reduceLT, reduceCtorEq]) rfl⟩
  · have e0 : decide ((i : Int) < (x.data.toList.length : Int)) = false := by simp; omega
    simp (config := { maxSteps := 2000000 }) only [go_sem, ↓reduceIte, Int.reduceToNat, Nat.reduceMul, Int.reduceBEq, Int.reduceBNe, Nat.reduceBEq, Nat.reduceAdd, Nat.reduceSub, Nat.reduceLeDiff, Nat.reduceEqDiff, Nat.reduceLT, reduceCtorEq, e0]
    unfold nm
    rw [hs, List.drop_of_length_le hge]
    simp only [nmOk, Bool.true_and]

structure Ev where
  time : Int
  kind : ByteArray
  name : ByteArray
  value : Int
abbrev ec (e : Ev) : List AV := [I e.time, S e.kind, S e.name, I e.value]
abbrev ea (e : Ev) : AV := .agg (ec e)
def azS : ByteArray := ⟨#[97, 98, 99, 100, 101, 102, 103, 104, 105, 106, 107, 108, 109, 110, 111, 112, 113, 114, 115, 116, 117, 118, 119, 120, 121, 122]⟩
def trimB (s : ByteArray) : ByteArray := ⟨(Lib.trimS s.data.toList azS.data.toList).toArray⟩
theorem az_ascii : ∀ (j : Nat) b, azS.data.toList[j]? = some b → b.toNat < 128 := by
  have h : ∀ b ∈ azS.data.toList, b.toNat < 128 := by decide
  intro j b hb
  exact h b (List.mem_of_getElem? hb)
def emptyB (s : ByteArray) : Bool := s.toList == (⟨#[]⟩ : ByteArray).toList
def kindF (s : ByteArray) : Bool := !emptyB s && decide ((s.size : Int) ≤ 8) && emptyB (trimB s)
theorem s44 {Γ : List (Nat × Array Value)} (s : ByteArray) (hs : s.size ≤ 9223372036854775807) : Aw.SpecG Γ Tryd.prog 44 [] [S s] (Gives (· = B (kindF s))) := by
  refine SpecG.shut (Post := fun rg v => v = B (kindF s)) ?_ fun rg v h => by subst h; exact ⟨rfl, rfl, rfl⟩
  refine Aw.SpecG.regsW k44 rfl rfl fun E hn hnp hp hT => ?_
  unfold a44
  refine AWp.ofD [] [] hn mixed rfl ?_
  simp (config := { maxSteps := 2000000 }) only [go_sem, ↓reduceIte, Int.reduceToNat, Nat.reduceMul, Int.reduceBEq, Int.reduceBNe, Nat.reduceBEq, Nat.reduceAdd, Nat.reduceSub, Nat.reduceLeDiff, Nat.reduceEqDiff, Nat.reduceLT, reduceCtorEq]
  refine AWpL.gcalleT (y := S (trimB s)) rfl (fun hb => SpecG.at (by exact s55 (Γ := Γ) s azS hs (by decide) az_ascii) hT) rfl (by rw [hn]; rfl) (fun hb => by simp (config := { maxSteps := 2000000 }) only [go_sem, ↓reduceIte, Int.reduceToNat, Nat.reduceMul, Int.reduceBEq, Int.reduceBNe, Nat.reduceBEq, Nat.reduceAdd, Nat.reduceSub, Nat.reduceLeDiff, Nat.reduceEqDiff, Nat.reduceLT, reduceCtorEq, hb] <;> simpa using hb) (AWpL.ofM hn rfl ?_)
  simp (config := { maxSteps := 2000000 }) only [go_sem, ↓reduceIte, Int.reduceToNat, Nat.reduceMul, Int.reduceBEq, Int.reduceBNe, Nat.reduceBEq, Nat.reduceAdd, Nat.reduceSub, Nat.reduceLeDiff, Nat.reduceEqDiff, Nat.reduceLT, reduceCtorEq]
  refine Retn.ret (π := []) hp hnp ⟨rfl, ?_⟩
  simp (config := { maxSteps := 2000000 }) only [go_sem, ↓reduceIte, Int.reduceToNat, Nat.reduceMul, Int.reduceBEq, Int.reduceBNe, Nat.reduceBEq, Nat.reduceAdd, Nat.reduceSub, Nat.reduceLeDiff, Nat.reduceEqDiff, Nat.reduceLT, reduceCtorEq, Aw.renR, Aw.pos]
  rfl
def itoaB (n : Int) : ByteArray := ⟨(Lib.itoa n).toArray⟩
/-- A step of a digest. -/
def fnv (h c : Nat) : Nat := ((h ^^^ c) * 1099511628211) % 18446744073709551616
def chainL : Nat → List UInt8 → Nat
  | h, [] => h
  | h, c :: l => chainL (fnv h c.toNat) l
def chainF (h : Nat) (s : ByteArray) : Nat := fnv (chainL h s.data.toList) 10
theorem fnv_lt (h c : Nat) : fnv h c < 18446744073709551616 := Nat.mod_lt _ (by decide)
theorem xor_eq {h c : Nat} (h1 : h < 18446744073709551616) (h2 : c < 18446744073709551616) : IntKind.u64.wrap ((BitVec.ofInt 64 (h : Int) ^^^ BitVec.ofInt 64 (c : Int)).toNat : Int) = ((h ^^^ c : Nat) : Int) := by
  have e : (BitVec.ofInt 64 (h : Int) ^^^ BitVec.ofInt 64 (c : Int)).toNat = h ^^^ c := by
    rw [BitVec.toNat_xor]
    have g1 : (BitVec.ofInt 64 (h : Int)).toNat = h := by rw [BitVec.toNat_ofInt]; omega
    have g2 : (BitVec.ofInt 64 (c : Int)).toNat = c := by rw [BitVec.toNat_ofInt]; omega
    rw [g1, g2]
  have hlt : h ^^^ c < 2 ^ 64 := Nat.xor_lt_two_pow h1 h2
  rw [e, IntKind.wrap_u64]
  omega
theorem mul_eq (x : Nat) : IntKind.u64.wrap ((x : Int) * 1099511628211) = ((x * 1099511628211 % 18446744073709551616 : Nat) : Int) := by
  rw [IntKind.wrap_u64]
  omega
theorem chainL_drop {h : Nat} {l : List UInt8} {i : Nat} (hi : i < l.length) : chainL h (l.drop i) = chainL (fnv h l[i].toNat) (l.drop (i + 1)) := by
  rw [List.drop_eq_getElem_cons hi, chainL]
set_option maxRecDepth 20000 in
theorem s30 (h : Nat) (s : ByteArray) (hh : h < 18446744073709551616) (hs : s.size ≤ 9223372036854775807) : Aw.Spec Tryd.prog 30 [] [.val (.int .u64 h), S s] (Gives (· = .val (.int .u64 (chainF h s)))) := by
  refine Aw.Spec.givesD k30 mixed rfl rfl rfl fun E hn hnp hp => ?_
  unfold a30
  simp (config := { maxSteps := 2000000 }) only [go_sem, ↓reduceIte, Int.reduceToNat, Nat.reduceMul, Int.reduceBEq, Int.reduceBNe, Nat.reduceBEq, Nat.reduceAdd, Nat.reduceSub, Nat.reduceLeDiff, Nat.reduceEqDiff, Nat.reduceLT, reduceCtorEq]
  have hsz : s.data.toList.length = s.size := by rw [Array.length_toList]; rfl
  unfold chainF
  generalize s.data.toList = l at *
  refine AWp.loop (fun k st => ∃ (i g : Nat), i + k = l.length ∧ g < 18446744073709551616 ∧ chainL h l = chainL g (l.drop i) ∧ Weak E st ⟨[(0, .val (.int .u64 g)), (8, .imm (some false) false 1 (l.map fun c => [.val (.int .u8 c.toNat)])), (9, I l.length), (10, I i)], []⟩) (n := l.length)
    ⟨0, h, by omega, hh, rfl, weak_to [] hp hnp rfl (by simp (config := { maxSteps := 2000000 }) only [go_sem, ↓reduceIte, Int.reduceToNat, Nat.reduceMul, Int.reduceBEq, Int.reduceBNe, Nat.reduceBEq, Nat.reduceAdd, Nat.reduceSub, Nat.reduceLeDiff, Nat.reduceEqDiff, Nat.reduceLT, reduceCtorEq] <;> rfl) rfl⟩ ?_
  rintro k st ⟨i, g, hi, hg, hc, hw⟩
  refine AWp.weak hw (AWp.ofD [] [] hn mixed rfl ?_)
  rcases Nat.lt_or_ge i l.length with hlt | hge
  · have e0 : decide ((i : Int) < (l.length : Int)) = true := decide_eq_true (by omega)
    have e1 := getD_map (fun c : UInt8 => [AV.val (.int .u8 c.toNat)]) hlt
    have e2 : IntKind.i64.wrap ((i : Int) + 1) = ((i + 1 : Nat) : Int) := by rw [w64 (by omega) (by omega)]; rfl
    have hb := l[i].toNat_lt
    have e3 : IntKind.u64.wrap (l[i].toNat : Int) = (l[i].toNat : Int) := by rw [IntKind.wrap_u64]; omega
    rw [chainL_drop hlt] at hc
    have e4 := xor_eq hg (show l[i].toNat < 18446744073709551616 by omega)
    simp (config := { maxSteps := 2000000 }) only [go_sem, ↓reduceIte, Int.reduceToNat, Nat.reduceMul, Int.reduceBEq, Int.reduceBNe, Nat.reduceBEq, Nat.reduceAdd, Nat.reduceSub, Nat.reduceLeDiff, Nat.reduceEqDiff, Nat.reduceLT, reduceCtorEq, e0, e1, e2, e3]
    (repeat (refine And.intro (by first | omega | (refine ⟨by omega, by omega⟩) | (refine ⟨by omega, by omega, by omega⟩) | (simp only [List.length_map, List.length_range, List.length_append, List.length_cons, List.length_nil, List.length_replicate, List.length_set]; omega) | (simp; omega) | (intro hgd; cases hgd) | (intro hgd; refine ⟨hgd, ?_⟩; first | omega | (refine ⟨by omega, by omega⟩) | (simp; omega))) ?_))
    erw [e4, mul_eq]
    exact ⟨k - 1, by omega, i + 1, fnv g l[i].toNat, by omega, fnv_lt _ _, hc, weak_to [] hp hnp rfl (by simp (config := { maxSteps := 2000000 }) only [go_sem, ↓reduceIte, Int.reduceToNat, Nat.reduceMul, Int.reduceBEq, Int.reduceBNe, Nat.reduceBEq, Nat.reduceAdd, Nat.reduceSub, Nat.reduceLeDiff, Nat.reduceEqDiff, Nat.reduceLT, reduceCtorEq, e2] <;> rfl) rfl⟩
  · have e0 : decide ((i : Int) < (l.length : Int)) = false := decide_eq_false (by omega)
    rw [List.drop_of_length_le hge] at hc
    have e4 := xor_eq hg (show 10 < 18446744073709551616 by decide)
    simp (config := { maxSteps := 2000000 }) only [go_sem, ↓reduceIte, Int.reduceToNat, Nat.reduceMul, Int.reduceBEq, Int.reduceBNe, Nat.reduceBEq, Nat.reduceAdd, Nat.reduceSub, Nat.reduceLeDiff, Nat.reduceEqDiff, Nat.reduceLT, reduceCtorEq, e0]
    erw [e4, mul_eq]
    rw [hc]
    rfl
theorem itoa_len (n : Int) (h0 : -9223372036854775808 ≤ n) (h1 : n ≤ 9223372036854775807) : (Lib.itoa n).toArray.size ≤ 21 := by
  have := Lib.itoa_length_le n h0 h1
  rw [List.size_toArray]; exact this
/-- What the check of an event says. -/
def evE (e : Ev) : Int := if e.time < 0 ∨ e.time > 200000 then 12 else if kindF e.kind = false ∨ nm 8 e.name = false then 6 else if e.value < -1000000 ∨ e.value > 1000000 then 4 else 0
def EvW (e : Ev) : Prop := e.kind.size ≤ 9223372036854775807 ∧ e.name.size ≤ 9223372036854775807
set_option maxRecDepth 20000 in
theorem s32 {Γ : List (Nat × Array Value)} (e : Ev) (he : EvW e) : Aw.SpecG Γ Tryd.prog 32 [] [ea e] (Gives (· = I (evE e))) := by
  refine SpecG.shut (Post := fun rg v => v = I (evE e)) ?_ fun rg v h => by subst h; exact ⟨rfl, rfl, rfl⟩
  refine Aw.SpecG.regsW k32 rfl rfl fun E hn hnp hp hT => ?_
  unfold a32
  refine AWp.ofD [] [] hn mixed rfl ?_
  simp (config := { maxSteps := 2000000 }) only [go_sem, ↓reduceIte, Int.reduceToNat, Nat.reduceMul, Int.reduceBEq, Int.reduceBNe, Nat.reduceBEq, Nat.reduceAdd, Nat.reduceSub, Nat.reduceLeDiff, Nat.reduceEqDiff, Nat.reduceLT, reduceCtorEq]
  unfold evE
  refine ⟨fun h => ?_, fun h => ?_⟩
  · simp only [Bool.or_eq_true, decide_eq_true_eq] at h
    rw [if_pos (by omega)]
    refine Retn.ret (π := []) hp hnp ⟨rfl, ?_⟩
    simp (config := { maxSteps := 2000000 }) only [go_sem, ↓reduceIte, Int.reduceToNat, Nat.reduceMul, Int.reduceBEq, Int.reduceBNe, Nat.reduceBEq, Nat.reduceAdd, Nat.reduceSub, Nat.reduceLeDiff, Nat.reduceEqDiff, Nat.reduceLT, reduceCtorEq, Aw.renR, Aw.pos]
  simp only [Bool.or_eq_false_iff, decide_eq_false_iff_not] at h
  rw [if_neg (by omega)]
  (refine AWpL.calleT (SpecG.at (s44 e.kind he.1) hT) rfl (by rw [hn]; rfl) (by simp (config := { maxSteps := 2000000 }) only [go_sem, ↓reduceIte, Int.reduceToNat, Nat.reduceMul, Int.reduceBEq, Int.reduceBNe, Nat.reduceBEq, Nat.reduceAdd, Nat.reduceSub, Nat.reduceLeDiff, Nat.reduceEqDiff, Nat.reduceLT, reduceCtorEq]) (AWpL.ofM hn rfl ?_); simp (config := { maxSteps := 2000000 }) only [go_sem, ↓reduceIte, Int.reduceToNat, Nat.reduceMul, Int.reduceBEq, Int.reduceBNe, Nat.reduceBEq, Nat.reduceAdd, Nat.reduceSub, Nat.reduceLeDiff, Nat.reduceEqDiff, Nat.reduceLT, reduceCtorEq])
  refine AWpL.gcalle rfl (fun _ => (s45 e.name he.2)) rfl (by rw [hn]; rfl) (fun hb => by simp (config := { maxSteps := 2000000 }) only [go_sem, ↓reduceIte, Int.reduceToNat, Nat.reduceMul, Int.reduceBEq, Int.reduceBNe, Nat.reduceBEq, Nat.reduceAdd, Nat.reduceSub, Nat.reduceLeDiff, Nat.reduceEqDiff, Nat.reduceLT, reduceCtorEq, hb] <;> simpa using hb) (AWpL.ofM hn rfl ?_)
  simp (config := { maxSteps := 2000000 }) only [go_sem, ↓reduceIte, Int.reduceToNat, Nat.reduceMul, Int.reduceBEq, Int.reduceBNe, Nat.reduceBEq, Nat.reduceAdd, Nat.reduceSub, Nat.reduceLeDiff, Nat.reduceEqDiff, Nat.reduceLT, reduceCtorEq]
  refine ⟨fun h2 => ?_, fun h2 => ⟨fun h3 => ?_, fun h3 => ?_⟩⟩
  · rw [if_pos (by cases hA : kindF e.kind <;> cases hB : nm 8 e.name <;> simp [hA, hB] at h2 ⊢)]
    refine Retn.ret (π := []) hp hnp ⟨rfl, ?_⟩
    simp (config := { maxSteps := 2000000 }) only [go_sem, ↓reduceIte, Int.reduceToNat, Nat.reduceMul, Int.reduceBEq, Int.reduceBNe, Nat.reduceBEq, Nat.reduceAdd, Nat.reduceSub, Nat.reduceLeDiff, Nat.reduceEqDiff, Nat.reduceLT, reduceCtorEq, Aw.renR, Aw.pos]
  · rw [if_neg (by cases hA : kindF e.kind <;> cases hB : nm 8 e.name <;> simp [hA, hB] at h2 ⊢)]
    simp only [Bool.or_eq_true, decide_eq_true_eq] at h3
    rw [if_pos (by omega)]
    refine Retn.ret (π := []) hp hnp ⟨rfl, ?_⟩
    simp (config := { maxSteps := 2000000 }) only [go_sem, ↓reduceIte, Int.reduceToNat, Nat.reduceMul, Int.reduceBEq, Int.reduceBNe, Nat.reduceBEq, Nat.reduceAdd, Nat.reduceSub, Nat.reduceLeDiff, Nat.reduceEqDiff, Nat.reduceLT, reduceCtorEq, Aw.renR, Aw.pos]
  · rw [if_neg (by cases hA : kindF e.kind <;> cases hB : nm 8 e.name <;> simp [hA, hB] at h2 ⊢)]
    simp only [Bool.or_eq_false_iff, decide_eq_false_iff_not] at h3
    rw [if_neg (by omega)]
    refine Retn.ret (π := []) hp hnp ⟨rfl, ?_⟩
    simp (config := { maxSteps := 2000000 }) only [go_sem, ↓reduceIte, Int.reduceToNat, Nat.reduceMul, Int.reduceBEq, Int.reduceBNe, Nat.reduceBEq, Nat.reduceAdd, Nat.reduceSub, Nat.reduceLeDiff, Nat.reduceEqDiff, Nat.reduceLT, reduceCtorEq, Aw.renR, Aw.pos]
set_option maxRecDepth 20000 in
theorem s31 {Γ : List (Nat × Array Value)} (hΓ : powT ∈ Γ) (e : Ev) (he : EvW e) (h1 : -1000000 ≤ e.time ∧ e.time ≤ 1000000) (h2 : -1000000 ≤ e.value ∧ e.value ≤ 1000000) (h3 : e.kind.size ≤ 8) (h4 : e.name.size ≤ 8) :
    Aw.SpecG Γ Tryd.prog 31 [] [ea e] (Gives (· = S (itoaB e.time ++ ⟨#[32]⟩ ++ e.kind ++ ⟨#[32]⟩ ++ e.name ++ ⟨#[32]⟩ ++ itoaB e.value))) := by
  refine SpecG.shut (Post := fun rg v => v = S (itoaB e.time ++ ⟨#[32]⟩ ++ e.kind ++ ⟨#[32]⟩ ++ e.name ++ ⟨#[32]⟩ ++ itoaB e.value)) ?_ fun rg v h => by subst h; exact ⟨rfl, rfl, rfl⟩
  refine Aw.SpecG.regsW k31 rfl rfl fun E hn hnp hp hT => ?_
  unfold a31
  have i1 := itoa_len e.time (by omega) (by omega)
  have i2 := itoa_len e.value (by omega) (by omega)
  have s1 : (#[32] : Array UInt8).size = 1 := rfl
  refine AWp.ofD [999] [] hn mixed rfl ?_
  simp (config := { maxSteps := 2000000 }) only [go_sem, ↓reduceIte, Int.reduceToNat, Nat.reduceMul, Int.reduceBEq, Int.reduceBNe, Nat.reduceBEq, Nat.reduceAdd, Nat.reduceSub, Nat.reduceLeDiff, Nat.reduceEqDiff, Nat.reduceLT, reduceCtorEq]
  refine AWp.plan (.take 0 [false, false, false, false, true, true, false, false, true, true, false, false, true, true, false, false, false] (.take 1 [true, false, false, false, true, true, false, false, true, true, false, false, true, true, false, false, false] (.take 4 [true, true, true, true, false, false, false, false, true, true, false, false, true, true, true, false, false] (.take 5 [true, true, true, true, true, false, false, false, true, true, false, false, true, true, true, false, false] (.take 8 [true, true, true, true, true, true, true, true, false, false, false, false, true, true, true, false, false] (.take 9 [true, true, true, true, true, true, true, true, true, false, false, false, true, true, true, false, false] (.take 12 [true, true, true, true, true, true, true, true, true, true, true, true, false, false, false, false, false] (.take 13 [true, true, true, true, true, true, true, true, true, true, true, true, true, false, false, false, false] (.one 2 (.take 3 [true, true, true, false, true, true, false, false, true, true, false, false, true, true, true, false, false] (.take 6 [true, true, true, true, true, true, false, false, true, true, false, false, true, true, true, false, false] (.take 7 [true, true, true, true, true, true, true, false, true, true, false, false, true, true, true, false, false] (.take 10 [true, true, true, true, true, true, true, true, true, true, false, false, true, true, true, false, false] (.take 11 [true, true, true, true, true, true, true, true, true, true, true, false, true, true, true, false, false] (.one 14 (.take 15 [true, true, true, true, true, true, true, true, true, true, true, true, true, true, true, false, false] (.take 16 [true, true, true, true, true, true, true, true, true, true, true, true, true, true, true, true, false] .done))))))))))))))))) [true, true, true, true, true, true, true, true, true, true, true, true, true, true, true, true, true] mixed hn rfl rfl ?_
  simp (config := { maxSteps := 2000000 }) only [go_sem, ↓reduceIte, Int.reduceToNat, Nat.reduceMul, Int.reduceBEq, Int.reduceBNe, Nat.reduceBEq, Nat.reduceAdd, Nat.reduceSub, Nat.reduceLeDiff, Nat.reduceEqDiff, Nat.reduceLT, reduceCtorEq]
  repeat' first
    | (refine And.intro ?_ ?_)
    | (refine AOne.calleT (SpecG.at (s43 hΓ e.time (by omega) (by omega)) hT) rfl (by rw [hn]; rfl) (by simp (config := { maxSteps := 2000000 }) only [go_sem, ↓reduceIte, Int.reduceToNat, Nat.reduceMul, Int.reduceBEq, Int.reduceBNe, Nat.reduceBEq, Nat.reduceAdd, Nat.reduceSub, Nat.reduceLeDiff, Nat.reduceEqDiff, Nat.reduceLT, reduceCtorEq]) ?_; simp (config := { maxSteps := 2000000 }) only [go_sem, ↓reduceIte, Int.reduceToNat, Nat.reduceMul, Int.reduceBEq, Int.reduceBNe, Nat.reduceBEq, Nat.reduceAdd, Nat.reduceSub, Nat.reduceLeDiff, Nat.reduceEqDiff, Nat.reduceLT, reduceCtorEq])
    | (refine AOne.calleT (SpecG.at (s43 hΓ e.value (by omega) (by omega)) hT) rfl (by rw [hn]; rfl) (by simp (config := { maxSteps := 2000000 }) only [go_sem, ↓reduceIte, Int.reduceToNat, Nat.reduceMul, Int.reduceBEq, Int.reduceBNe, Nat.reduceBEq, Nat.reduceAdd, Nat.reduceSub, Nat.reduceLeDiff, Nat.reduceEqDiff, Nat.reduceLT, reduceCtorEq]) ?_; simp (config := { maxSteps := 2000000 }) only [go_sem, ↓reduceIte, Int.reduceToNat, Nat.reduceMul, Int.reduceBEq, Int.reduceBNe, Nat.reduceBEq, Nat.reduceAdd, Nat.reduceSub, Nat.reduceLeDiff, Nat.reduceEqDiff, Nat.reduceLT, reduceCtorEq])
  all_goals first
    | (simp only [s1]; omega)
    | (refine Retn.ret (π := []) hp hnp ⟨rfl, ?_⟩; simp (config := { maxSteps := 2000000 }) only [go_sem, ↓reduceIte, Int.reduceToNat, Nat.reduceMul, Int.reduceBEq, Int.reduceBNe, Nat.reduceBEq, Nat.reduceAdd, Nat.reduceSub, Nat.reduceLeDiff, Nat.reduceEqDiff, Nat.reduceLT, reduceCtorEq, Aw.renR, Aw.pos]; rfl)
end Go.Proofs.YtemgclhenkbikaaDoor
