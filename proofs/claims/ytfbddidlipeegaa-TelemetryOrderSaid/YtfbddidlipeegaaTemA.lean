/- Telemetry: messages, Check, New. -/
import Derived.Test.YtfbddidlipeegaaAwZg
import Derived.Test.YtfbddidlipeegaaLibA
set_option linter.unusedVariables false
set_option linter.unusedSimpArgs false
namespace Go.Proofs.Ytfbddidlipeegaa
open Go.Proofs.Ytfbddidlipeegaa.Aw
attribute [local go_sem] Int.natCast_zero Int.natCast_one bne_self_eq_false beq_self_eq_true Bool.not_true Bool.not_false Option.isSome_none Option.isSome_some Aw.bkM_nil Option.getD_some Option.getD_none Nat.sub_zero Int.toNat_zero Aw.frzS Aw.frzT Aw.frzA Aw.frzL Aw.frzR Aw.frzO Aw.frzOL Aw.frzOT Aw.frzOR Aw.killS Aw.mapT Aw.mapR Aw.killM Aw.resAVs Aw.resAV Aw.quietOps Aw.wpP Aw.wpT Aw.wpS Aw.AOp.mild List.getElem?_cons_zero List.getElem?_cons_succ Bool.and_false Bool.and_self Bool.false_and Aw.opOb Aw.gdB Aw.Rnd Aw.subTm List.length_map Int.toNat_natCast and_self Aw.SeqC Aw.stops Aw.Ends Aw.looks Aw.renA Aw.renL Aw.renT Aw.renS Aw.wpO Aw.aop Aw.putTm Aw.St.ev Aw.St.put Aw.St.putO Aw.binAV Aw.intBin Aw.strBin Aw.pickAV Aw.optInt Aw.AV.strip Aw.AV.guard Aw.AV.cells Aw.gdOb Aw.AOp.opds Aw.AOp.still Aw.ptrCells Aw.St.reg Aw.fillAV Aw.fillOb Aw.elsOb Aw.splice Aw.firm Aw.cellish Aw.AV.shut Aw.shutAll Aw.Seq Aw.Blk Aw.retS_nil Aw.mapA Aw.mapL Aw.borA Aw.borOb Aw.allOb Aw.tupOf Aw.params Aw.Opd.of Array.toList Value.cells List.map_cons List.map_nil List.getD_cons_zero List.getD_cons_succ List.getD_nil List.length_cons List.length_nil List.take_succ_cons List.take_zero List.take_nil List.drop_zero List.drop_succ_cons List.drop_nil List.set_cons_zero List.set_cons_succ List.append_nil List.nil_append List.cons_append List.all_cons List.all_nil cond_false cond_true if_true if_false true_and and_true Bool.and_true Bool.true_and Option.map_some Option.map_none false_implies forall_const implies_true forall_eq imp_self Bool.cond_false_right Bool.cond_true_left beq_true beq_false Bool.not_eq_true' Bool.false_eq_true Nat.zero_add Nat.add_zero Aw.eqCells Aw.exactCap Aw.revealS Aw.srcEls Aw.srcSz
attribute [local go_sem ↓] Aw.look_nil Aw.look_ite Aw.wpL_nil Aw.wpL_op Aw.wpL_gd Aw.wpQ_nil Aw.wpQ_op Aw.wpQ_gd Aw.wpC_draw Aw.wpC_reg Aw.wpC_skip Aw.wpC_ret Aw.wpC_exit Aw.wpC_seq Aw.wpC_block Aw.wpC_loop Aw.wpC_cond Aw.stopAt_nil Aw.stopAt_cons Aw.wpD_skip Aw.wpD_ret Aw.wpD_exit Aw.wpD_region Aw.wpD_draw Aw.wpM_nil Aw.wpM_op Aw.wpM_gd Aw.wpD_seq Aw.wpD_block Aw.wpD_loop Aw.wpD_cond

/- gridhall/telemetry.Check -/
def a13 : ACode :=
  (.seq (.region false [] [
     ⟨(some 1), none, (.box 29 (.t 0))⟩,
     ⟨(some 2), none, (.mov (.v (.int .i64 0)))⟩])
  (.seq (.block 0 (.seq (.region false [] [
      ⟨(some 4), none, (.fld 0 (.t 1))⟩,
      ⟨(some 5), none, (.load 1 false (.t 4))⟩,
      ⟨(some 6), none, (.call 17 [(.t 5)])⟩,
      ⟨(some 7), none, (.un .not (.t 6))⟩,
      ⟨(some 3), none, (.mov (.t 7))⟩])
   (.cond (.t 3)
     (.seq (.region false [] [
        ⟨(some 2), none, (.mov (.v (.int .i64 6)))⟩])
     .ret)
     (.seq (.region false [] [
        ⟨(some 9), none, (.fld 1 (.t 1))⟩,
        ⟨(some 10), none, (.load 1 false (.t 9))⟩,
        ⟨(some 11), none, (.bin .lss 3 (.t 10) (.v (.int .i64 1)))⟩,
        ⟨(some 12), none, (.mov (.t 11))⟩,
        ⟨(some 13), (some (12, false)), (.fld 1 (.t 1))⟩,
        ⟨(some 14), (some (12, false)), (.load 1 false (.t 13))⟩,
        ⟨(some 15), (some (12, false)), (.bin .gtr 3 (.t 14) (.v (.int .i64 1000000)))⟩,
        ⟨(some 16), none, (.pick (.t 12) (.v (.bool true)) (.t 15))⟩,
        ⟨(some 17), none, (.mov (.t 16))⟩,
        ⟨(some 18), (some (17, false)), (.fld 3 (.t 1))⟩,
        ⟨(some 19), (some (17, false)), (.load 1 false (.t 18))⟩,
        ⟨(some 20), (some (17, false)), (.bin .lss 3 (.t 19) (.v (.int .i64 (-1000000))))⟩,
        ⟨(some 21), none, (.pick (.t 17) (.v (.bool true)) (.t 20))⟩,
        ⟨(some 22), none, (.mov (.t 21))⟩,
        ⟨(some 23), (some (22, false)), (.fld 3 (.t 1))⟩,
        ⟨(some 24), (some (22, false)), (.load 1 false (.t 23))⟩,
        ⟨(some 25), (some (22, false)), (.bin .gtr 3 (.t 24) (.v (.int .i64 1000000)))⟩,
        ⟨(some 26), none, (.pick (.t 22) (.v (.bool true)) (.t 25))⟩,
        ⟨(some 8), none, (.mov (.t 26))⟩])
     (.cond (.t 8)
       (.seq (.region false [] [
          ⟨(some 2), none, (.mov (.v (.int .i64 4)))⟩])
       .ret)
       (.seq (.region false [] [
          ⟨(some 28), none, (.fld 2 (.t 1))⟩,
          ⟨(some 29), none, (.load 1 false (.t 28))⟩,
          ⟨(some 30), none, (.bin .lss 3 (.t 29) (.v (.int .i64 0)))⟩,
          ⟨(some 31), none, (.mov (.t 30))⟩,
          ⟨(some 32), (some (31, false)), (.fld 2 (.t 1))⟩,
          ⟨(some 33), (some (31, false)), (.load 1 false (.t 32))⟩,
          ⟨(some 34), (some (31, false)), (.bin .gtr 3 (.t 33) (.v (.int .i64 200000)))⟩,
          ⟨(some 35), none, (.pick (.t 31) (.v (.bool true)) (.t 34))⟩,
          ⟨(some 27), none, (.mov (.t 35))⟩])
       (.cond (.t 27)
         (.seq (.region false [] [
            ⟨(some 2), none, (.mov (.v (.int .i64 12)))⟩])
         .ret)
         .skip)))))))
  (.seq (.region false [] [
     ⟨(some 2), none, (.mov (.v (.int .i64 0)))⟩])
  .ret)))
theorem k13 : FnIs Try.prog 13 36 [.t 2] a13 := ⟨_, _, Try.func13, rfl, by kernel_rfl, by kernel_rfl, rfl⟩
/- gridhall/telemetry.New -/
def a5 : ACode :=
  (.seq (.region false [] [
     ⟨(some 2), none, (.mov (.v (.pointer none)))⟩,
     ⟨(some 3), none, (.mov (.v (.int .i64 0)))⟩])
  (.seq (.seq (.region false [] [
     ⟨(some 4), none, (.mov (.t 0))⟩,
     ⟨(some 5), none, (.bin .lss 3 (.t 4) (.v (.int .i64 0)))⟩,
     ⟨(some 6), none, (.mov (.t 5))⟩,
     ⟨(some 7), (some (6, false)), (.mov (.t 0))⟩,
     ⟨(some 8), (some (6, false)), (.bin .gtr 3 (.t 7) (.v (.int .i64 200000)))⟩,
     ⟨(some 9), none, (.pick (.t 6) (.v (.bool true)) (.t 8))⟩])
  (.cond (.t 9)
    (.seq (.region false [] [
       ⟨(some 2), none, (.mov (.v (.pointer none)))⟩,
       ⟨(some 3), none, (.mov (.v (.int .i64 4)))⟩])
    .ret)
    .skip))
  (.seq (.region false [] [
     ⟨(some 10), none, (.mov (.t 0))⟩,
     ⟨(some 11), none, (.build (.agg #[(.int .i64 0), (.slice none 0 0), (.slice none 0 0)]) [(0, (1, (.t 10)))])⟩,
     ⟨(some 12), none, (.box 42 (.t 11))⟩,
     ⟨(some 2), none, (.mov (.t 12))⟩,
     ⟨(some 3), none, (.mov (.v (.int .i64 0)))⟩])
  .ret)))
theorem k5 : FnIs Try.prog 5 13 [.t 2, .t 3] a5 := ⟨_, _, Try.func5, rfl, by kernel_rfl, by kernel_rfl, rfl⟩
/- gridhall/telemetry.named -/
def a17 : ACode :=
  (.seq (.region false [] [
     ⟨(some 2), none, (.mov (.v (.bool false)))⟩])
  (.seq (.seq (.region false [] [
     ⟨(some 5), none, (.mov (.t 0))⟩,
     ⟨(some 6), none, (.stb 5 (.t 5))⟩,
     ⟨(some 7), none, (.len (.t 6))⟩,
     ⟨(some 8), none, (.mov (.v (.int .i64 0)))⟩])
  (.block 0 (.loop (.seq (.region false [] [
       ⟨(some 9), none, (.bin .lss 3 (.t 8) (.t 7))⟩])
    (.seq (.cond (.t 9)
      .skip
      (.exit 0))
    (.seq (.block 1 (.seq (.region false [] [
        ⟨(some 10), none, (.mov (.t 8))⟩,
        ⟨(some 11), none, (.idx 1 (.t 6) (.t 8))⟩,
        ⟨(some 12), none, (.load 1 false (.t 11))⟩,
        ⟨(some 3), none, (.mov (.t 10))⟩,
        ⟨(some 4), none, (.mov (.t 12))⟩])
     (.seq (.region false [] [
        ⟨(some 13), none, (.mov (.t 4))⟩,
        ⟨(some 14), none, (.bin .geq 5 (.t 13) (.v (.int .u8 65)))⟩,
        ⟨(some 15), none, (.mov (.t 14))⟩,
        ⟨(some 16), (some (15, true)), (.mov (.t 4))⟩,
        ⟨(some 17), (some (15, true)), (.bin .leq 5 (.t 16) (.v (.int .u8 90)))⟩,
        ⟨(some 18), none, (.pick (.t 15) (.t 17) (.v (.bool false)))⟩,
        ⟨(some 19), none, (.mov (.t 18))⟩,
        ⟨(some 20), (some (19, false)), (.mov (.t 3))⟩,
        ⟨(some 21), (some (19, false)), (.bin .gtr 3 (.t 20) (.v (.int .i64 0)))⟩,
        ⟨(some 22), (some (19, false)), (.mov (.t 21))⟩,
        ⟨(some 23), (some (22, true)), (.mov (.t 4))⟩,
        ⟨(some 24), (some (22, true)), (.bin .geq 5 (.t 23) (.v (.int .u8 48)))⟩,
        ⟨(some 25), (some (19, false)), (.pick (.t 22) (.t 24) (.v (.bool false)))⟩,
        ⟨(some 26), (some (19, false)), (.mov (.t 25))⟩,
        ⟨(some 27), (some (26, true)), (.mov (.t 4))⟩,
        ⟨(some 28), (some (26, true)), (.bin .leq 5 (.t 27) (.v (.int .u8 57)))⟩,
        ⟨(some 29), (some (19, false)), (.pick (.t 26) (.t 28) (.v (.bool false)))⟩,
        ⟨(some 30), none, (.pick (.t 19) (.v (.bool true)) (.t 29))⟩,
        ⟨(some 31), none, (.un .not (.t 30))⟩])
     (.cond (.t 31)
       (.seq (.region false [] [
          ⟨(some 2), none, (.mov (.v (.bool false)))⟩])
       .ret)
       .skip))))
    (.region false [] [
       ⟨(some 32), none, (.bin .add 3 (.t 8) (.v (.int .i64 1)))⟩,
       ⟨(some 8), none, (.mov (.t 32))⟩])))))))
  (.seq (.region false [] [
     ⟨(some 33), none, (.mov (.t 0))⟩,
     ⟨(some 34), none, (.bin .neq 9 (.t 33) (.v (.string ⟨#[]⟩)))⟩,
     ⟨(some 35), none, (.mov (.t 34))⟩,
     ⟨(some 36), (some (35, true)), (.mov (.t 0))⟩,
     ⟨(some 37), (some (35, true)), (.lens (.t 36))⟩,
     ⟨(some 38), (some (35, true)), (.bin .leq 3 (.t 37) (.v (.int .i64 8)))⟩,
     ⟨(some 39), none, (.pick (.t 35) (.t 38) (.v (.bool false)))⟩,
     ⟨(some 2), none, (.mov (.t 39))⟩])
  .ret)))
theorem k17 : FnIs Try.prog 17 40 [.t 2] a17 := ⟨_, _, Try.func17, rfl, by kernel_rfl, by kernel_rfl, rfl⟩

structure Msg where
  pt : ByteArray
  num : Int
  time : Int
  val : Int
instance : Inhabited Msg := ⟨⟨⟨#[]⟩, 0, 0, 0⟩⟩
abbrev mc (m : Msg) : List AV := [S m.pt, I m.num, I m.time, I m.val]
abbrev ma (m : Msg) : AV := .agg (mc m)
set_option maxRecDepth 20000 in
theorem s17 (x : ByteArray) (hx : x.size ≤ 9223372036854775807) : Aw.Spec Try.prog 17 [] [S x] (Gives (· = B (nm 8 x))) := by
  refine Aw.Spec.givesD k17 mixed rfl rfl rfl fun E hn hnp hp => ?_
  unfold a17
  simp (config := { maxSteps := 2000000 }) only [go_sem, ↓reduceIte, Int.reduceToNat, Nat.reduceMul, Int.reduceBEq, Int.reduceBNe, Nat.reduceBEq, Nat.reduceAdd, Nat.reduceSub, Nat.reduceLeDiff, Nat.reduceEqDiff, Nat.reduceLT, reduceCtorEq]
  have hsz : x.data.toList.length = x.size := by rw [Array.length_toList]; rfl
  refine AWp.loop (fun k s => ∃ i : Nat, i + k = x.data.toList.length ∧ nmOk 0 x.data.toList = nmOk i (x.data.toList.drop i) ∧ Weak E s ⟨[(0, S x), (6, .imm (some false) false 1 (x.data.toList.map fun c => [.val (.int .u8 c.toNat)])), (7, I x.data.toList.length), (8, I i)], []⟩) (n := x.data.toList.length)
    ⟨0, by omega, rfl, weak_to [] hp hnp rfl ⟨rfl, rfl, rfl, rfl, trivial⟩ rfl⟩ ?_
  rintro k s ⟨i, hi, hs, hw⟩
  refine AWp.weak hw (AWp.ofD [] [] hn mixed rfl ?_)
  rcases Nat.lt_or_ge i x.data.toList.length with hlt | hge
  · have e0 : decide ((i : Int) < (x.data.toList.length : Int)) = true := by simp; omega
    have e1 := getD_map (fun c : UInt8 => [.val (.int .u8 c.toNat)]) hlt
    have e2 : IntKind.i64.wrap ((i : Int) + 1) = ((i + 1 : Nat) : Int) := by rw [w64 (by omega) (by omega)]; omega
    have e3 : decide ((0 : Int) < (i : Int)) = decide (0 < i) := by simp
    simp (config := { maxSteps := 2000000 }) only [go_sem, ↓reduceIte, Int.reduceToNat, Nat.reduceMul, Int.reduceBEq, Int.reduceBNe, Nat.reduceBEq, Nat.reduceAdd, Nat.reduceSub, Nat.reduceLeDiff, Nat.reduceEqDiff, Nat.reduceLT, reduceCtorEq, e0, e1, e2, ge_iff_le, gt_iff_lt, e3]
    rw [nmOk_drop hlt] at hs
    generalize (decide ((65 : Int) ≤ x.data.toList[i].toNat) && decide ((x.data.toList[i].toNat : Int) ≤ 90)) = A at *
    generalize decide ((48 : Int) ≤ x.data.toList[i].toNat) = C at *
    generalize decide ((x.data.toList[i].toNat : Int) ≤ 57) = D at *
    generalize decide (0 < i) = F at *
    refine ⟨⟨by omega, by omega⟩, ?_, ?_, fun h => ?_, fun h => ?_⟩
    · exact (by decide : ∀ A F : Bool, A = false → A = false ∧ (F = true → (!A && F) = true)) A F
    · exact (by decide : ∀ A F C : Bool, A = false → A = false ∧ ((F && C) = true → (!A && (F && C)) = true)) A F C
    · have h' : (A || F && C && D) = false := by simpa using h
      unfold nm
      rw [hs, h']; rfl
    · have h' : (A || F && C && D) = true := by
        cases hX : (A || F && C && D) with
        | true => rfl
        | false => rw [hX] at h; cases h
      rw [h', Bool.true_and] at hs
      exact ⟨k - 1, by omega, i + 1, by omega, hs, weak_to [] hp hnp rfl (by simp (config := { maxSteps := 2000000 }) only [go_sem, ↓reduceIte, Int.reduceToNat, Nat.reduceMul, Int.reduceBEq, Int.reduceBNe, Nat.reduceBEq, Nat.reduceAdd, Nat.reduceSub, Nat.reduceLeDiff, Nat.reduceEqDiff, Nat.reduceLT, reduceCtorEq]) rfl⟩
  · have e0 : decide ((i : Int) < (x.data.toList.length : Int)) = false := by simp; omega
    simp (config := { maxSteps := 2000000 }) only [go_sem, ↓reduceIte, Int.reduceToNat, Nat.reduceMul, Int.reduceBEq, Int.reduceBNe, Nat.reduceBEq, Nat.reduceAdd, Nat.reduceSub, Nat.reduceLeDiff, Nat.reduceEqDiff, Nat.reduceLT, reduceCtorEq, e0]
    unfold nm
    rw [hs, List.drop_of_length_le hge]
    simp only [nmOk, Bool.true_and]

def telChk (m : Msg) : Int :=
  if nm 8 m.pt = false then 6 else if m.num < 1 ∨ 1000000 < m.num ∨ m.val < -1000000 ∨ 1000000 < m.val then 4 else if m.time < 0 ∨ 200000 < m.time then 12 else 0
theorem s13 (m : Msg) (hs : m.pt.size ≤ 9223372036854775807) : Aw.Spec Try.prog 13 [] [ma m] (Gives (· = I (telChk m))) := by
  refine Aw.Spec.givesD k13 mixed rfl rfl rfl fun E hn hnp hp => ?_
  unfold a13
  simp (config := { maxSteps := 2000000 }) only [go_sem, ↓reduceIte, Int.reduceToNat, Nat.reduceMul, Int.reduceBEq, Int.reduceBNe, Nat.reduceBEq, Nat.reduceAdd, Nat.reduceSub, Nat.reduceLeDiff, Nat.reduceEqDiff, Nat.reduceLT, reduceCtorEq]
  (refine AWpL.calle (s17 m.pt hs) rfl (by rw [hn]; rfl) (by simp (config := { maxSteps := 2000000 }) only [go_sem, ↓reduceIte, Int.reduceToNat, Nat.reduceMul, Int.reduceBEq, Int.reduceBNe, Nat.reduceBEq, Nat.reduceAdd, Nat.reduceSub, Nat.reduceLeDiff, Nat.reduceEqDiff, Nat.reduceLT, reduceCtorEq]) (AWpL.ofM hn rfl ?_); simp (config := { maxSteps := 2000000 }) only [go_sem, ↓reduceIte, Int.reduceToNat, Nat.reduceMul, Int.reduceBEq, Int.reduceBNe, Nat.reduceBEq, Nat.reduceAdd, Nat.reduceSub, Nat.reduceLeDiff, Nat.reduceEqDiff, Nat.reduceLT, reduceCtorEq])
  unfold telChk
  simp only [Bool.or_eq_true, Bool.or_eq_false_iff, decide_eq_true_eq, decide_eq_false_iff_not]
  refine ⟨fun h => ?_, fun h => ⟨fun h2 => ?_, fun h2 => ⟨fun h3 => ?_, fun h3 => ?_⟩⟩⟩
  · rw [if_pos (by simpa using h)]
  · rw [if_neg (by simpa using h), if_pos (by omega)]
  · rw [if_neg (by simpa using h), if_neg (by omega), if_pos (by omega)]
  · rw [if_neg (by simpa using h), if_neg (by omega), if_neg (by omega)]
theorem telChk_ok {m : Msg} (h : telChk m = 0) : nm 8 m.pt = true ∧ (1 ≤ m.num ∧ m.num ≤ 1000000) ∧ (-1000000 ≤ m.val ∧ m.val ≤ 1000000) ∧ 0 ≤ m.time ∧ m.time ≤ 200000 := by
  unfold telChk at h
  split at h
  · cases h
  · rename_i h1
    split at h
    · cases h
    · split at h
      · cases h
      · exact ⟨by simpa using h1, by omega, by omega, by omega⟩
theorem s5 (age : Int) (ha : -9223372036854775808 ≤ age ∧ age ≤ 9223372036854775807) : Aw.Spec Try.prog 5 [] [I age] (fun rg v =>
    (¬ (0 ≤ age ∧ age ≤ 200000) → rg = [] ∧ v = .tup [.val (.pointer none), I 4]) ∧
    (0 ≤ age ∧ age ≤ 200000 → rg = [.box 42 [I age, .val (.slice none 0 0), .val (.slice none 0 0)]] ∧ v = .tup [.ptr 0 0 0, I 0])) := by
  refine Aw.Spec.regsD k5 mixed rfl rfl rfl fun E hn hnp hp => ?_
  unfold a5
  simp (config := { maxSteps := 2000000 }) only [go_sem, ↓reduceIte, Int.reduceToNat, Nat.reduceMul, Int.reduceBEq, Int.reduceBNe, Nat.reduceBEq, Nat.reduceAdd, Nat.reduceSub, Nat.reduceLeDiff, Nat.reduceEqDiff, Nat.reduceLT, reduceCtorEq]
  simp only [Bool.or_eq_true, Bool.or_eq_false_iff, decide_eq_true_eq, decide_eq_false_iff_not]
  refine ⟨fun h => Retn.ret (π := []) hp hnp ⟨rfl, ?_⟩, fun h => Retn.ret (π := [0]) hp hnp ⟨rfl, ?_⟩⟩
  · simp (config := { maxSteps := 2000000 }) only [go_sem, ↓reduceIte, Int.reduceToNat, Nat.reduceMul, Int.reduceBEq, Int.reduceBNe, Nat.reduceBEq, Nat.reduceAdd, Nat.reduceSub, Nat.reduceLeDiff, Nat.reduceEqDiff, Nat.reduceLT, reduceCtorEq]
    exact fun h2 => by omega
  · simp (config := { maxSteps := 2000000 }) only [go_sem, ↓reduceIte, Int.reduceToNat, Nat.reduceMul, Int.reduceBEq, Int.reduceBNe, Nat.reduceBEq, Nat.reduceAdd, Nat.reduceSub, Nat.reduceLeDiff, Nat.reduceEqDiff, Nat.reduceLT, reduceCtorEq, Aw.renR, Aw.pos]
    exact fun h2 => by omega
end Go.Proofs.Ytfbddidlipeegaa
