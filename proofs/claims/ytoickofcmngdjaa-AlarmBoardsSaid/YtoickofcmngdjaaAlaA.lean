/- Alarms: causes, active alarms, their checks. -/
import Derived.Test.YtoickofcmngdjaaAwZl
import Derived.Test.YtoickofcmngdjaaLibA
set_option linter.unusedVariables false
set_option linter.unusedSimpArgs false
namespace Go.Proofs.Ytoickofcmngdjaa
open Go.Proofs.Ytoickofcmngdjaa.Aw
attribute [local go_sem] Int.natCast_zero Int.natCast_one bne_self_eq_false beq_self_eq_true Bool.not_true Bool.not_false Option.isSome_none Option.isSome_some Aw.bkM_nil Option.getD_some Option.getD_none Nat.sub_zero Int.toNat_zero Aw.frzS Aw.frzT Aw.frzA Aw.frzL Aw.frzR Aw.frzO Aw.frzOL Aw.frzOT Aw.frzOR Aw.killS Aw.mapT Aw.mapR Aw.killM Aw.resAVs Aw.resAV Aw.quietOps Aw.wpP Aw.wpT Aw.wpS Aw.AOp.mild List.getElem?_cons_zero List.getElem?_cons_succ Bool.and_false Bool.and_self Bool.false_and Aw.opOb Aw.gdB Aw.Rnd Aw.subTm List.length_map Int.toNat_natCast and_self Aw.SeqC Aw.stops Aw.Ends Aw.looks Aw.renA Aw.renL Aw.renT Aw.renS Aw.wpO Aw.aop Aw.putTm Aw.St.ev Aw.St.put Aw.St.putO Aw.binAV Aw.intBin Aw.strBin Aw.pickAV Aw.optInt Aw.AV.strip Aw.AV.guard Aw.AV.cells Aw.gdOb Aw.AOp.opds Aw.AOp.still Aw.ptrCells Aw.St.reg Aw.fillAV Aw.fillOb Aw.elsOb Aw.splice Aw.firm Aw.cellish Aw.AV.shut Aw.shutAll Aw.Seq Aw.Blk Aw.retS_nil Aw.mapA Aw.mapL Aw.borA Aw.borOb Aw.allOb Aw.tupOf Aw.params Aw.Opd.of Array.toList Value.cells List.map_cons List.map_nil List.getD_cons_zero List.getD_cons_succ List.getD_nil List.length_cons List.length_nil List.take_succ_cons List.take_zero List.take_nil List.drop_zero List.drop_succ_cons List.drop_nil List.set_cons_zero List.set_cons_succ List.append_nil List.nil_append List.cons_append List.all_cons List.all_nil cond_false cond_true if_true if_false true_and and_true Bool.and_true Bool.true_and Option.map_some Option.map_none false_implies forall_const implies_true forall_eq imp_self Bool.cond_false_right Bool.cond_true_left beq_true beq_false Bool.not_eq_true' Bool.false_eq_true Nat.zero_add Nat.add_zero Aw.eqCells Aw.stopDraw Aw.skipS Aw.exactCap Aw.revealS Aw.srcEls Aw.srcSz
attribute [local go_sem ↓] Aw.look_nil Aw.look_ite Aw.wpL_nil Aw.wpL_op Aw.wpL_gd Aw.wpQ_nil Aw.wpQ_op Aw.wpQ_gd Aw.wpC_draw Aw.wpC_reg Aw.wpC_skip Aw.wpC_ret Aw.wpC_exit Aw.wpC_seq Aw.wpC_block Aw.wpC_loop Aw.wpC_cond Aw.stopAt_nil Aw.stopAt_cons Aw.wpD_skip Aw.wpD_ret Aw.wpD_exit Aw.wpD_region Aw.wpD_draw Aw.wpM_nil Aw.wpM_op Aw.wpM_gd Aw.wpD_seq Aw.wpD_block Aw.wpD_loop Aw.wpD_cond

/- gridhall/alarm.named -/
def a23 : ACode :=
  (.seq (.region false [] [
     ⟨(some 2), none, (.mov (.v (.bool false)))⟩])
  (.seq (.seq (.region false [] [
     ⟨(some 5), none, (.mov (.t 0))⟩,
     ⟨(some 6), none, (.stb 5 (.t 5))⟩,
     ⟨(some 7), none, (.len (.t 6))⟩,
     ⟨(some 8), none, (.mov (.v (.int .i64 0)))⟩])
  (.block 0 (.loop (.seq (.region false [] [
       ⟨(some 9), none, (.bin .lss 3 (.t 8) (.t 7))⟩])
    (.seq (.cond (.t 9)
      .skip
      (.exit 0))
    (.seq (.block 1 (.seq (.region false [] [
        ⟨(some 10), none, (.mov (.t 8))⟩,
        ⟨(some 11), none, (.idx 1 (.t 6) (.t 8))⟩,
        ⟨(some 12), none, (.load 1 false (.t 11))⟩,
        ⟨(some 3), none, (.mov (.t 10))⟩,
        ⟨(some 4), none, (.mov (.t 12))⟩])
     (.seq (.region false [] [
        ⟨(some 13), none, (.mov (.t 4))⟩,
        ⟨(some 14), none, (.bin .geq 5 (.t 13) (.v (.int .u8 65)))⟩,
        ⟨(some 15), none, (.mov (.t 14))⟩,
        ⟨(some 16), (some (15, true)), (.mov (.t 4))⟩,
        ⟨(some 17), (some (15, true)), (.bin .leq 5 (.t 16) (.v (.int .u8 90)))⟩,
        ⟨(some 18), none, (.pick (.t 15) (.t 17) (.v (.bool false)))⟩,
        ⟨(some 19), none, (.mov (.t 18))⟩,
        ⟨(some 20), (some (19, false)), (.mov (.t 3))⟩,
        ⟨(some 21), (some (19, false)), (.bin .gtr 3 (.t 20) (.v (.int .i64 0)))⟩,
        ⟨(some 22), (some (19, false)), (.mov (.t 21))⟩,
        ⟨(some 23), (some (22, true)), (.mov (.t 4))⟩,
        ⟨(some 24), (some (22, true)), (.bin .geq 5 (.t 23) (.v (.int .u8 48)))⟩,
        ⟨(some 25), (some (19, false)), (.pick (.t 22) (.t 24) (.v (.bool false)))⟩,
        ⟨(some 26), (some (19, false)), (.mov (.t 25))⟩,
        ⟨(some 27), (some (26, true)), (.mov (.t 4))⟩,
        ⟨(some 28), (some (26, true)), (.bin .leq 5 (.t 27) (.v (.int .u8 57)))⟩,
        ⟨(some 29), (some (19, false)), (.pick (.t 26) (.t 28) (.v (.bool false)))⟩,
        ⟨(some 30), none, (.pick (.t 19) (.v (.bool true)) (.t 29))⟩,
        ⟨(some 31), none, (.un .not (.t 30))⟩])
     (.cond (.t 31)
       (.seq (.region false [] [
          ⟨(some 2), none, (.mov (.v (.bool false)))⟩])
       .ret)
       .skip))))
    (.region false [] [
       ⟨(some 32), none, (.bin .add 3 (.t 8) (.v (.int .i64 1)))⟩,
       ⟨(some 8), none, (.mov (.t 32))⟩])))))))
  (.seq (.region false [] [
     ⟨(some 33), none, (.mov (.t 0))⟩,
     ⟨(some 34), none, (.bin .neq 9 (.t 33) (.v (.string ⟨#[]⟩)))⟩,
     ⟨(some 35), none, (.mov (.t 34))⟩,
     ⟨(some 36), (some (35, true)), (.mov (.t 0))⟩,
     ⟨(some 37), (some (35, true)), (.lens (.t 36))⟩,
     ⟨(some 38), (some (35, true)), (.bin .leq 3 (.t 37) (.v (.int .i64 8)))⟩,
     ⟨(some 39), none, (.pick (.t 35) (.t 38) (.v (.bool false)))⟩,
     ⟨(some 2), none, (.mov (.t 39))⟩])
  .ret)))
theorem k23 : FnIs Try.prog 23 40 [.t 2] a23 := ⟨_, _, Try.func23, rfl, by kernel_rfl, by kernel_rfl, rfl⟩
/- slices.Index[[]gridhall/api.AlarmCause,gridhall/api.AlarmCause] -/
def a40 : ACode :=
  (.seq (.region false [] [
     ⟨(some 3), none, (.box 28 (.t 1))⟩,
     ⟨(some 4), none, (.mov (.v (.int .i64 0)))⟩])
  (.seq (.seq (.region false [] [
     ⟨(some 6), none, (.mov (.t 0))⟩,
     ⟨(some 7), none, (.len (.t 6))⟩,
     ⟨(some 8), none, (.mov (.v (.int .i64 0)))⟩])
  (.block 0 (.loop (.seq (.region false [] [
       ⟨(some 9), none, (.bin .lss 3 (.t 8) (.t 7))⟩])
    (.seq (.cond (.t 9)
      .skip
      (.exit 0))
    (.seq (.block 1 (.seq (.region false [] [
        ⟨(some 10), none, (.mov (.t 8))⟩,
        ⟨(some 5), none, (.mov (.t 10))⟩])
     (.seq (.region true [[], [], [], [1, 2], [3], [0, 4]] [
        ⟨(some 11), none, (.load 2 true (.t 3))⟩,
        ⟨(some 12), none, (.mov (.t 0))⟩,
        ⟨(some 13), none, (.mov (.t 5))⟩,
        ⟨(some 14), none, (.idx 2 (.t 12) (.t 13))⟩,
        ⟨(some 15), none, (.load 2 true (.t 14))⟩,
        ⟨(some 16), none, (.aeq false [.s, .s] (.t 11) (.t 15))⟩])
     (.cond (.t 16)
       (.seq (.region false [] [
          ⟨(some 17), none, (.mov (.t 5))⟩,
          ⟨(some 4), none, (.mov (.t 17))⟩])
       .ret)
       .skip))))
    (.region false [] [
       ⟨(some 18), none, (.bin .add 3 (.t 8) (.v (.int .i64 1)))⟩,
       ⟨(some 8), none, (.mov (.t 18))⟩])))))))
  (.seq (.region false [] [
     ⟨(some 4), none, (.mov (.v (.int .i64 (-1))))⟩])
  .ret)))
theorem k40 : FnIs Try.prog 40 19 [.t 4] a40 := ⟨_, _, Try.func40, rfl, by kernel_rfl, by kernel_rfl, rfl⟩
/- slices.Contains[[]gridhall/api.AlarmCause,gridhall/api.AlarmCause] -/
def a24 : ACode :=
  (.seq (.region false [] [
     ⟨(some 3), none, (.box 28 (.t 1))⟩,
     ⟨(some 4), none, (.mov (.v (.bool false)))⟩])
  (.seq (.region false [] [
     ⟨(some 5), none, (.mov (.t 0))⟩,
     ⟨(some 6), none, (.load 2 true (.t 3))⟩,
     ⟨(some 7), none, (.call 40 [(.t 5), (.t 6)])⟩,
     ⟨(some 8), none, (.bin .geq 3 (.t 7) (.v (.int .i64 0)))⟩,
     ⟨(some 4), none, (.mov (.t 8))⟩])
  .ret))
theorem k24 : FnIs Try.prog 24 9 [.t 4] a24 := ⟨_, _, Try.func24, rfl, by kernel_rfl, by kernel_rfl, rfl⟩
/- gridhall/alarm.Check -/
def a6 : ACode :=
  (.seq (.region false [] [
     ⟨(some 2), none, (.mov (.v (.int .i64 0)))⟩])
  (.seq (.seq (.region false [] [
     ⟨(some 5), none, (.mov (.t 0))⟩,
     ⟨(some 6), none, (.len (.t 5))⟩,
     ⟨(some 7), none, (.bin .gtr 3 (.t 6) (.v (.int .i64 40)))⟩])
  (.cond (.t 7)
    (.seq (.region false [] [
       ⟨(some 2), none, (.mov (.v (.int .i64 2)))⟩])
    .ret)
    .skip))
  (.seq (.seq (.region false [] [
     ⟨(some 8), none, (.mov (.t 0))⟩,
     ⟨(some 9), none, (.len (.t 8))⟩,
     ⟨(some 10), none, (.mov (.v (.int .i64 0)))⟩])
  (.block 0 (.loop (.seq (.region false [] [
       ⟨(some 11), none, (.bin .lss 3 (.t 10) (.t 9))⟩])
    (.seq (.cond (.t 11)
      .skip
      (.exit 0))
    (.seq (.block 1 (.seq (.region false [] [
        ⟨(some 12), none, (.mov (.t 10))⟩,
        ⟨(some 13), none, (.idx 2 (.t 8) (.t 10))⟩,
        ⟨(some 14), none, (.load 2 true (.t 13))⟩,
        ⟨(some 4), none, (.alloc 28 (.agg #[(.string ⟨#[]⟩), (.string ⟨#[]⟩)]))⟩,
        ⟨(some 3), none, (.mov (.t 12))⟩,
        ⟨none, none, (.store 2 (.t 4) (.t 14))⟩])
     (.block 2 (.seq (.region false [] [
         ⟨(some 16), none, (.fld 0 (.t 4))⟩,
         ⟨(some 17), none, (.load 1 false (.t 16))⟩,
         ⟨(some 18), none, (.call 23 [(.t 17)])⟩,
         ⟨(some 19), none, (.un .not (.t 18))⟩,
         ⟨(some 20), none, (.mov (.t 19))⟩,
         ⟨(some 21), (some (20, false)), (.fld 1 (.t 4))⟩,
         ⟨(some 22), (some (20, false)), (.load 1 false (.t 21))⟩,
         ⟨(some 23), (some (20, false)), (.call 23 [(.t 22)])⟩,
         ⟨(some 24), (some (20, false)), (.un .not (.t 23))⟩,
         ⟨(some 25), none, (.pick (.t 20) (.v (.bool true)) (.t 24))⟩,
         ⟨(some 15), none, (.mov (.t 25))⟩])
      (.cond (.t 15)
        (.seq (.region false [] [
           ⟨(some 2), none, (.mov (.v (.int .i64 6)))⟩])
        .ret)
        (.seq (.region false [] [
           ⟨(some 27), none, (.fld 0 (.t 4))⟩,
           ⟨(some 28), none, (.load 1 false (.t 27))⟩,
           ⟨(some 29), none, (.fld 1 (.t 4))⟩,
           ⟨(some 30), none, (.load 1 false (.t 29))⟩,
           ⟨(some 31), none, (.bin .eql 9 (.t 28) (.t 30))⟩,
           ⟨(some 26), none, (.mov (.t 31))⟩])
        (.cond (.t 26)
          (.seq (.region false [] [
             ⟨(some 2), none, (.mov (.v (.int .i64 3)))⟩])
          .ret)
          (.seq (.region true [[], [], [0, 1], [], [2, 3], [4, 4]] [
             ⟨(some 33), none, (.mov (.t 0))⟩,
             ⟨(some 34), none, (.mov (.t 3))⟩,
             ⟨(some 35), none, (.slc 2 (.t 33) none (some (.t 34)) none)⟩,
             ⟨(some 36), none, (.load 2 true (.t 4))⟩,
             ⟨(some 37), none, (.call 24 [(.t 35), (.t 36)])⟩,
             ⟨(some 32), none, (.mov (.t 37))⟩])
          (.cond (.t 32)
            (.seq (.region false [] [
               ⟨(some 2), none, (.mov (.v (.int .i64 7)))⟩])
            .ret)
            .skip)))))))))
    (.region false [] [
       ⟨(some 38), none, (.bin .add 3 (.t 10) (.v (.int .i64 1)))⟩,
       ⟨(some 10), none, (.mov (.t 38))⟩])))))))
  (.seq (.region false [] [
     ⟨(some 2), none, (.mov (.v (.int .i64 0)))⟩])
  .ret))))
theorem k6 : FnIs Try.prog 6 39 [.t 2] a6 := ⟨_, _, Try.func6, rfl, by kernel_rfl, by kernel_rfl, rfl⟩
/- gridhall/alarm.active -/
def a26 : ACode :=
  (.seq (.region false [] [
     ⟨(some 2), none, (.mov (.v (.int .i64 0)))⟩])
  (.seq (.seq (.region false [] [
     ⟨(some 5), none, (.mov (.t 0))⟩,
     ⟨(some 6), none, (.len (.t 5))⟩,
     ⟨(some 7), none, (.bin .gtr 3 (.t 6) (.v (.int .i64 24)))⟩])
  (.cond (.t 7)
    (.seq (.region false [] [
       ⟨(some 2), none, (.mov (.v (.int .i64 2)))⟩])
    .ret)
    .skip))
  (.seq (.seq (.region false [] [
     ⟨(some 8), none, (.mov (.t 0))⟩,
     ⟨(some 9), none, (.len (.t 8))⟩,
     ⟨(some 10), none, (.mov (.v (.int .i64 0)))⟩])
  (.block 0 (.loop (.seq (.region false [] [
       ⟨(some 11), none, (.bin .lss 3 (.t 10) (.t 9))⟩])
    (.seq (.cond (.t 11)
      .skip
      (.exit 0))
    (.seq (.block 1 (.seq (.region false [] [
        ⟨(some 12), none, (.mov (.t 10))⟩,
        ⟨(some 13), none, (.idx 1 (.t 8) (.t 10))⟩,
        ⟨(some 14), none, (.load 1 false (.t 13))⟩,
        ⟨(some 3), none, (.mov (.t 12))⟩,
        ⟨(some 4), none, (.mov (.t 14))⟩])
     (.block 2 (.seq (.region false [] [
         ⟨(some 16), none, (.mov (.t 4))⟩,
         ⟨(some 17), none, (.call 23 [(.t 16)])⟩,
         ⟨(some 18), none, (.un .not (.t 17))⟩,
         ⟨(some 15), none, (.mov (.t 18))⟩])
      (.cond (.t 15)
        (.seq (.region false [] [
           ⟨(some 2), none, (.mov (.v (.int .i64 6)))⟩])
        .ret)
        (.seq (.region false [] [
           ⟨(some 20), none, (.mov (.t 0))⟩,
           ⟨(some 21), none, (.mov (.t 3))⟩,
           ⟨(some 22), none, (.slc 1 (.t 20) none (some (.t 21)) none)⟩,
           ⟨(some 23), none, (.mov (.t 4))⟩,
           ⟨(some 24), none, (.call 10 [(.t 22), (.t 23)])⟩,
           ⟨(some 19), none, (.mov (.t 24))⟩])
        (.cond (.t 19)
          (.seq (.region false [] [
             ⟨(some 2), none, (.mov (.v (.int .i64 7)))⟩])
          .ret)
          .skip)))))))
    (.region false [] [
       ⟨(some 25), none, (.bin .add 3 (.t 10) (.v (.int .i64 1)))⟩,
       ⟨(some 10), none, (.mov (.t 25))⟩])))))))
  (.seq (.region false [] [
     ⟨(some 2), none, (.mov (.v (.int .i64 0)))⟩])
  .ret))))
theorem k26 : FnIs Try.prog 26 26 [.t 2] a26 := ⟨_, _, Try.func26, rfl, by kernel_rfl, by kernel_rfl, rfl⟩

structure Cau where
  of : ByteArray
  by' : ByteArray
instance : Inhabited Cau := ⟨⟨⟨#[]⟩, ⟨#[]⟩⟩⟩
abbrev cac (c : Cau) : List AV := [S c.of, S c.by']
abbrev cas (nl : Option Bool) (fl : Bool) (l : List Cau) : AV := .imm nl fl 2 (l.map cac)
set_option maxRecDepth 20000 in
theorem s23 (x : ByteArray) (hx : x.size ≤ 9223372036854775807) : Aw.Spec Try.prog 23 [] [S x] (Gives (· = B (nm 8 x))) := by
  refine Aw.Spec.givesD k23 mixed rfl rfl rfl fun E hn hnp hp => ?_
  unfold a23
  simp (config := { maxSteps := 2000000 }) only [go_sem, ↓reduceIte, Int.reduceToNat, Nat.reduceMul, Int.reduceBEq, Int.reduceBNe, Nat.reduceBEq, Nat.reduceAdd, Nat.reduceSub, Nat.reduceLeDiff, Nat.reduceEqDiff, Nat.reduceLT, reduceCtorEq]
  have hsz : x.data.toList.length = x.size := by rw [Array.length_toList]; rfl
  refine AWp.loop (fun k s => ∃ i : Nat, i + k = x.data.toList.length ∧ nmOk 0 x.data.toList = nmOk i (x.data.toList.drop i) ∧ Weak E s ⟨[(0, S x), (6, .imm (some false) false 1 (x.data.toList.map fun c => [.val (.int .u8 c.toNat)])), (7, I x.data.toList.length), (8, I i)], []⟩) (n := x.data.toList.length)
    ⟨0, by omega, rfl, weak_to [] hp hnp rfl ⟨rfl, rfl, rfl, rfl, trivial⟩ rfl⟩ ?_
  rintro k s ⟨i, hi, hs, hw⟩
  refine AWp.weak hw (AWp.ofD [] [] hn mixed rfl ?_)
  rcases Nat.lt_or_ge i x.data.toList.length with hlt | hge
  · have e0 : decide ((i : Int) < (x.data.toList.length : Int)) = true := by simp; omega
    have e1 := getD_map (fun c : UInt8 => [.val (.int .u8 c.toNat)]) hlt
    have e2 : IntKind.i64.wrap ((i : Int) + 1) = ((i + 1 : Nat) : Int) := by rw [w64 (by omega) (by omega)]; omega
    have e3 : decide ((0 : Int) < (i : Int)) = decide (0 < i) := by simp
    simp (config := { maxSteps := 2000000 }) only [go_sem, ↓reduceIte, Int.reduceToNat, Nat.reduceMul, Int.reduceBEq, Int.reduceBNe, Nat.reduceBEq, Nat.reduceAdd, Nat.reduceSub, Nat.reduceLeDiff, Nat.reduceEqDiff, Nat.reduceLT, reduceCtorEq, e0, e1, e2, ge_iff_le, gt_iff_lt, e3]
    rw [nmOk_drop hlt] at hs
    generalize (decide ((65 : Int) ≤ x.data.toList[i].toNat) && decide ((x.data.toList[i].toNat : Int) ≤ 90)) = A at *
    generalize decide ((48 : Int) ≤ x.data.toList[i].toNat) = C at *
    generalize decide ((x.data.toList[i].toNat : Int) ≤ 57) = D at *
    generalize decide (0 < i) = F at *
    refine ⟨⟨by omega, by omega⟩, ?_, ?_, fun h => ?_, fun h => ?_⟩
    · exact (by decide : ∀ A F : Bool, A = false → A = false ∧ (F = true → (!A && F) = true)) A F
    · exact (by decide : ∀ A F C : Bool, A = false → A = false ∧ ((F && C) = true → (!A && (F && C)) = true)) A F C
    · have h' : (A || F && C && D) = false := by simpa using h
      unfold nm
      rw [hs, h']; rfl
    · have h' : (A || F && C && D) = true := by
        cases hX : (A || F && C && D) with
        | true => rfl
        | false => rw [hX] at h; cases h
      rw [h', Bool.true_and] at hs
      exact ⟨k - 1, by omega, i + 1, by omega, hs, weak_to [] hp hnp rfl (by simp (config := { maxSteps := 2000000 }) only [go_sem, ↓reduceIte, Int.reduceToNat, Nat.reduceMul, Int.reduceBEq, Int.reduceBNe, Nat.reduceBEq, Nat.reduceAdd, Nat.reduceSub, Nat.reduceLeDiff, Nat.reduceEqDiff, Nat.reduceLT, reduceCtorEq]) rfl⟩
  · have e0 : decide ((i : Int) < (x.data.toList.length : Int)) = false := by simp; omega
    simp (config := { maxSteps := 2000000 }) only [go_sem, ↓reduceIte, Int.reduceToNat, Nat.reduceMul, Int.reduceBEq, Int.reduceBNe, Nat.reduceBEq, Nat.reduceAdd, Nat.reduceSub, Nat.reduceLeDiff, Nat.reduceEqDiff, Nat.reduceLT, reduceCtorEq, e0]
    unfold nm
    rw [hs, List.drop_of_length_le hge]
    simp only [nmOk, Bool.true_and]

def cauEq (x y : Cau) : Bool := x.of.toList == y.of.toList && x.by'.toList == y.by'.toList
theorem s40 (nil full) (l : List Cau) (x : Cau) (hl : l.length ≤ 9223372036854775807) : Aw.Spec Try.prog 40 [] [cas nil full l, .agg (cac x)] (Gives (· = I (fIndex (cauEq x) 0 l))) := by
  refine Aw.Spec.givesD k40 mixed rfl rfl rfl fun E hn hnp hp => ?_
  unfold a40
  simp (config := { maxSteps := 2000000 }) only [go_sem, ↓reduceIte, Int.reduceToNat, Nat.reduceMul, Int.reduceBEq, Int.reduceBNe, Nat.reduceBEq, Nat.reduceAdd, Nat.reduceSub, Nat.reduceLeDiff, Nat.reduceEqDiff, Nat.reduceLT, reduceCtorEq]
  refine AWp.loop (fun k s => ∃ i : Nat, i + k = l.length ∧ fIndex (cauEq x) 0 l = fIndex (cauEq x) i (l.drop i) ∧ Weak E s ⟨[(0, cas nil full l), (3, .ptr 0 0 0), (7, I l.length), (8, I i)], [.box 28 (cac x)]⟩) (n := l.length)
    ⟨0, by omega, rfl, weak_to [0] hp hnp rfl (by simp (config := { maxSteps := 2000000 }) only [go_sem, ↓reduceIte, Int.reduceToNat, Nat.reduceMul, Int.reduceBEq, Int.reduceBNe, Nat.reduceBEq, Nat.reduceAdd, Nat.reduceSub, Nat.reduceLeDiff, Nat.reduceEqDiff, Nat.reduceLT, reduceCtorEq, Int.natCast_zero, Aw.pos]) (by simp (config := { maxSteps := 2000000 }) only [go_sem, ↓reduceIte, Int.reduceToNat, Nat.reduceMul, Int.reduceBEq, Int.reduceBNe, Nat.reduceBEq, Nat.reduceAdd, Nat.reduceSub, Nat.reduceLeDiff, Nat.reduceEqDiff, Nat.reduceLT, reduceCtorEq, Aw.renR, Aw.pos])⟩ ?_
  rintro k s ⟨i, hi, hs, hw⟩
  refine AWp.weak hw (AWp.ofD [] [] hn mixed rfl ?_)
  rcases Nat.lt_or_ge i l.length with hlt | hge
  · have e0 : decide ((i : Int) < (l.length : Int)) = true := decide_eq_true (by omega)
    have e1 := getD_map cac hlt
    have e2 : IntKind.i64.wrap ((i : Int) + 1) = ((i + 1 : Nat) : Int) := by rw [w64 (by omega) (by omega)]; omega
    rw [fIndex_drop hlt] at hs
    have e3 : cauEq x l[i] = (x.of.toList == l[i].of.toList && x.by'.toList == l[i].by'.toList) := rfl
    simp (config := { maxSteps := 2000000 }) only [go_sem, ↓reduceIte, Int.reduceToNat, Nat.reduceMul, Int.reduceBEq, Int.reduceBNe, Nat.reduceBEq, Nat.reduceAdd, Nat.reduceSub, Nat.reduceLeDiff, Nat.reduceEqDiff, Nat.reduceLT, reduceCtorEq, e0, e1, e2]
    (repeat (refine And.intro (by first | omega | (refine ⟨by omega, by omega⟩) | (refine ⟨by omega, by omega, by omega⟩) | (simp only [List.length_map, List.length_range, List.length_append, List.length_cons, List.length_nil, List.length_replicate, List.length_set]; omega) | (simp; omega) | (intro hgd; cases hgd) | (intro hgd; refine ⟨hgd, ?_⟩; first | omega | (refine ⟨by omega, by omega⟩) | (simp; omega))) ?_))
    rw [← e3]
    refine ⟨fun h => ?_, fun h => ?_⟩
    · rw [hs, if_pos h]
    · rw [if_neg (by rw [h]; decide)] at hs
      exact ⟨k - 1, by omega, i + 1, by omega, hs, weak_to [0] hp hnp rfl (by simp (config := { maxSteps := 2000000 }) only [go_sem, ↓reduceIte, Int.reduceToNat, Nat.reduceMul, Int.reduceBEq, Int.reduceBNe, Nat.reduceBEq, Nat.reduceAdd, Nat.reduceSub, Nat.reduceLeDiff, Nat.reduceEqDiff, Nat.reduceLT, reduceCtorEq, Aw.pos]) (by simp (config := { maxSteps := 2000000 }) only [go_sem, ↓reduceIte, Int.reduceToNat, Nat.reduceMul, Int.reduceBEq, Int.reduceBNe, Nat.reduceBEq, Nat.reduceAdd, Nat.reduceSub, Nat.reduceLeDiff, Nat.reduceEqDiff, Nat.reduceLT, reduceCtorEq, Aw.renR, Aw.pos])⟩
  · have e0 : decide ((i : Int) < (l.length : Int)) = false := decide_eq_false (by omega)
    simp (config := { maxSteps := 2000000 }) only [go_sem, ↓reduceIte, Int.reduceToNat, Nat.reduceMul, Int.reduceBEq, Int.reduceBNe, Nat.reduceBEq, Nat.reduceAdd, Nat.reduceSub, Nat.reduceLeDiff, Nat.reduceEqDiff, Nat.reduceLT, reduceCtorEq, e0]
    rw [hs, List.drop_of_length_le hge]
    rfl
theorem s24 (nil full) (l : List Cau) (x : Cau) (hl : l.length ≤ 9223372036854775807) : Aw.Spec Try.prog 24 [] [cas nil full l, .agg (cac x)] (Gives (· = B (l.any (cauEq x)))) := by
  refine Aw.Spec.givesD k24 mixed rfl rfl rfl fun E hn hnp hp => ?_
  unfold a24
  simp (config := { maxSteps := 2000000 }) only [go_sem, ↓reduceIte, Int.reduceToNat, Nat.reduceMul, Int.reduceBEq, Int.reduceBNe, Nat.reduceBEq, Nat.reduceAdd, Nat.reduceSub, Nat.reduceLeDiff, Nat.reduceEqDiff, Nat.reduceLT, reduceCtorEq]
  (refine AWpL.calle (s40 nil full l x hl) rfl (by rw [hn]; rfl) (by simp (config := { maxSteps := 2000000 }) only [go_sem, ↓reduceIte, Int.reduceToNat, Nat.reduceMul, Int.reduceBEq, Int.reduceBNe, Nat.reduceBEq, Nat.reduceAdd, Nat.reduceSub, Nat.reduceLeDiff, Nat.reduceEqDiff, Nat.reduceLT, reduceCtorEq]) (AWpL.ofM hn rfl ?_); simp (config := { maxSteps := 2000000 }) only [go_sem, ↓reduceIte, Int.reduceToNat, Nat.reduceMul, Int.reduceBEq, Int.reduceBNe, Nat.reduceBEq, Nat.reduceAdd, Nat.reduceSub, Nat.reduceLeDiff, Nat.reduceEqDiff, Nat.reduceLT, reduceCtorEq])
  rw [fIndex_any]
def causeE (pre : List Cau) (c : Cau) : Int := if (!nm 8 c.of || !nm 8 c.by') = true then 6 else if (c.of.toList == c.by'.toList) = true then 3 else if pre.any (cauEq c) = true then 7 else 0
def causeGo : List Cau → List Cau → Int
  | _, [] => 0
  | pre, c :: l => if causeE pre c ≠ 0 then causeE pre c else causeGo (pre ++ [c]) l
def causesF (l : List Cau) : Int := if 40 < l.length then 2 else causeGo [] l
theorem causeGo_drop {pre l : List Cau} {j : Nat} (h : j < l.length) : causeGo pre (l.drop j) = if causeE pre l[j] ≠ 0 then causeE pre l[j] else causeGo (pre ++ [l[j]]) (l.drop (j + 1)) := by
  rw [List.drop_eq_getElem_cons h]; rfl
def CauOk (c : Cau) : Prop := c.of.size ≤ 9223372036854775807 ∧ c.by'.size ≤ 9223372036854775807
set_option maxRecDepth 20000 in
theorem s6 (nl fl) (l : List Cau) (hs : ∀ c ∈ l, CauOk c) : Aw.Spec Try.prog 6 [] [cas nl fl l] (Gives (· = I (causesF l))) := by
  refine Aw.Spec.givesD k6 mixed rfl rfl rfl fun E hn hnp hp => ?_
  unfold a6
  simp (config := { maxSteps := 2000000 }) only [go_sem, ↓reduceIte, Int.reduceToNat, Nat.reduceMul, Int.reduceBEq, Int.reduceBNe, Nat.reduceBEq, Nat.reduceAdd, Nat.reduceSub, Nat.reduceLeDiff, Nat.reduceEqDiff, Nat.reduceLT, reduceCtorEq]
  simp only [decide_eq_true_eq, decide_eq_false_iff_not]
  unfold causesF
  refine ⟨fun h => ?_, fun h => ?_⟩
  · rw [if_pos (by omega)]
  rw [if_neg (by omega)]
  refine AWp.loop (fun k s => ∃ i : Nat, i + k = l.length ∧ causeGo [] l = causeGo (l.take i) (l.drop i) ∧ Weak E s ⟨[(0, cas nl fl l), (8, cas nl fl l), (9, I l.length), (10, I i)], []⟩) (n := l.length)
    ⟨0, by omega, rfl, weak_to [] hp hnp rfl (by simp (config := { maxSteps := 2000000 }) only [go_sem, ↓reduceIte, Int.reduceToNat, Nat.reduceMul, Int.reduceBEq, Int.reduceBNe, Nat.reduceBEq, Nat.reduceAdd, Nat.reduceSub, Nat.reduceLeDiff, Nat.reduceEqDiff, Nat.reduceLT, reduceCtorEq, Int.natCast_zero]) rfl⟩ ?_
  rintro k s ⟨i, hik, hs2, hw⟩
  refine AWp.weak hw (AWp.ofD [] [] hn mixed rfl ?_)
  rcases Nat.lt_or_ge i l.length with hlt | hge
  · have e0 : decide ((i : Int) < (l.length : Int)) = true := decide_eq_true (by omega)
    have e1 := getD_map cac hlt
    have e2 : IntKind.i64.wrap ((i : Int) + 1) = ((i + 1 : Nat) : Int) := by rw [w64 (by omega) (by omega)]; omega
    obtain ⟨hn1, hn2⟩ := hs _ (List.getElem_mem hlt)
    rw [causeGo_drop hlt] at hs2
    have htk := take_get hlt
    have hE : causeE (l.take i) l[i] = if (!nm 8 l[i].of || !nm 8 l[i].by') = true then 6 else if (l[i].of.toList == l[i].by'.toList) = true then 3 else if (l.take i).any (cauEq l[i]) = true then 7 else 0 := rfl
    generalize l[i] = x at *
    simp (config := { maxSteps := 2000000 }) only [go_sem, ↓reduceIte, Int.reduceToNat, Nat.reduceMul, Int.reduceBEq, Int.reduceBNe, Nat.reduceBEq, Nat.reduceAdd, Nat.reduceSub, Nat.reduceLeDiff, Nat.reduceEqDiff, Nat.reduceLT, reduceCtorEq, e0, e1]
    (repeat (refine And.intro (by first | omega | (refine ⟨by omega, by omega⟩) | (refine ⟨by omega, by omega, by omega⟩) | (simp only [List.length_map, List.length_range, List.length_append, List.length_cons, List.length_nil, List.length_replicate, List.length_set]; omega) | (simp; omega) | (intro hgd; cases hgd) | (intro hgd; refine ⟨hgd, ?_⟩; first | omega | (refine ⟨by omega, by omega⟩) | (simp; omega))) ?_))
    (refine AWpL.calle (s23 x.of hn1) rfl (by rw [hn]; rfl) (by simp (config := { maxSteps := 2000000 }) only [go_sem, ↓reduceIte, Int.reduceToNat, Nat.reduceMul, Int.reduceBEq, Int.reduceBNe, Nat.reduceBEq, Nat.reduceAdd, Nat.reduceSub, Nat.reduceLeDiff, Nat.reduceEqDiff, Nat.reduceLT, reduceCtorEq]) (AWpL.ofM hn rfl ?_); simp (config := { maxSteps := 2000000 }) only [go_sem, ↓reduceIte, Int.reduceToNat, Nat.reduceMul, Int.reduceBEq, Int.reduceBNe, Nat.reduceBEq, Nat.reduceAdd, Nat.reduceSub, Nat.reduceLeDiff, Nat.reduceEqDiff, Nat.reduceLT, reduceCtorEq])
    refine AWpL.gcalle (b := !(!nm 8 x.of)) (by simp (config := { maxSteps := 2000000 }) only [go_sem, ↓reduceIte, Int.reduceToNat, Nat.reduceMul, Int.reduceBEq, Int.reduceBNe, Nat.reduceBEq, Nat.reduceAdd, Nat.reduceSub, Nat.reduceLeDiff, Nat.reduceEqDiff, Nat.reduceLT, reduceCtorEq]) (fun _ => s23 x.by' hn2) rfl (by rw [hn]; rfl) (fun hb => by simp (config := { maxSteps := 2000000 }) only [go_sem, ↓reduceIte, Int.reduceToNat, Nat.reduceMul, Int.reduceBEq, Int.reduceBNe, Nat.reduceBEq, Nat.reduceAdd, Nat.reduceSub, Nat.reduceLeDiff, Nat.reduceEqDiff, Nat.reduceLT, reduceCtorEq, hb] <;> simpa using hb) (AWpL.ofM hn rfl ?_)
    simp (config := { maxSteps := 2000000 }) only [go_sem, ↓reduceIte, Int.reduceToNat, Nat.reduceMul, Int.reduceBEq, Int.reduceBNe, Nat.reduceBEq, Nat.reduceAdd, Nat.reduceSub, Nat.reduceLeDiff, Nat.reduceEqDiff, Nat.reduceLT, reduceCtorEq]
    refine ⟨fun h1 => ?_, fun h1 => ?_⟩
    · rw [if_pos h1] at hE
      rw [hs2, hE, if_pos (by decide)]
    rw [if_neg (by rw [h1]; decide)] at hE
    refine ⟨fun h2 => ?_, fun h2 => ?_⟩
    · rw [if_pos h2] at hE
      rw [hs2, hE, if_pos (by decide)]
    rw [if_neg (by rw [h2]; decide)] at hE
    refine ⟨⟨by omega, by omega, by omega⟩, ?_⟩
    have e3 : (l.map cac).take i = (l.take i).map cac := List.map_take.symm
    rw [e3]
    refine AWpQ.calle (s24 nl false (l.take i) x (by rw [List.length_take]; omega)) (by rw [hn]; rfl) (by simp (config := { maxSteps := 2000000 }) only [go_sem, ↓reduceIte, Int.reduceToNat, Nat.reduceMul, Int.reduceBEq, Int.reduceBNe, Nat.reduceBEq, Nat.reduceAdd, Nat.reduceSub, Nat.reduceLeDiff, Nat.reduceEqDiff, Nat.reduceLT, reduceCtorEq]) (AWpQ.of hn rfl ?_)
    simp (config := { maxSteps := 2000000 }) only [go_sem, ↓reduceIte, Int.reduceToNat, Nat.reduceMul, Int.reduceBEq, Int.reduceBNe, Nat.reduceBEq, Nat.reduceAdd, Nat.reduceSub, Nat.reduceLeDiff, Nat.reduceEqDiff, Nat.reduceLT, reduceCtorEq]
    refine ⟨fun h3 => ?_, fun h3 => ?_⟩
    · rw [if_pos h3] at hE
      rw [hs2, hE, if_pos (by decide)]
    rw [if_neg (by rw [h3]; decide)] at hE
    rw [hE, if_neg (by decide)] at hs2
    simp (config := { maxSteps := 2000000 }) only [go_sem, ↓reduceIte, Int.reduceToNat, Nat.reduceMul, Int.reduceBEq, Int.reduceBNe, Nat.reduceBEq, Nat.reduceAdd, Nat.reduceSub, Nat.reduceLeDiff, Nat.reduceEqDiff, Nat.reduceLT, reduceCtorEq, e2]
    exact ⟨k - 1, by omega, i + 1, by omega, by rw [htk]; exact hs2, weak_to [] hp hnp rfl (by simp (config := { maxSteps := 2000000 }) only [go_sem, ↓reduceIte, Int.reduceToNat, Nat.reduceMul, Int.reduceBEq, Int.reduceBNe, Nat.reduceBEq, Nat.reduceAdd, Nat.reduceSub, Nat.reduceLeDiff, Nat.reduceEqDiff, Nat.reduceLT, reduceCtorEq]) rfl⟩
  · have e0 : decide ((i : Int) < (l.length : Int)) = false := decide_eq_false (by omega)
    rw [List.drop_of_length_le hge] at hs2
    rw [hs2]
    simp (config := { maxSteps := 2000000 }) only [go_sem, ↓reduceIte, Int.reduceToNat, Nat.reduceMul, Int.reduceBEq, Int.reduceBNe, Nat.reduceBEq, Nat.reduceAdd, Nat.reduceSub, Nat.reduceLeDiff, Nat.reduceEqDiff, Nat.reduceLT, reduceCtorEq, e0]
    rfl
def actE (pre : List ByteArray) (x : ByteArray) : Int := if nm 8 x = false then 6 else if pre.any (seq x) = true then 7 else 0
def actGo : List ByteArray → List ByteArray → Int
  | _, [] => 0
  | pre, x :: l => if actE pre x ≠ 0 then actE pre x else actGo (pre ++ [x]) l
def actF (l : List ByteArray) : Int := if 24 < l.length then 2 else actGo [] l
theorem actGo_drop {pre l : List ByteArray} {j : Nat} (h : j < l.length) : actGo pre (l.drop j) = if actE pre l[j] ≠ 0 then actE pre l[j] else actGo (pre ++ [l[j]]) (l.drop (j + 1)) := by
  rw [List.drop_eq_getElem_cons h]; rfl
set_option maxRecDepth 20000 in
theorem s26 (nl fl) (l : List ByteArray) (hs : ∀ x ∈ l, x.size ≤ 9223372036854775807) : Aw.Spec Try.prog 26 [] [ss nl fl l] (Gives (· = I (actF l))) := by
  refine Aw.Spec.givesD k26 mixed rfl rfl rfl fun E hn hnp hp => ?_
  unfold a26
  simp (config := { maxSteps := 2000000 }) only [go_sem, ↓reduceIte, Int.reduceToNat, Nat.reduceMul, Int.reduceBEq, Int.reduceBNe, Nat.reduceBEq, Nat.reduceAdd, Nat.reduceSub, Nat.reduceLeDiff, Nat.reduceEqDiff, Nat.reduceLT, reduceCtorEq]
  simp only [decide_eq_true_eq, decide_eq_false_iff_not]
  unfold actF
  refine ⟨fun h => ?_, fun h => ?_⟩
  · rw [if_pos (by omega)]
  rw [if_neg (by omega)]
  refine AWp.loop (fun k s => ∃ i : Nat, i + k = l.length ∧ actGo [] l = actGo (l.take i) (l.drop i) ∧ Weak E s ⟨[(0, ss nl fl l), (8, ss nl fl l), (9, I l.length), (10, I i)], []⟩) (n := l.length)
    ⟨0, by omega, rfl, weak_to [] hp hnp rfl (by simp (config := { maxSteps := 2000000 }) only [go_sem, ↓reduceIte, Int.reduceToNat, Nat.reduceMul, Int.reduceBEq, Int.reduceBNe, Nat.reduceBEq, Nat.reduceAdd, Nat.reduceSub, Nat.reduceLeDiff, Nat.reduceEqDiff, Nat.reduceLT, reduceCtorEq, Int.natCast_zero]) rfl⟩ ?_
  rintro k s ⟨i, hik, hs2, hw⟩
  refine AWp.weak hw (AWp.ofD [] [] hn mixed rfl ?_)
  rcases Nat.lt_or_ge i l.length with hlt | hge
  · have e0 : decide ((i : Int) < (l.length : Int)) = true := decide_eq_true (by omega)
    have e1 := getD_map sc hlt
    have e2 : IntKind.i64.wrap ((i : Int) + 1) = ((i + 1 : Nat) : Int) := by rw [w64 (by omega) (by omega)]; omega
    have hn1 := hs _ (List.getElem_mem hlt)
    rw [actGo_drop hlt] at hs2
    have htk := take_get hlt
    have hE : actE (l.take i) l[i] = if nm 8 l[i] = false then 6 else if (l.take i).any (seq l[i]) = true then 7 else 0 := rfl
    generalize l[i] = x at *
    simp (config := { maxSteps := 2000000 }) only [go_sem, ↓reduceIte, Int.reduceToNat, Nat.reduceMul, Int.reduceBEq, Int.reduceBNe, Nat.reduceBEq, Nat.reduceAdd, Nat.reduceSub, Nat.reduceLeDiff, Nat.reduceEqDiff, Nat.reduceLT, reduceCtorEq, e0, e1]
    (repeat (refine And.intro (by first | omega | (refine ⟨by omega, by omega⟩) | (refine ⟨by omega, by omega, by omega⟩) | (simp only [List.length_map, List.length_range, List.length_append, List.length_cons, List.length_nil, List.length_replicate, List.length_set]; omega) | (simp; omega) | (intro hgd; cases hgd) | (intro hgd; refine ⟨hgd, ?_⟩; first | omega | (refine ⟨by omega, by omega⟩) | (simp; omega))) ?_))
    (refine AWpL.calle (s23 x hn1) rfl (by rw [hn]; rfl) (by simp (config := { maxSteps := 2000000 }) only [go_sem, ↓reduceIte, Int.reduceToNat, Nat.reduceMul, Int.reduceBEq, Int.reduceBNe, Nat.reduceBEq, Nat.reduceAdd, Nat.reduceSub, Nat.reduceLeDiff, Nat.reduceEqDiff, Nat.reduceLT, reduceCtorEq]) (AWpL.ofM hn rfl ?_); simp (config := { maxSteps := 2000000 }) only [go_sem, ↓reduceIte, Int.reduceToNat, Nat.reduceMul, Int.reduceBEq, Int.reduceBNe, Nat.reduceBEq, Nat.reduceAdd, Nat.reduceSub, Nat.reduceLeDiff, Nat.reduceEqDiff, Nat.reduceLT, reduceCtorEq])
    refine ⟨fun h1 => ?_, fun h1 => ?_⟩
    · rw [if_pos (by simpa using h1)] at hE
      rw [hs2, hE, if_pos (by decide)]
    rw [if_neg (by simpa using h1)] at hE
    refine ⟨⟨by omega, by omega, by omega⟩, ?_⟩
    have e3 : (l.map sc).take i = (l.take i).map sc := List.map_take.symm
    rw [e3]
    (refine AWpL.calle (s10 nl false (l.take i) x (by rw [List.length_take]; omega)) rfl (by rw [hn]; rfl) (by simp (config := { maxSteps := 2000000 }) only [go_sem, ↓reduceIte, Int.reduceToNat, Nat.reduceMul, Int.reduceBEq, Int.reduceBNe, Nat.reduceBEq, Nat.reduceAdd, Nat.reduceSub, Nat.reduceLeDiff, Nat.reduceEqDiff, Nat.reduceLT, reduceCtorEq]) (AWpL.ofM hn rfl ?_); simp (config := { maxSteps := 2000000 }) only [go_sem, ↓reduceIte, Int.reduceToNat, Nat.reduceMul, Int.reduceBEq, Int.reduceBNe, Nat.reduceBEq, Nat.reduceAdd, Nat.reduceSub, Nat.reduceLeDiff, Nat.reduceEqDiff, Nat.reduceLT, reduceCtorEq])
    refine ⟨fun h3 => ?_, fun h3 => ?_⟩
    · rw [if_pos h3] at hE
      rw [hs2, hE, if_pos (by decide)]
    rw [if_neg (by rw [h3]; decide)] at hE
    rw [hE, if_neg (by decide)] at hs2
    simp (config := { maxSteps := 2000000 }) only [go_sem, ↓reduceIte, Int.reduceToNat, Nat.reduceMul, Int.reduceBEq, Int.reduceBNe, Nat.reduceBEq, Nat.reduceAdd, Nat.reduceSub, Nat.reduceLeDiff, Nat.reduceEqDiff, Nat.reduceLT, reduceCtorEq, e2]
    exact ⟨k - 1, by omega, i + 1, by omega, by rw [htk]; exact hs2, weak_to [] hp hnp rfl (by simp (config := { maxSteps := 2000000 }) only [go_sem, ↓reduceIte, Int.reduceToNat, Nat.reduceMul, Int.reduceBEq, Int.reduceBNe, Nat.reduceBEq, Nat.reduceAdd, Nat.reduceSub, Nat.reduceLeDiff, Nat.reduceEqDiff, Nat.reduceLT, reduceCtorEq]) rfl⟩
  · have e0 : decide ((i : Int) < (l.length : Int)) = false := decide_eq_false (by omega)
    rw [List.drop_of_length_le hge] at hs2
    rw [hs2]
    simp (config := { maxSteps := 2000000 }) only [go_sem, ↓reduceIte, Int.reduceToNat, Nat.reduceMul, Int.reduceBEq, Int.reduceBNe, Nat.reduceBEq, Nat.reduceAdd, Nat.reduceSub, Nat.reduceLeDiff, Nat.reduceEqDiff, Nat.reduceLT, reduceCtorEq, e0]
    rfl
end Go.Proofs.Ytoickofcmngdjaa
