/- Orders: Plan. -/
import Derived.Test.YtkbipopkemfhaaaAwZg
import Derived.Test.YtkbipopkemfhaaaOrdI
set_option linter.unusedVariables false
set_option linter.unusedSimpArgs false
namespace Go.Proofs.Ytkbipopkemfhaaa
open Go.Proofs.Ytkbipopkemfhaaa.Aw
attribute [local go_sem] Int.natCast_zero Int.natCast_one bne_self_eq_false beq_self_eq_true Bool.not_true Bool.not_false Option.isSome_none Option.isSome_some Aw.bkM_nil Option.getD_some Option.getD_none Nat.sub_zero Int.toNat_zero Aw.frzS Aw.frzT Aw.frzA Aw.frzL Aw.frzR Aw.frzO Aw.frzOL Aw.frzOT Aw.frzOR Aw.killS Aw.mapT Aw.mapR Aw.killM Aw.resAVs Aw.resAV Aw.quietOps Aw.wpP Aw.wpT Aw.wpS Aw.AOp.mild List.getElem?_cons_zero List.getElem?_cons_succ Bool.and_false Bool.and_self Bool.false_and Aw.opOb Aw.gdB Aw.Rnd Aw.subTm List.length_map Int.toNat_natCast and_self Aw.SeqC Aw.stops Aw.Ends Aw.looks Aw.renA Aw.renL Aw.renT Aw.renS Aw.wpO Aw.aop Aw.putTm Aw.St.ev Aw.St.put Aw.St.putO Aw.binAV Aw.intBin Aw.strBin Aw.pickAV Aw.optInt Aw.AV.strip Aw.AV.guard Aw.AV.cells Aw.gdOb Aw.AOp.opds Aw.AOp.still Aw.ptrCells Aw.St.reg Aw.fillAV Aw.fillOb Aw.elsOb Aw.splice Aw.firm Aw.cellish Aw.AV.shut Aw.shutAll Aw.Seq Aw.Blk Aw.retS_nil Aw.mapA Aw.mapL Aw.borA Aw.borOb Aw.allOb Aw.tupOf Aw.params Aw.Opd.of Array.toList Value.cells List.map_cons List.map_nil List.getD_cons_zero List.getD_cons_succ List.getD_nil List.length_cons List.length_nil List.take_succ_cons List.take_zero List.take_nil List.drop_zero List.drop_succ_cons List.drop_nil List.set_cons_zero List.set_cons_succ List.append_nil List.nil_append List.cons_append List.all_cons List.all_nil cond_false cond_true if_true if_false true_and and_true Bool.and_true Bool.true_and Option.map_some Option.map_none false_implies forall_const implies_true forall_eq imp_self Bool.cond_false_right Bool.cond_true_left beq_true beq_false Bool.not_eq_true' Bool.false_eq_true Nat.zero_add Nat.add_zero Aw.eqCells Aw.stopDraw Aw.skipS Aw.exactCap Aw.revealS Aw.srcEls Aw.srcSz
attribute [local go_sem ↓] Aw.look_nil Aw.look_ite Aw.wpL_nil Aw.wpL_op Aw.wpL_gd Aw.wpQ_nil Aw.wpQ_op Aw.wpQ_gd Aw.wpC_draw Aw.wpC_reg Aw.wpC_skip Aw.wpC_ret Aw.wpC_exit Aw.wpC_seq Aw.wpC_block Aw.wpC_loop Aw.wpC_cond Aw.stopAt_nil Aw.stopAt_cons Aw.wpD_skip Aw.wpD_ret Aw.wpD_exit Aw.wpD_region Aw.wpD_draw Aw.wpM_nil Aw.wpM_op Aw.wpM_gd Aw.wpD_seq Aw.wpD_block Aw.wpD_loop Aw.wpD_cond
/- gridhall/order.Plan -/
def a8 : ACode :=
  (.seq (.region false [] [
     ⟨(some 8), none, (.mov (.v (.slice none 0 0)))⟩,
     ⟨(some 9), none, (.mov (.v (.int .i64 0)))⟩])
  (.seq (.seq (.region false [] [
     ⟨(some 19), none, (.mov (.t 0))⟩,
     ⟨(some 20), none, (.call 18 [(.t 19)])⟩,
     ⟨(some 10), none, (.mov (.t 20))⟩])
  (.seq (.region false [] [
     ⟨(some 21), none, (.mov (.t 10))⟩,
     ⟨(some 22), none, (.bin .neq 26 (.t 21) (.v (.int .i64 0)))⟩])
  (.cond (.t 22)
    (.seq (.region false [] [
       ⟨(some 23), none, (.mov (.t 10))⟩,
       ⟨(some 8), none, (.mov (.v (.slice none 0 0)))⟩,
       ⟨(some 9), none, (.mov (.t 23))⟩])
    .ret)
    .skip)))
  (.seq (.seq (.region false [] [
     ⟨(some 24), none, (.mov (.t 1))⟩,
     ⟨(some 25), none, (.mov (.t 2))⟩,
     ⟨(some 26), none, (.build (.agg #[(.slice none 0 0), (.slice none 0 0)]) [(0, (1, (.t 24))), (1, (1, (.t 25)))])⟩,
     ⟨(some 27), none, (.mov (.v (.int .i64 0)))⟩])
  (.block 0 (.loop (.seq (.region false [] [
       ⟨(some 28), none, (.bin .lss 3 (.t 27) (.v (.int .i64 2)))⟩])
    (.seq (.cond (.t 28)
      .skip
      (.exit 0))
    (.seq (.block 1 (.seq (.region false [] [
        ⟨(some 29), none, (.idxv 2 1 false (.t 26) (.t 27))⟩,
        ⟨(some 12), none, (.mov (.t 29))⟩])
     (.seq (.region false [] [
        ⟨(some 30), none, (.mov (.t 12))⟩,
        ⟨(some 31), none, (.call 19 [(.t 30)])⟩,
        ⟨(some 13), none, (.mov (.t 31))⟩])
     (.seq (.region false [] [
        ⟨(some 32), none, (.mov (.t 13))⟩,
        ⟨(some 33), none, (.bin .neq 26 (.t 32) (.v (.int .i64 0)))⟩])
     (.cond (.t 33)
       (.seq (.region false [] [
          ⟨(some 34), none, (.mov (.t 13))⟩,
          ⟨(some 8), none, (.mov (.v (.slice none 0 0)))⟩,
          ⟨(some 9), none, (.mov (.t 34))⟩])
       .ret)
       .skip)))))
    (.region false [] [
       ⟨(some 35), none, (.bin .add 3 (.t 27) (.v (.int .i64 1)))⟩,
       ⟨(some 27), none, (.mov (.t 35))⟩])))))))
  (.seq (.seq (.region false [] [
     ⟨(some 36), none, (.mov (.t 1))⟩,
     ⟨(some 37), none, (.len (.t 36))⟩,
     ⟨(some 38), none, (.bin .gtr 3 (.t 37) (.v (.int .i64 8)))⟩,
     ⟨(some 39), none, (.mov (.t 38))⟩,
     ⟨(some 40), (some (39, false)), (.mov (.t 3))⟩,
     ⟨(some 41), (some (39, false)), (.len (.t 40))⟩,
     ⟨(some 42), (some (39, false)), (.bin .gtr 3 (.t 41) (.v (.int .i64 256)))⟩,
     ⟨(some 43), none, (.pick (.t 39) (.v (.bool true)) (.t 42))⟩])
  (.cond (.t 43)
    (.seq (.region false [] [
       ⟨(some 8), none, (.mov (.v (.slice none 0 0)))⟩,
       ⟨(some 9), none, (.mov (.v (.int .i64 2)))⟩])
    .ret)
    .skip))
  (.seq (.seq (.region false [] [
     ⟨(some 44), none, (.mov (.t 1))⟩,
     ⟨(some 45), none, (.mov (.t 2))⟩,
     ⟨(some 46), none, (.call 20 [(.t 44), (.t 45), (.v (.func (.func 21) #[] #[]))])⟩,
     ⟨(some 47), none, (.un .not (.t 46))⟩])
  (.cond (.t 47)
    (.seq (.region false [] [
       ⟨(some 8), none, (.mov (.v (.slice none 0 0)))⟩,
       ⟨(some 9), none, (.mov (.v (.int .i64 3)))⟩])
    .ret)
    .skip))
  (.seq (.region false [] [
     ⟨(some 48), none, (.mov (.t 0))⟩,
     ⟨(some 49), none, (.mov (.t 1))⟩,
     ⟨(some 50), none, (.mov (.t 3))⟩,
     ⟨(some 51), none, (.build (.agg #[(.slice none 0 0), (.slice none 0 0), (.slice none 0 0), (.slice none 0 0)]) [(0, (1, (.t 48))), (1, (1, (.t 49))), (2, (1, (.t 50)))])⟩,
     ⟨(some 52), none, (.box 60 (.t 51))⟩,
     ⟨(some 14), none, (.mov (.t 52))⟩])
  (.seq (.region false [] [
     ⟨(some 53), none, (.mov (.t 14))⟩,
     ⟨(some 54), none, (.mov (.t 2))⟩,
     ⟨(some 55), none, (.call 23 [(.t 54)])⟩,
     ⟨(some 56), none, (.call 22 [(.t 53), (.t 55)])⟩])
  (.seq (.region false [] [
     ⟨(some 57), none, (.mov (.t 1))⟩,
     ⟨(some 58), none, (.call 23 [(.t 57)])⟩,
     ⟨(some 15), none, (.mov (.t 58))⟩])
  (.seq (.seq (.region false [] [
     ⟨(some 59), none, (.mov (.t 14))⟩,
     ⟨(some 60), none, (.nilc (.t 59))⟩,
     ⟨(some 61), none, (.fld 3 (.t 60))⟩,
     ⟨(some 62), none, (.load 1 false (.t 61))⟩,
     ⟨(some 63), none, (.mov (.t 15))⟩,
     ⟨(some 64), none, (.idx 1 (.t 62) (.t 63))⟩,
     ⟨(some 65), none, (.load 1 false (.t 64))⟩,
     ⟨(some 66), none, (.bin .lss 3 (.t 65) (.v (.int .i64 0)))⟩])
  (.cond (.t 66)
    (.seq (.region false [] [
       ⟨(some 8), none, (.mov (.v (.slice none 0 0)))⟩,
       ⟨(some 9), none, (.mov (.v (.int .i64 8)))⟩])
    .ret)
    .skip))
  (.seq (.region false [] [
     ⟨(some 16), none, (.mov (.v (.slice none 0 0)))⟩])
  (.seq (.block 2 (.loop (.seq (.seq (.region false [] [
       ⟨(some 67), none, (.mov (.t 14))⟩,
       ⟨(some 68), none, (.nilc (.t 67))⟩,
       ⟨(some 69), none, (.fld 3 (.t 68))⟩,
       ⟨(some 70), none, (.load 1 false (.t 69))⟩,
       ⟨(some 71), none, (.mov (.t 15))⟩,
       ⟨(some 72), none, (.idx 1 (.t 70) (.t 71))⟩,
       ⟨(some 73), none, (.load 1 false (.t 72))⟩,
       ⟨(some 74), none, (.bin .gtr 3 (.t 73) (.v (.int .i64 0)))⟩])
    (.cond (.t 74)
      .skip
      (.exit 2)))
    (.block 3 (.seq (.region false [] [
        ⟨(some 75), none, (.mov (.t 1))⟩,
        ⟨(some 76), none, (.len (.t 75))⟩,
        ⟨(some 77), none, (.mov (.v (.int .i64 0)))⟩])
     (.block 4 (.loop (.seq (.region false [] [
          ⟨(some 78), none, (.bin .lss 3 (.t 77) (.t 76))⟩])
       (.seq (.cond (.t 78)
         .skip
         (.exit 4))
       (.seq (.block 5 (.seq (.region false [] [
           ⟨(some 79), none, (.mov (.t 77))⟩,
           ⟨(some 17), none, (.mov (.t 79))⟩])
        (.seq (.region false [] [
           ⟨(some 80), none, (.mov (.t 15))⟩,
           ⟨(some 81), none, (.mov (.t 17))⟩,
           ⟨(some 82), none, (.bin .shl 3 (.v (.int .i64 1)) (.t 81))⟩,
           ⟨(some 83), none, (.bin .xor 3 (.t 80) (.t 82))⟩,
           ⟨(some 18), none, (.mov (.t 83))⟩])
        (.seq (.region true [[], [0], [1], [2], [], [3, 4], [5], [], [7], [8], [9], [], [10, 11], [12], [13], [6, 14], [15], [16], [16], [16], [17, 18, 19, 16, 16], [16, 20]] [
           ⟨(some 84), none, (.mov (.t 14))⟩,
           ⟨(some 85), none, (.nilc (.t 84))⟩,
           ⟨(some 86), none, (.fld 3 (.t 85))⟩,
           ⟨(some 87), none, (.load 1 false (.t 86))⟩,
           ⟨(some 88), none, (.mov (.t 18))⟩,
           ⟨(some 89), none, (.idx 1 (.t 87) (.t 88))⟩,
           ⟨(some 90), none, (.load 1 false (.t 89))⟩,
           ⟨(some 91), none, (.mov (.t 14))⟩,
           ⟨(some 92), none, (.nilc (.t 91))⟩,
           ⟨(some 93), none, (.fld 3 (.t 92))⟩,
           ⟨(some 94), none, (.load 1 false (.t 93))⟩,
           ⟨(some 95), none, (.mov (.t 15))⟩,
           ⟨(some 96), none, (.idx 1 (.t 94) (.t 95))⟩,
           ⟨(some 97), none, (.load 1 false (.t 96))⟩,
           ⟨(some 98), none, (.bin .sub 3 (.t 97) (.v (.int .i64 1)))⟩,
           ⟨(some 99), none, (.bin .eql 3 (.t 90) (.t 98))⟩,
           ⟨(some 100), none, (.mov (.t 99))⟩,
           ⟨(some 101), (some (100, true)), (.mov (.t 14))⟩,
           ⟨(some 102), (some (100, true)), (.mov (.t 15))⟩,
           ⟨(some 103), (some (100, true)), (.mov (.t 17))⟩,
           ⟨(some 104), (some (100, true)), (.call 24 [(.t 101), (.t 102), (.t 103)])⟩,
           ⟨(some 105), none, (.pick (.t 100) (.t 104) (.v (.bool false)))⟩])
        (.cond (.t 105)
          (.seq (.region true [[], [], [], [1, 2], [3], [4], [], [], [6, 7], [8], [9], [5, 10], [11], [0, 12], [13, 13, 0, 1, 2, 3, 4, 5, 6, 7, 8, 9, 10, 11, 12, 13]] [
             ⟨(some 106), none, (.mov (.t 16))⟩,
             ⟨(some 107), none, (.mov (.t 15))⟩,
             ⟨(some 108), none, (.mov (.t 17))⟩,
             ⟨(some 109), none, (.bin .shr 3 (.t 107) (.t 108))⟩,
             ⟨(some 110), none, (.bin .and 3 (.t 109) (.v (.int .i64 1)))⟩,
             ⟨(some 111), none, (.bin .eql 3 (.t 110) (.v (.int .i64 0)))⟩,
             ⟨(some 112), none, (.mov (.t 1))⟩,
             ⟨(some 113), none, (.mov (.t 17))⟩,
             ⟨(some 114), none, (.idx 2 (.t 112) (.t 113))⟩,
             ⟨(some 115), none, (.fld 0 (.t 114))⟩,
             ⟨(some 116), none, (.load 1 false (.t 115))⟩,
             ⟨(some 117), none, (.build (.agg #[(.bool false), (.string ⟨#[]⟩)]) [(0, (1, (.t 111))), (1, (1, (.t 116)))])⟩,
             ⟨(some 118), none, (.bsl 36 2 1 [(0, (.t 117))])⟩,
             ⟨(some 119), none, (.app 36 2 24 (.agg #[(.bool false), (.string ⟨#[]⟩)]) (.t 106) (.t 118))⟩,
             ⟨(some 16), none, (.mov (.t 119))⟩])
          (.seq (.region false [] [
             ⟨(some 120), none, (.mov (.t 18))⟩,
             ⟨(some 15), none, (.mov (.t 120))⟩])
          (.exit 4)))
          .skip)))))
       (.region false [] [
          ⟨(some 121), none, (.bin .add 3 (.t 77) (.v (.int .i64 1)))⟩,
          ⟨(some 77), none, (.mov (.t 121))⟩])))))))))))
  (.seq (.region false [] [
     ⟨(some 122), none, (.mov (.t 16))⟩,
     ⟨(some 8), none, (.mov (.t 122))⟩,
     ⟨(some 9), none, (.mov (.v (.int .i64 0)))⟩])
  .ret))))))))))))
theorem k8 : FnIs Try.prog 8 123 [.t 8, .t 9] a8 := ⟨_, _, Try.func8, rfl, by kernel_rfl, by kernel_rfl, rfl⟩
/- gridhall/order.Plan$1 -/
def a21 : ACode :=
  (.seq (.region false [] [
     ⟨(some 2), none, (.box 33 (.t 0))⟩,
     ⟨(some 3), none, (.box 33 (.t 1))⟩,
     ⟨(some 4), none, (.mov (.v (.bool false)))⟩])
  (.seq (.region false [] [
     ⟨(some 5), none, (.fld 0 (.t 2))⟩,
     ⟨(some 6), none, (.load 1 false (.t 5))⟩,
     ⟨(some 7), none, (.fld 0 (.t 3))⟩,
     ⟨(some 8), none, (.load 1 false (.t 7))⟩,
     ⟨(some 9), none, (.bin .eql 9 (.t 6) (.t 8))⟩,
     ⟨(some 4), none, (.mov (.t 9))⟩])
  .ret))
theorem k21 : FnIs Try.prog 21 10 [.t 4] a21 := ⟨_, _, Try.func21, rfl, by kernel_rfl, by kernel_rfl, rfl⟩
/- slices.EqualFunc[[]gridhall/api.InterlockState,[]gridhall/api.InterlockState,gridhall/api.InterlockState,gridhall/api.InterlockState] -/
def a20 : ACode :=
  (.seq (.region false [] [
     ⟨(some 6), none, (.mov (.v (.bool false)))⟩])
  (.seq (.seq (.region false [] [
     ⟨(some 10), none, (.mov (.t 0))⟩,
     ⟨(some 11), none, (.len (.t 10))⟩,
     ⟨(some 12), none, (.mov (.t 1))⟩,
     ⟨(some 13), none, (.len (.t 12))⟩,
     ⟨(some 14), none, (.bin .neq 3 (.t 11) (.t 13))⟩])
  (.cond (.t 14)
    (.seq (.region false [] [
       ⟨(some 6), none, (.mov (.v (.bool false)))⟩])
    .ret)
    .skip))
  (.seq (.seq (.region false [] [
     ⟨(some 15), none, (.mov (.t 0))⟩,
     ⟨(some 16), none, (.len (.t 15))⟩,
     ⟨(some 17), none, (.mov (.v (.int .i64 0)))⟩])
  (.block 0 (.loop (.seq (.region false [] [
       ⟨(some 18), none, (.bin .lss 3 (.t 17) (.t 16))⟩])
    (.seq (.cond (.t 18)
      .skip
      (.exit 0))
    (.seq (.block 1 (.seq (.region false [] [
        ⟨(some 19), none, (.mov (.t 17))⟩,
        ⟨(some 20), none, (.idx 2 (.t 15) (.t 17))⟩,
        ⟨(some 21), none, (.load 2 true (.t 20))⟩,
        ⟨(some 8), none, (.alloc 33 (.agg #[(.string ⟨#[]⟩), (.bool false)]))⟩,
        ⟨(some 7), none, (.mov (.t 19))⟩,
        ⟨none, none, (.store 2 (.t 8) (.t 21))⟩])
     (.seq (.region false [] [
        ⟨(some 22), none, (.mov (.t 1))⟩,
        ⟨(some 23), none, (.mov (.t 7))⟩,
        ⟨(some 24), none, (.idx 2 (.t 22) (.t 23))⟩,
        ⟨(some 25), none, (.load 2 true (.t 24))⟩,
        ⟨(some 9), none, (.alloc 33 (.agg #[(.string ⟨#[]⟩), (.bool false)]))⟩,
        ⟨none, none, (.store 2 (.t 9) (.t 25))⟩])
     (.seq (.region false [] [
        ⟨(some 26), none, (.mov (.t 2))⟩,
        ⟨(some 27), none, (.load 2 true (.t 8))⟩,
        ⟨(some 28), none, (.load 2 true (.t 9))⟩,
        ⟨(some 29), none, (.callv (.t 26) [(.t 27), (.t 28)])⟩,
        ⟨(some 30), none, (.un .not (.t 29))⟩])
     (.cond (.t 30)
       (.seq (.region false [] [
          ⟨(some 6), none, (.mov (.v (.bool false)))⟩])
       .ret)
       .skip)))))
    (.region false [] [
       ⟨(some 31), none, (.bin .add 3 (.t 17) (.v (.int .i64 1)))⟩,
       ⟨(some 17), none, (.mov (.t 31))⟩])))))))
  (.seq (.region false [] [
     ⟨(some 6), none, (.mov (.v (.bool true)))⟩])
  .ret))))
theorem k20 : FnIs Try.prog 20 32 [.t 6] a20 := ⟨_, _, Try.func20, rfl, by kernel_rfl, by kernel_rfl, rfl⟩

theorem Ent.lit (f : FuncId) : Ent (.val (.func (.func f) #[] #[])) (.fn f []) := fun w ok ρ v h => by
  unfold R at h ⊢
  exact ⟨#[], h, by unfold RList; rfl⟩
/-- The same names in the same order. -/
def nmE : List Sta → List Sta → Bool
  | [], [] => true
  | x :: l, y :: m => seq x.name y.name && nmE l m
  | _, _ => false
theorem nmE_len : ∀ {l m : List Sta}, l.length ≠ m.length → nmE l m = false
  | [], [], h => absurd rfl h
  | [], _ :: _, _ => rfl
  | _ :: _, [], _ => rfl
  | x :: l, y :: m, h => by unfold nmE; rw [nmE_len (by simpa using h), Bool.and_false]
theorem nmE_drop {l m : List Sta} {i : Nat} (h : i < l.length) (h' : i < m.length) : nmE (l.drop i) (m.drop i) = (seq l[i].name m[i].name && nmE (l.drop (i + 1)) (m.drop (i + 1))) := by
  rw [List.drop_eq_getElem_cons h, List.drop_eq_getElem_cons h']; rfl
theorem s21 (x y : Sta) : Aw.Spec Try.prog 21 [] [sta x, sta y] (Gives (· = B (seq x.name y.name))) := by
  refine Aw.Spec.givesD k21 mixed rfl rfl rfl fun E hn hnp hp => ?_
  unfold a21
  simp (config := { maxSteps := 2000000 }) only [go_sem, ↓reduceIte, Int.reduceToNat, Nat.reduceMul, Int.reduceBEq, Int.reduceBNe, Nat.reduceBEq, Nat.reduceAdd, Nat.reduceSub, Nat.reduceLeDiff, Nat.reduceEqDiff, Nat.reduceLT, reduceCtorEq]
  rfl
theorem s20 (nl fl) (l : List Sta) (nm' fm) (m : List Sta) (hl : l.length ≤ 1000) (hm : m.length ≤ 1000) : Aw.Spec Try.prog 20 [] [sts' nl fl l, sts' nm' fm m, .fn 21 []] (Gives (· = B (nmE l m))) := by
  refine Aw.Spec.givesD k20 mixed rfl rfl rfl fun E hn hnp hp => ?_
  unfold a20
  simp (config := { maxSteps := 2000000 }) only [go_sem, ↓reduceIte, Int.reduceToNat, Nat.reduceMul, Int.reduceBEq, Int.reduceBNe, Nat.reduceBEq, Nat.reduceAdd, Nat.reduceSub, Nat.reduceLeDiff, Nat.reduceEqDiff, Nat.reduceLT, reduceCtorEq]
  simp only [bne_iff_ne, ne_eq, bne_eq_false_iff_eq]
  refine ⟨fun h => ?_, fun h => ?_⟩
  · rw [nmE_len (by omega)]
  refine AWp.loop (fun k s => ∃ i : Nat, i + k = l.length ∧ nmE l m = nmE (l.drop i) (m.drop i) ∧ Weak E s ⟨[(1, sts' nm' fm m), (2, .fn 21 []), (15, sts' nl fl l), (16, I l.length), (17, I i)], []⟩) (n := l.length)
    ⟨0, by omega, rfl, weak_to [] hp hnp rfl (by simp (config := { maxSteps := 2000000 }) only [go_sem, ↓reduceIte, Int.reduceToNat, Nat.reduceMul, Int.reduceBEq, Int.reduceBNe, Nat.reduceBEq, Nat.reduceAdd, Nat.reduceSub, Nat.reduceLeDiff, Nat.reduceEqDiff, Nat.reduceLT, reduceCtorEq, Int.natCast_zero]) rfl⟩ ?_
  rintro k s ⟨i, hi, hs, hw⟩
  refine AWp.weak hw (AWp.ofD [] [] hn mixed rfl ?_)
  rcases Nat.lt_or_ge i l.length with hlt | hge
  · have hlm : i < m.length := by omega
    have e0 : decide ((i : Int) < (l.length : Int)) = true := by simp; omega
    have e1 := getD_map stc hlt
    have e3 := getD_map stc hlm
    have e2 : IntKind.i64.wrap ((i : Int) + 1) = ((i + 1 : Nat) : Int) := by rw [w64 (by omega) (by omega)]; omega
    rw [nmE_drop hlt hlm] at hs
    generalize l[i] = x at *
    generalize m[i] = y at *
    simp (config := { maxSteps := 2000000 }) only [go_sem, ↓reduceIte, Int.reduceToNat, Nat.reduceMul, Int.reduceBEq, Int.reduceBNe, Nat.reduceBEq, Nat.reduceAdd, Nat.reduceSub, Nat.reduceLeDiff, Nat.reduceEqDiff, Nat.reduceLT, reduceCtorEq, e0, e1, e2, e3]
    (repeat (refine And.intro (by first | omega | (refine ⟨by omega, by omega⟩) | (refine ⟨by omega, by omega, by omega⟩) | (simp only [List.length_map, List.length_range, List.length_append, List.length_cons, List.length_nil, List.length_replicate, List.length_set]; omega) | (simp; omega) | (intro hgd; cases hgd) | (intro hgd; refine ⟨hgd, ?_⟩; first | omega | (refine ⟨by omega, by omega⟩) | (simp; omega))) ?_))
    refine AWpL.callv rfl (by kernel_rfl) (s21 x y) (by rw [hn]; rfl) fun rg v hv => ?_
    obtain ⟨rfl, rfl⟩ := hv
    rw [retS_nil]
    refine AWpL.ofM hn rfl ?_
    simp (config := { maxSteps := 2000000 }) only [go_sem, ↓reduceIte, Int.reduceToNat, Nat.reduceMul, Int.reduceBEq, Int.reduceBNe, Nat.reduceBEq, Nat.reduceAdd, Nat.reduceSub, Nat.reduceLeDiff, Nat.reduceEqDiff, Nat.reduceLT, reduceCtorEq, e2]
    refine ⟨fun h => ?_, fun h => ?_⟩
    · rw [hs, show seq x.name y.name = false by simpa using h]; rfl
    · rw [show seq x.name y.name = true by simpa using h, Bool.true_and] at hs
      exact ⟨k - 1, by omega, i + 1, by omega, hs, weak_to [] hp hnp rfl (by simp (config := { maxSteps := 2000000 }) only [go_sem, ↓reduceIte, Int.reduceToNat, Nat.reduceMul, Int.reduceBEq, Int.reduceBNe, Nat.reduceBEq, Nat.reduceAdd, Nat.reduceSub, Nat.reduceLeDiff, Nat.reduceEqDiff, Nat.reduceLT, reduceCtorEq]) rfl⟩
  · have e0 : decide ((i : Int) < (l.length : Int)) = false := by simp; omega
    simp (config := { maxSteps := 2000000 }) only [go_sem, ↓reduceIte, Int.reduceToNat, Nat.reduceMul, Int.reduceBEq, Int.reduceBNe, Nat.reduceBEq, Nat.reduceAdd, Nat.reduceSub, Nat.reduceLeDiff, Nat.reduceEqDiff, Nat.reduceLT, reduceCtorEq, e0]
    rw [hs, List.drop_of_length_le hge, List.drop_of_length_le (by omega)]
    rfl
/-- A step of an order. -/
structure Stp where
  close : Bool
  sw : ByteArray
instance : Inhabited Stp := ⟨⟨false, ⟨#[]⟩⟩⟩
abbrev spc (s : Stp) : List AV := [B s.close, S s.sw]
/-- The switch k leads nearer. -/
def nearer (p : Pln) (F : List Int) (n k : Nat) : Bool := (F.getD (flip n k) 0 == F.getD n 0 - 1) && p.may n k
/-- The first switch, from k on, that leads nearer. -/
def pickGo (P : Nat → Bool) : Nat → Nat → Option Nat
  | 0, _ => none
  | r + 1, k => if P k = true then some k else pickGo P r (k + 1)
def plGo (p : Pln) (F : List Int) : Nat → Nat → List Stp
  | 0, _ => []
  | f + 1, n => match pickGo (nearer p F n) p.l.length 0 with
    | some k => ⟨!n.testBit k, (p.l.getD k default).name⟩ :: plGo p F f (flip n k)
    | none => []
theorem pickGo_some {P : Nat → Bool} : ∀ (r k j : Nat), j < r → P (k + j) = true → ∃ i, pickGo P r k = some i ∧ i < k + r ∧ P i = true
  | 0, k, j, h, _ => by omega
  | r + 1, k, j, h, hp => by
    unfold pickGo
    split
    · rename_i h2; exact ⟨k, rfl, by omega, h2⟩
    · rename_i h2
      cases j with
      | zero => exact absurd hp h2
      | succ j =>
        obtain ⟨i, h3, h4, h5⟩ := pickGo_some r (k + 1) j (by omega) (by rw [← hp]; congr 1; omega)
        exact ⟨i, h3, by omega, h5⟩
/-- What Plan answers. -/
def planE (rules : List Rul) (a b : List Sta) (held : List ByteArray) : Int :=
  if checkF rules ≠ 0 then checkF rules else if statesF a ≠ 0 then statesF a else if statesF b ≠ 0 then statesF b
  else if 8 < a.length ∨ 256 < held.length then 2 else if nmE a b = false then 3
  else if (bfsF (mayF rules a held) a.length (numF b)).getD (numF a) 0 < 0 then 8 else 0
def planL (p : Pln) (b : List Sta) : List Stp :=
  if planE p.rules p.l b p.held = 0 then plGo p (bfsF p.may p.l.length (numF b)) ((bfsF p.may p.l.length (numF b)).getD (numF p.l) 0).toNat (numF p.l) else []
theorem nmE_leq {l m : List Sta} (h : nmE l m = true) : l.length = m.length := by
  by_cases e : l.length = m.length
  · exact e
  · rw [nmE_len e] at h; cases h
set_option maxRecDepth 20000 in
set_option maxHeartbeats 4000000 in
theorem s8 (p : Pln) (nb fb) (b : List Sta) (hh : p.held.length ≤ 9223372036854775807) (hs : ∀ r ∈ p.rules, RulOk r) (hta : ∀ x ∈ p.l, x.name.size ≤ 9223372036854775807) (htb : ∀ x ∈ b, x.name.size ≤ 9223372036854775807) :
    Aw.Spec Try.prog 8 [] [rs p.nr p.fr p.rules, sts' p.nl p.fl p.l, sts' nb fb b, ss p.nh p.fh p.held] (fun rg v => rg = [] ∧ v = .tup [.imm none false 2 ((planL p b).map spc), I (planE p.rules p.l b p.held)]) := by
  refine Aw.Spec.regsD k8 mixed rfl rfl rfl fun E hn hnp hp => ?_
  unfold a8
  have pin : ∀ r, E.pin r = none := fun r => hp.none hnp (Nat.zero_le _)
  have hE : planE p.rules p.l b p.held = if checkF p.rules ≠ 0 then checkF p.rules else if statesF p.l ≠ 0 then statesF p.l else if statesF b ≠ 0 then statesF b
    else if 8 < p.l.length ∨ 256 < p.held.length then 2 else if nmE p.l b = false then 3
    else if (bfsF (mayF p.rules p.l p.held) p.l.length (numF b)).getD (numF p.l) 0 < 0 then 8 else 0 := rfl
  have hL : planL p b = if planE p.rules p.l b p.held = 0 then plGo p (bfsF p.may p.l.length (numF b)) ((bfsF p.may p.l.length (numF b)).getD (numF p.l) 0).toNat (numF p.l) else [] := rfl
  simp (config := { maxSteps := 2000000 }) only [go_sem, ↓reduceIte, Int.reduceToNat, Nat.reduceMul, Int.reduceBEq, Int.reduceBNe, Nat.reduceBEq, Nat.reduceAdd, Nat.reduceSub, Nat.reduceLeDiff, Nat.reduceEqDiff, Nat.reduceLT, reduceCtorEq]
  (refine AWpL.calle (s18 p.nr p.fr p.rules hs) rfl (by rw [hn]; rfl) (by simp (config := { maxSteps := 2000000 }) only [go_sem, ↓reduceIte, Int.reduceToNat, Nat.reduceMul, Int.reduceBEq, Int.reduceBNe, Nat.reduceBEq, Nat.reduceAdd, Nat.reduceSub, Nat.reduceLeDiff, Nat.reduceEqDiff, Nat.reduceLT, reduceCtorEq]) (AWpL.ofM hn rfl ?_); simp (config := { maxSteps := 2000000 }) only [go_sem, ↓reduceIte, Int.reduceToNat, Nat.reduceMul, Int.reduceBEq, Int.reduceBNe, Nat.reduceBEq, Nat.reduceAdd, Nat.reduceSub, Nat.reduceLeDiff, Nat.reduceEqDiff, Nat.reduceLT, reduceCtorEq])
  simp only [bne_iff_ne, ne_eq, bne_eq_false_iff_eq]
  refine ⟨fun h => ?_, fun h => ?_⟩
  · rw [if_pos h] at hE
    rw [if_neg (by rw [hE]; exact h)] at hL
    rw [hL, hE]
    refine Retn.weak (weak_ent 8 (by rfl) (Ent.ofnil0 2)) _ (Retn.ret (π := []) hp hnp ⟨rfl, ?_⟩)
    simp (config := { maxSteps := 2000000 }) only [go_sem, ↓reduceIte, Int.reduceToNat, Nat.reduceMul, Int.reduceBEq, Int.reduceBNe, Nat.reduceBEq, Nat.reduceAdd, Nat.reduceSub, Nat.reduceLeDiff, Nat.reduceEqDiff, Nat.reduceLT, reduceCtorEq]
  rw [if_neg (by simp [h])] at hE
  refine AWp.loop (fun k s => ∃ i : Nat, i + k = 2 ∧ (1 ≤ i → statesF p.l = 0) ∧ (2 ≤ i → statesF b = 0) ∧ Weak E s ⟨[(0, rs p.nr p.fr p.rules), (1, sts' p.nl p.fl p.l), (2, sts' nb fb b), (3, ss p.nh p.fh p.held), (26, .agg [sts' p.nl p.fl p.l, sts' nb fb b]), (27, I i)], []⟩) (n := 2)
    ⟨0, by omega, (fun h => by omega), (fun h => by omega), weak_to [] hp hnp rfl (by simp (config := { maxSteps := 2000000 }) only [go_sem, ↓reduceIte, Int.reduceToNat, Nat.reduceMul, Int.reduceBEq, Int.reduceBNe, Nat.reduceBEq, Nat.reduceAdd, Nat.reduceSub, Nat.reduceLeDiff, Nat.reduceEqDiff, Nat.reduceLT, reduceCtorEq, Int.natCast_zero]) rfl⟩ ?_
  rintro k s ⟨i, hik, hs1, hs2, hw⟩
  refine AWp.weak hw (AWp.ofD [] [] hn mixed rfl ?_)
  obtain rfl | rfl | rfl : i = 0 ∨ i = 1 ∨ i = 2 := by omega
  · have e0 : decide ((0 : Int) < 2) = true := rfl
    have e2 : IntKind.i64.wrap (0 + 1) = ((1 : Nat) : Int) := by decide +kernel
    simp (config := { maxSteps := 2000000 }) only [go_sem, ↓reduceIte, Int.reduceToNat, Nat.reduceMul, Int.reduceBEq, Int.reduceBNe, Nat.reduceBEq, Nat.reduceAdd, Nat.reduceSub, Nat.reduceLeDiff, Nat.reduceEqDiff, Nat.reduceLT, reduceCtorEq, e0]
    (repeat (refine And.intro (by first | omega | (refine ⟨by omega, by omega⟩) | (refine ⟨by omega, by omega, by omega⟩) | (simp only [List.length_map, List.length_range, List.length_append, List.length_cons, List.length_nil, List.length_replicate, List.length_set]; omega) | (simp; omega) | (intro hgd; cases hgd) | (intro hgd; refine ⟨hgd, ?_⟩; first | omega | (refine ⟨by omega, by omega⟩) | (simp; omega))) ?_))
    (refine AWpL.calle (s19 p.nl p.fl p.l hta) rfl (by rw [hn]; rfl) (by simp (config := { maxSteps := 2000000 }) only [go_sem, ↓reduceIte, Int.reduceToNat, Nat.reduceMul, Int.reduceBEq, Int.reduceBNe, Nat.reduceBEq, Nat.reduceAdd, Nat.reduceSub, Nat.reduceLeDiff, Nat.reduceEqDiff, Nat.reduceLT, reduceCtorEq]) (AWpL.ofM hn rfl ?_); simp (config := { maxSteps := 2000000 }) only [go_sem, ↓reduceIte, Int.reduceToNat, Nat.reduceMul, Int.reduceBEq, Int.reduceBNe, Nat.reduceBEq, Nat.reduceAdd, Nat.reduceSub, Nat.reduceLeDiff, Nat.reduceEqDiff, Nat.reduceLT, reduceCtorEq])
    simp only [bne_iff_ne, ne_eq, bne_eq_false_iff_eq]
    refine ⟨fun h2 => ?_, fun h2 => ?_⟩
    · rw [if_pos h2] at hE
      rw [if_neg (by rw [hE]; exact h2)] at hL
      rw [hL, hE]
      refine Retn.weak (weak_ent 8 (by rfl) (Ent.ofnil0 2)) _ (Retn.ret (π := []) hp hnp ⟨rfl, ?_⟩)
      simp (config := { maxSteps := 2000000 }) only [go_sem, ↓reduceIte, Int.reduceToNat, Nat.reduceMul, Int.reduceBEq, Int.reduceBNe, Nat.reduceBEq, Nat.reduceAdd, Nat.reduceSub, Nat.reduceLeDiff, Nat.reduceEqDiff, Nat.reduceLT, reduceCtorEq]
    simp (config := { maxSteps := 2000000 }) only [go_sem, ↓reduceIte, Int.reduceToNat, Nat.reduceMul, Int.reduceBEq, Int.reduceBNe, Nat.reduceBEq, Nat.reduceAdd, Nat.reduceSub, Nat.reduceLeDiff, Nat.reduceEqDiff, Nat.reduceLT, reduceCtorEq, e2]
    exact ⟨k - 1, by omega, 1, by omega, (fun _ => h2), (fun h => by omega), weak_to [] hp hnp rfl (by simp (config := { maxSteps := 2000000 }) only [go_sem, ↓reduceIte, Int.reduceToNat, Nat.reduceMul, Int.reduceBEq, Int.reduceBNe, Nat.reduceBEq, Nat.reduceAdd, Nat.reduceSub, Nat.reduceLeDiff, Nat.reduceEqDiff, Nat.reduceLT, reduceCtorEq]) rfl⟩
  · have e0 : decide ((1 : Int) < 2) = true := rfl
    have e2 : IntKind.i64.wrap (1 + 1) = ((2 : Nat) : Int) := by decide +kernel
    have g1 := hs1 (Nat.le_refl 1)
    rw [if_neg (by simp [g1])] at hE
    simp (config := { maxSteps := 2000000 }) only [go_sem, ↓reduceIte, Int.reduceToNat, Nat.reduceMul, Int.reduceBEq, Int.reduceBNe, Nat.reduceBEq, Nat.reduceAdd, Nat.reduceSub, Nat.reduceLeDiff, Nat.reduceEqDiff, Nat.reduceLT, reduceCtorEq, e0]
    (repeat (refine And.intro (by first | omega | (refine ⟨by omega, by omega⟩) | (refine ⟨by omega, by omega, by omega⟩) | (simp only [List.length_map, List.length_range, List.length_append, List.length_cons, List.length_nil, List.length_replicate, List.length_set]; omega) | (simp; omega) | (intro hgd; cases hgd) | (intro hgd; refine ⟨hgd, ?_⟩; first | omega | (refine ⟨by omega, by omega⟩) | (simp; omega))) ?_))
    (refine AWpL.calle (s19 nb fb b htb) rfl (by rw [hn]; rfl) (by simp (config := { maxSteps := 2000000 }) only [go_sem, ↓reduceIte, Int.reduceToNat, Nat.reduceMul, Int.reduceBEq, Int.reduceBNe, Nat.reduceBEq, Nat.reduceAdd, Nat.reduceSub, Nat.reduceLeDiff, Nat.reduceEqDiff, Nat.reduceLT, reduceCtorEq]) (AWpL.ofM hn rfl ?_); simp (config := { maxSteps := 2000000 }) only [go_sem, ↓reduceIte, Int.reduceToNat, Nat.reduceMul, Int.reduceBEq, Int.reduceBNe, Nat.reduceBEq, Nat.reduceAdd, Nat.reduceSub, Nat.reduceLeDiff, Nat.reduceEqDiff, Nat.reduceLT, reduceCtorEq])
    simp only [bne_iff_ne, ne_eq, bne_eq_false_iff_eq]
    refine ⟨fun h2 => ?_, fun h2 => ?_⟩
    · rw [if_pos h2] at hE
      rw [if_neg (by rw [hE]; exact h2)] at hL
      rw [hL, hE]
      refine Retn.weak (weak_ent 8 (by rfl) (Ent.ofnil0 2)) _ (Retn.ret (π := []) hp hnp ⟨rfl, ?_⟩)
      simp (config := { maxSteps := 2000000 }) only [go_sem, ↓reduceIte, Int.reduceToNat, Nat.reduceMul, Int.reduceBEq, Int.reduceBNe, Nat.reduceBEq, Nat.reduceAdd, Nat.reduceSub, Nat.reduceLeDiff, Nat.reduceEqDiff, Nat.reduceLT, reduceCtorEq]
    simp (config := { maxSteps := 2000000 }) only [go_sem, ↓reduceIte, Int.reduceToNat, Nat.reduceMul, Int.reduceBEq, Int.reduceBNe, Nat.reduceBEq, Nat.reduceAdd, Nat.reduceSub, Nat.reduceLeDiff, Nat.reduceEqDiff, Nat.reduceLT, reduceCtorEq, e2]
    exact ⟨k - 1, by omega, 2, by omega, (fun _ => g1), (fun _ => h2), weak_to [] hp hnp rfl (by simp (config := { maxSteps := 2000000 }) only [go_sem, ↓reduceIte, Int.reduceToNat, Nat.reduceMul, Int.reduceBEq, Int.reduceBNe, Nat.reduceBEq, Nat.reduceAdd, Nat.reduceSub, Nat.reduceLeDiff, Nat.reduceEqDiff, Nat.reduceLT, reduceCtorEq]) rfl⟩
  have g1 := hs1 (by decide)
  have g2 := hs2 (by decide)
  have e0 : decide (((2 : Nat) : Int) < 2) = false := rfl
  rw [if_neg (by simp [g1]), if_neg (by simp [g2])] at hE
  have h32 := statesF_len g1
  have h32b := statesF_len g2
  simp (config := { maxSteps := 2000000 }) only [go_sem, ↓reduceIte, Int.reduceToNat, Nat.reduceMul, Int.reduceBEq, Int.reduceBNe, Nat.reduceBEq, Nat.reduceAdd, Nat.reduceSub, Nat.reduceLeDiff, Nat.reduceEqDiff, Nat.reduceLT, reduceCtorEq, e0]
  simp only [Bool.or_eq_true, Bool.or_eq_false_iff, decide_eq_true_eq, decide_eq_false_iff_not]
  refine ⟨fun h2 => ?_, fun h2 => ?_⟩
  · rw [if_pos (by omega)] at hE
    rw [if_neg (by rw [hE]; decide)] at hL
    rw [hL, hE]
    refine Retn.weak (weak_ent 8 (by rfl) (Ent.ofnil0 2)) _ (Retn.ret (π := []) hp hnp ⟨rfl, ?_⟩)
    simp (config := { maxSteps := 2000000 }) only [go_sem, ↓reduceIte, Int.reduceToNat, Nat.reduceMul, Int.reduceBEq, Int.reduceBNe, Nat.reduceBEq, Nat.reduceAdd, Nat.reduceSub, Nat.reduceLeDiff, Nat.reduceEqDiff, Nat.reduceLT, reduceCtorEq]
  rw [if_neg (by omega)] at hE
  refine AWpL.calleA (args := [sts' p.nl p.fl p.l, sts' nb fb b, .val (.func (.func 21) #[] #[])]) ((s20 p.nl p.fl p.l nb fb b (by omega) (by omega)).args ⟨Ent.refl _, Ent.refl _, Ent.lit _, trivial⟩) (by simp (config := { maxSteps := 2000000 }) only [go_sem, ↓reduceIte, Int.reduceToNat, Nat.reduceMul, Int.reduceBEq, Int.reduceBNe, Nat.reduceBEq, Nat.reduceAdd, Nat.reduceSub, Nat.reduceLeDiff, Nat.reduceEqDiff, Nat.reduceLT, reduceCtorEq]) rfl (by rw [hn]; rfl) (by simp (config := { maxSteps := 2000000 }) only [go_sem, ↓reduceIte, Int.reduceToNat, Nat.reduceMul, Int.reduceBEq, Int.reduceBNe, Nat.reduceBEq, Nat.reduceAdd, Nat.reduceSub, Nat.reduceLeDiff, Nat.reduceEqDiff, Nat.reduceLT, reduceCtorEq]) (AWpL.ofM hn rfl ?_)
  simp (config := { maxSteps := 2000000 }) only [go_sem, ↓reduceIte, Int.reduceToNat, Nat.reduceMul, Int.reduceBEq, Int.reduceBNe, Nat.reduceBEq, Nat.reduceAdd, Nat.reduceSub, Nat.reduceLeDiff, Nat.reduceEqDiff, Nat.reduceLT, reduceCtorEq]
  refine ⟨fun h3 => ?_, fun h3 => ?_⟩
  · rw [if_pos (by simpa using h3)] at hE
    rw [if_neg (by rw [hE]; decide)] at hL
    rw [hL, hE]
    refine Retn.weak (weak_ent 8 (by rfl) (Ent.ofnil0 2)) _ (Retn.ret (π := []) hp hnp ⟨rfl, ?_⟩)
    simp (config := { maxSteps := 2000000 }) only [go_sem, ↓reduceIte, Int.reduceToNat, Nat.reduceMul, Int.reduceBEq, Int.reduceBNe, Nat.reduceBEq, Nat.reduceAdd, Nat.reduceSub, Nat.reduceLeDiff, Nat.reduceEqDiff, Nat.reduceLT, reduceCtorEq]
  rw [if_neg (by simpa using h3)] at hE
  have hlb := nmE_leq (by simpa using h3 : nmE p.l b = true)
  have hok : PlnOk p := ⟨by omega, by omega, hs, hta⟩
  have hgl : numF b < 2 ^ p.l.length := by rw [hlb]; exact numF_lt b
  have hnl := numF_lt p.l
  have h256 := pow8 hok.l8
  have hB := bfsF_ok p.may hok.l8 hgl
  have hmF : mayF p.rules p.l p.held = p.may := rfl
  rw [hmF] at hE
  (refine AWpL.calle (s23 nb fb b (by omega)) rfl (by rw [hn]; rfl) (by simp (config := { maxSteps := 2000000 }) only [go_sem, ↓reduceIte, Int.reduceToNat, Nat.reduceMul, Int.reduceBEq, Int.reduceBNe, Nat.reduceBEq, Nat.reduceAdd, Nat.reduceSub, Nat.reduceLeDiff, Nat.reduceEqDiff, Nat.reduceLT, reduceCtorEq]) (AWpL.ofM hn rfl ?_); simp (config := { maxSteps := 2000000 }) only [go_sem, ↓reduceIte, Int.reduceToNat, Nat.reduceMul, Int.reduceBEq, Int.reduceBNe, Nat.reduceBEq, Nat.reduceAdd, Nat.reduceSub, Nat.reduceLeDiff, Nat.reduceEqDiff, Nat.reduceLT, reduceCtorEq])
  generalize hgg : numF b = goal at *
  refine AWpL.callA [0] (s22 p goal hok hgl) rfl rfl (by rw [hn]; rfl) rfl (fun r hr => .inl (by cases List.mem_singleton.1 hr; rfl)) fun rg v hv => ?_
  subst hv
  refine ⟨by simp, AWpL.ofM hn rfl ?_⟩
  simp (config := { maxSteps := 2000000 }) only [go_sem, ↓reduceIte, Int.reduceToNat, Nat.reduceMul, Int.reduceBEq, Int.reduceBNe, Nat.reduceBEq, Nat.reduceAdd, Nat.reduceSub, Nat.reduceLeDiff, Nat.reduceEqDiff, Nat.reduceLT, reduceCtorEq, Aw.retS, Aw.retRg, Aw.kpM, Aw.bkM, Aw.pos, Aw.isBox, plC, List.getElem?_nil]
  (refine AWpL.calle (s23 p.nl p.fl p.l (by omega)) rfl (by rw [hn]; rfl) (by simp (config := { maxSteps := 2000000 }) only [go_sem, ↓reduceIte, Int.reduceToNat, Nat.reduceMul, Int.reduceBEq, Int.reduceBNe, Nat.reduceBEq, Nat.reduceAdd, Nat.reduceSub, Nat.reduceLeDiff, Nat.reduceEqDiff, Nat.reduceLT, reduceCtorEq]) (AWpL.ofM hn rfl ?_); simp (config := { maxSteps := 2000000 }) only [go_sem, ↓reduceIte, Int.reduceToNat, Nat.reduceMul, Int.reduceBEq, Int.reduceBNe, Nat.reduceBEq, Nat.reduceAdd, Nat.reduceSub, Nat.reduceLeDiff, Nat.reduceEqDiff, Nat.reduceLT, reduceCtorEq])
  generalize hnn : numF p.l = n0 at *
  have hFl := hB.len
  generalize hFF : bfsF p.may p.l.length goal = F at *
  have e1 := getD_mapD (0 : Int) ic (l := F) (i := n0) (by omega)
  simp (config := { maxSteps := 2000000 }) only [go_sem, ↓reduceIte, Int.reduceToNat, Nat.reduceMul, Int.reduceBEq, Int.reduceBNe, Nat.reduceBEq, Nat.reduceAdd, Nat.reduceSub, Nat.reduceLeDiff, Nat.reduceEqDiff, Nat.reduceLT, reduceCtorEq, e1, List.length_map, hFl]
  (repeat (refine And.intro (by first | omega | (refine ⟨by omega, by omega⟩) | (refine ⟨by omega, by omega, by omega⟩) | (simp only [List.length_map, List.length_range, List.length_append, List.length_cons, List.length_nil, List.length_replicate, List.length_set]; omega) | (simp; omega) | (intro hgd; cases hgd) | (intro hgd; refine ⟨hgd, ?_⟩; first | omega | (refine ⟨by omega, by omega⟩) | (simp; omega))) ?_))
  simp only [decide_eq_true_eq, decide_eq_false_iff_not]
  refine ⟨fun h4 => ?_, fun h4 => ?_⟩
  · rw [if_pos h4] at hE
    rw [if_neg (by rw [hE]; decide)] at hL
    rw [hL, hE]
    refine Retn.weak (weak_ent 8 (by rfl) (Ent.ofnil0 2)) _ (Retn.ret (π := []) hp hnp ⟨rfl, ?_⟩)
    simp (config := { maxSteps := 2000000 }) only [go_sem, ↓reduceIte, Int.reduceToNat, Nat.reduceMul, Int.reduceBEq, Int.reduceBNe, Nat.reduceBEq, Nat.reduceAdd, Nat.reduceSub, Nat.reduceLeDiff, Nat.reduceEqDiff, Nat.reduceLT, reduceCtorEq]
  rw [if_neg h4] at hE
  rw [if_pos hE] at hL
  rw [hL, hE]
  refine AWp.weak (weak_nil 16 36 2 (by rfl)) ?_
  simp (config := { maxSteps := 2000000 }) only [go_sem, ↓reduceIte, Int.reduceToNat, Nat.reduceMul, Int.reduceBEq, Int.reduceBNe, Nat.reduceBEq, Nat.reduceAdd, Nat.reduceSub, Nat.reduceLeDiff, Nat.reduceEqDiff, Nat.reduceLT, reduceCtorEq]
  clear hw
  refine AWp.loop (fun k s => ∃ (n : Nat) (out : List Stp), (F.getD n 0).toNat ≤ k ∧ n < 2 ^ p.l.length ∧ 0 ≤ F.getD n 0 ∧ out.length + (F.getD n 0).toNat ≤ 256 ∧ plGo p F (F.getD n0 0).toNat n0 = out ++ plGo p F (F.getD n 0).toNat n ∧
      Weak E s ⟨[(1, sts' p.nl p.fl p.l), (14, .ptr 0 0 0), (15, I n), (16, .hnd 2 0 out.length out.length false)], [.box 60 (plC p (.hnd 1 0 (2 ^ p.l.length) (2 ^ p.l.length) true)), .arr 3 1 (F.map ic), .arr 36 2 (out.map spc)]⟩) (n := (F.getD n0 0).toNat)
    ⟨n0, [], Nat.le_refl _, hnl, by omega, by have := hB.bnd n0 hnl; simp only [List.length_nil]; omega, rfl, weak_to [0, 1, 2] hp hnp rfl (by simp (config := { maxSteps := 2000000 }) only [go_sem, ↓reduceIte, Int.reduceToNat, Nat.reduceMul, Int.reduceBEq, Int.reduceBNe, Nat.reduceBEq, Nat.reduceAdd, Nat.reduceSub, Nat.reduceLeDiff, Nat.reduceEqDiff, Nat.reduceLT, reduceCtorEq, Aw.pos]) (by simp (config := { maxSteps := 2000000 }) only [go_sem, ↓reduceIte, Int.reduceToNat, Nat.reduceMul, Int.reduceBEq, Int.reduceBNe, Nat.reduceBEq, Nat.reduceAdd, Nat.reduceSub, Nat.reduceLeDiff, Nat.reduceEqDiff, Nat.reduceLT, reduceCtorEq, Aw.renR, Aw.pos, plC])⟩ ?_
  rintro k1 s ⟨n, out, hk1, hnlt, hF0, ho, hpl, hw⟩
  refine AWp.weak hw (AWp.ofD [] [] hn mixed rfl ?_)
  have en := getD_mapD (0 : Int) ic (l := F) (i := n) (by omega)
  by_cases hpos : 0 < F.getD n 0
  case neg =>
    have e0 : decide (F.getD n 0 > 0) = false := decide_eq_false (by omega)
    have hz : (F.getD n 0).toNat = 0 := by omega
    rw [hz] at hpl
    have hpl2 : plGo p F (F.getD n0 0).toNat n0 = out := by rw [hpl]; exact List.append_nil _
    rw [hpl2]
    have h5 : (out.map spc).take out.length = out.map spc := List.take_of_length_le (by simp)
    simp (config := { maxSteps := 2000000 }) only [go_sem, ↓reduceIte, Int.reduceToNat, Nat.reduceMul, Int.reduceBEq, Int.reduceBNe, Nat.reduceBEq, Nat.reduceAdd, Nat.reduceSub, Nat.reduceLeDiff, Nat.reduceEqDiff, Nat.reduceLT, reduceCtorEq, en, plC, e0, List.length_map, hFl]
    (repeat (refine And.intro (by first | omega | (refine ⟨by omega, by omega⟩) | (refine ⟨by omega, by omega, by omega⟩) | (simp only [List.length_map, List.length_range, List.length_append, List.length_cons, List.length_nil, List.length_replicate, List.length_set]; omega) | (simp; omega) | (intro hgd; cases hgd) | (intro hgd; refine ⟨hgd, ?_⟩; first | omega | (refine ⟨by omega, by omega⟩) | (simp; omega))) ?_))
    refine Retn.weak (weak_freeze 2 rfl (pin 2) (by simp (config := { maxSteps := 2000000 }) only [go_sem, ↓reduceIte, Int.reduceToNat, Nat.reduceMul, Int.reduceBEq, Int.reduceBNe, Nat.reduceBEq, Nat.reduceAdd, Nat.reduceSub, Nat.reduceLeDiff, Nat.reduceEqDiff, Nat.reduceLT, reduceCtorEq, List.length_map, Nat.le_refl])) _ ?_
    refine Retn.weak (weak_ent 8 (by rfl) (Ent.plain _ _ _ _)) _ (Retn.ret (π := []) hp hnp ⟨rfl, ?_⟩)
    simp (config := { maxSteps := 2000000 }) only [go_sem, ↓reduceIte, Int.reduceToNat, Nat.reduceMul, Int.reduceBEq, Int.reduceBNe, Nat.reduceBEq, Nat.reduceAdd, Nat.reduceSub, Nat.reduceLeDiff, Nat.reduceEqDiff, Nat.reduceLT, reduceCtorEq, h5]
  have e0 : decide (F.getD n 0 > 0) = true := decide_eq_true (by omega)
  obtain ⟨f, hf⟩ : ∃ f, (F.getD n 0).toNat = f + 1 := ⟨(F.getD n 0).toNat - 1, by omega⟩
  rw [hf] at hpl
  obtain ⟨kd, hd1, hd2, hd3, hd4⟩ := hB.desc n hnlt hpos
  have hnear : nearer p F n kd = true := by unfold nearer; rw [hd2, Bool.and_true, beq_iff_eq]; omega
  obtain ⟨kp, hkp1, hkp2, hkp3⟩ := pickGo_some (P := nearer p F n) p.l.length 0 kd hd1 (by rw [Nat.zero_add]; exact hnear)
  rw [Nat.zero_add] at hkp2
  have hpl3 : plGo p F (f + 1) n = ⟨!n.testBit kp, (p.l.getD kp default).name⟩ :: plGo p F f (flip n kp) := by
    show (match pickGo (nearer p F n) p.l.length 0 with | some k => _ | none => _) = _
    rw [hkp1]
  rw [hpl3] at hpl
  have hwn : IntKind.i64.wrap (F.getD n 0 - 1) = F.getD n 0 - 1 := w64 (by have := hB.bnd n hnlt; omega) (by have := hB.bnd n hnlt; omega)
  simp (config := { maxSteps := 2000000 }) only [go_sem, ↓reduceIte, Int.reduceToNat, Nat.reduceMul, Int.reduceBEq, Int.reduceBNe, Nat.reduceBEq, Nat.reduceAdd, Nat.reduceSub, Nat.reduceLeDiff, Nat.reduceEqDiff, Nat.reduceLT, reduceCtorEq, en, plC, e0, List.length_map, hFl]
  (repeat (refine And.intro (by first | omega | (refine ⟨by omega, by omega⟩) | (refine ⟨by omega, by omega, by omega⟩) | (simp only [List.length_map, List.length_range, List.length_append, List.length_cons, List.length_nil, List.length_replicate, List.length_set]; omega) | (simp; omega) | (intro hgd; cases hgd) | (intro hgd; refine ⟨hgd, ?_⟩; first | omega | (refine ⟨by omega, by omega⟩) | (simp; omega))) ?_))
  clear hw
  refine AWp.loop (fun k s => ∃ i : Nat, i + k = p.l.length ∧ pickGo (nearer p F n) p.l.length 0 = pickGo (nearer p F n) (p.l.length - i) i ∧ Weak E s ⟨[(1, sts' p.nl p.fl p.l), (14, .ptr 0 0 0), (15, I n), (16, .hnd 2 0 out.length out.length false), (76, I p.l.length), (77, I i)], [.box 60 (plC p (.hnd 1 0 (2 ^ p.l.length) (2 ^ p.l.length) true)), .arr 3 1 (F.map ic), .arr 36 2 (out.map spc)]⟩) (n := p.l.length)
    ⟨0, by omega, rfl, weak_to [0, 1, 2] hp hnp rfl (by simp (config := { maxSteps := 2000000 }) only [go_sem, ↓reduceIte, Int.reduceToNat, Nat.reduceMul, Int.reduceBEq, Int.reduceBNe, Nat.reduceBEq, Nat.reduceAdd, Nat.reduceSub, Nat.reduceLeDiff, Nat.reduceEqDiff, Nat.reduceLT, reduceCtorEq, Aw.pos, Int.natCast_zero]) (by simp (config := { maxSteps := 2000000 }) only [go_sem, ↓reduceIte, Int.reduceToNat, Nat.reduceMul, Int.reduceBEq, Int.reduceBNe, Nat.reduceBEq, Nat.reduceAdd, Nat.reduceSub, Nat.reduceLeDiff, Nat.reduceEqDiff, Nat.reduceLT, reduceCtorEq, Aw.renR, Aw.pos, plC])⟩ ?_
  rintro k2 s ⟨i, hik2, hpg, hw⟩
  refine AWp.weak hw (AWp.ofD [] [] hn mixed rfl ?_)
  rcases Nat.lt_or_ge i p.l.length with hlt | hge
  case inr =>
    rw [Nat.sub_eq_zero_of_le hge, hkp1] at hpg
    cases hpg
  have e3 : decide ((i : Int) < (p.l.length : Int)) = true := decide_eq_true (by omega)
  have e2 : IntKind.i64.wrap ((i : Int) + 1) = ((i + 1 : Nat) : Int) := by rw [w64 (by omega) (by omega)]; omega
  have h64i : min i 64 = i := Nat.min_eq_left (by have := hok.l8; omega)
  have eS := bitS (k := i) (by have := hok.l8; omega)
  have eX := bitX (n := n) (k := i) (by omega) (by have := hok.l8; omega)
  have eA := bitA0 (n := n) (k := i) (by omega) (by have := hok.l8; omega)
  have hml := flip_lt hnlt hlt
  have em := getD_mapD (0 : Int) ic (l := F) (i := flip n i) (by omega)
  have hne : nearer p F n i = ((F.getD (flip n i) 0 == F.getD n 0 - 1) && p.may n i) := rfl
  obtain ⟨r, hr⟩ : ∃ r, p.l.length - i = r + 1 := ⟨p.l.length - i - 1, by omega⟩
  have hpg2 : pickGo (nearer p F n) (r + 1) i = if nearer p F n i = true then some i else pickGo (nearer p F n) r (i + 1) := rfl
  rw [hr, hpg2] at hpg
  simp (config := { maxSteps := 2000000 }) only [go_sem, ↓reduceIte, Int.reduceToNat, Nat.reduceMul, Int.reduceBEq, Int.reduceBNe, Nat.reduceBEq, Nat.reduceAdd, Nat.reduceSub, Nat.reduceLeDiff, Nat.reduceEqDiff, Nat.reduceLT, reduceCtorEq, e3, plC, h64i, eS, eX, em, en, hwn, List.length_map, hFl]
  (repeat (refine And.intro (by first | omega | (refine ⟨by omega, by omega⟩) | (refine ⟨by omega, by omega, by omega⟩) | (simp only [List.length_map, List.length_range, List.length_append, List.length_cons, List.length_nil, List.length_replicate, List.length_set]; omega) | (simp; omega) | (intro hgd; cases hgd) | (intro hgd; refine ⟨hgd, ?_⟩; first | omega | (refine ⟨by omega, by omega⟩) | (simp; omega))) ?_))
  refine AWpQ.gcalle (b := F.getD (flip n i) 0 == F.getD n 0 - 1) (y := .bool (p.may n i)) (by simp (config := { maxSteps := 2000000 }) only [go_sem, ↓reduceIte, Int.reduceToNat, Nat.reduceMul, Int.reduceBEq, Int.reduceBNe, Nat.reduceBEq, Nat.reduceAdd, Nat.reduceSub, Nat.reduceLeDiff, Nat.reduceEqDiff, Nat.reduceLT, reduceCtorEq]) (fun _ => s24 p.nr p.fr p.rules p.nl p.fl p.l p.nh p.fh p.held _ n i hok.l8 hlt (by omega) hok.h hok.rs hok.ls) (by rw [hn]; rfl) (fun hb => by simp (config := { maxSteps := 2000000 }) only [go_sem, ↓reduceIte, Int.reduceToNat, Nat.reduceMul, Int.reduceBEq, Int.reduceBNe, Nat.reduceBEq, Nat.reduceAdd, Nat.reduceSub, Nat.reduceLeDiff, Nat.reduceEqDiff, Nat.reduceLT, reduceCtorEq]; exact ⟨by omega, hb⟩) (AWpQ.of hn rfl ?_)
  simp (config := { maxSteps := 2000000 }) only [go_sem, ↓reduceIte, Int.reduceToNat, Nat.reduceMul, Int.reduceBEq, Int.reduceBNe, Nat.reduceBEq, Nat.reduceAdd, Nat.reduceSub, Nat.reduceLeDiff, Nat.reduceEqDiff, Nat.reduceLT, reduceCtorEq]
  rw [← hne]
  refine ⟨fun h => ?_, fun h => ?_⟩
  · rw [if_pos h, hkp1] at hpg
    obtain rfl : kp = i := by injection hpg
    have eL := getD_mapD default stc hlt
    have hfk : F.getD (flip n kp) 0 = F.getD n 0 - 1 := by
      have := hkp3
      unfold nearer at this
      simp only [Bool.and_eq_true, beq_iff_eq] at this
      exact this.1
    refine AWp.cut ⟨[(1, sts' p.nl p.fl p.l), (14, .ptr 0 0 0), (15, I n), (16, .hnd 2 0 (out.length + 1) (out.length + 1) false), (18, I (flip n kp))], [.box 60 (plC p (.hnd 1 0 (2 ^ p.l.length) (2 ^ p.l.length) true)), .arr 3 1 (F.map ic), .arr 36 2 ((out ++ [(⟨!n.testBit kp, (p.l.getD kp default).name⟩ : Stp)]).map spc)]⟩ ?_ ?_
    · refine AWp.plan (.take 0 [false, true, true, true, true, true, true, true, true, true, true, true, true, false, false] (.take 1 [true, false, true, false, false, false, true, true, true, true, true, false, false, false, false] (.take 2 [true, true, false, false, false, false, true, true, true, true, true, false, false, false, false] (.take 3 [true, true, true, false, false, false, true, true, true, true, true, false, false, false, false] (.take 4 [true, true, true, true, false, false, true, true, true, true, true, false, false, false, false] (.take 5 [true, true, true, true, true, false, true, true, true, true, true, false, false, false, false] (.take 6 [true, true, true, true, true, true, false, true, false, false, false, false, false, false, false] (.take 7 [true, true, true, true, true, true, true, false, false, false, false, false, false, false, false] (.take 8 [true, true, true, true, true, true, true, true, false, false, false, false, false, false, false] (.take 9 [true, true, true, true, true, true, true, true, true, false, false, false, false, false, false] (.take 10 [true, true, true, true, true, true, true, true, true, true, false, false, false, false, false] (.take 11 [true, true, true, true, true, true, true, true, true, true, true, false, false, false, false] (.one 12 (.one 13 (.take 14 [true, true, true, true, true, true, true, true, true, true, true, true, true, true, false] .done))))))))))))))) [true, true, true, true, true, true, true, true, true, true, true, true, true, false, true] mixed hn rfl rfl ?_
      simp (config := { maxSteps := 2000000 }) only [go_sem, ↓reduceIte, Int.reduceToNat, Nat.reduceMul, Int.reduceBEq, Int.reduceBNe, Nat.reduceBEq, Nat.reduceAdd, Nat.reduceSub, Nat.reduceLeDiff, Nat.reduceEqDiff, Nat.reduceLT, reduceCtorEq, eL, eA, h64i]
      refine ⟨by omega, by omega, ?_⟩
      refine AOne.rule ?_
      refine AWpL.app (r := 2) (els := out.map spc) (ys := [[B (!n.testBit kp), S (p.l.getD kp default).name]]) rfl rfl rfl rfl (by rw [hn]; rfl) (by simp) (pin 2) (Nat.le_refl 1) (fun el hm y hy => ?_) (by simp only [List.length_cons, List.length_nil]; omega) (by simp only [List.length_cons, List.length_nil]; omega) (AWpL.ofM hn rfl ?_)
      · rw [List.mem_singleton.1 hm] at hy
        simp only [List.mem_cons, List.not_mem_nil, or_false] at hy
        rcases hy with rfl | rfl <;> rfl
      simp (config := { maxSteps := 2000000 }) only [go_sem, ↓reduceIte, Int.reduceToNat, Nat.reduceMul, Int.reduceBEq, Int.reduceBNe, Nat.reduceBEq, Nat.reduceAdd, Nat.reduceSub, Nat.reduceLeDiff, Nat.reduceEqDiff, Nat.reduceLT, reduceCtorEq]
      exact weak_to [0, 1, 2] hp hnp rfl (by simp (config := { maxSteps := 2000000 }) only [go_sem, ↓reduceIte, Int.reduceToNat, Nat.reduceMul, Int.reduceBEq, Int.reduceBNe, Nat.reduceBEq, Nat.reduceAdd, Nat.reduceSub, Nat.reduceLeDiff, Nat.reduceEqDiff, Nat.reduceLT, reduceCtorEq, Aw.pos]) (by simp (config := { maxSteps := 2000000 }) only [go_sem, ↓reduceIte, Int.reduceToNat, Nat.reduceMul, Int.reduceBEq, Int.reduceBNe, Nat.reduceBEq, Nat.reduceAdd, Nat.reduceSub, Nat.reduceLeDiff, Nat.reduceEqDiff, Nat.reduceLT, reduceCtorEq, Aw.renR, Aw.pos, plC, List.map_append])
    simp (config := { maxSteps := 2000000 }) only [go_sem, ↓reduceIte, Int.reduceToNat, Nat.reduceMul, Int.reduceBEq, Int.reduceBNe, Nat.reduceBEq, Nat.reduceAdd, Nat.reduceSub, Nat.reduceLeDiff, Nat.reduceEqDiff, Nat.reduceLT, reduceCtorEq, plC]
    refine ⟨f, by omega, flip n kp, out ++ [⟨!n.testBit kp, (p.l.getD kp default).name⟩], by omega, hml, by omega, by rw [List.length_append, List.length_singleton]; omega, by rw [hpl, List.append_assoc, show (F.getD (flip n kp) 0).toNat = f by omega]; rfl, weak_to [0, 1, 2] hp hnp rfl (by simp (config := { maxSteps := 2000000 }) only [go_sem, ↓reduceIte, Int.reduceToNat, Nat.reduceMul, Int.reduceBEq, Int.reduceBNe, Nat.reduceBEq, Nat.reduceAdd, Nat.reduceSub, Nat.reduceLeDiff, Nat.reduceEqDiff, Nat.reduceLT, reduceCtorEq, Aw.pos, List.length_append]) (by simp (config := { maxSteps := 2000000 }) only [go_sem, ↓reduceIte, Int.reduceToNat, Nat.reduceMul, Int.reduceBEq, Int.reduceBNe, Nat.reduceBEq, Nat.reduceAdd, Nat.reduceSub, Nat.reduceLeDiff, Nat.reduceEqDiff, Nat.reduceLT, reduceCtorEq, Aw.renR, Aw.pos, plC])⟩
  · rw [if_neg (by simp [h])] at hpg
    simp (config := { maxSteps := 2000000 }) only [go_sem, ↓reduceIte, Int.reduceToNat, Nat.reduceMul, Int.reduceBEq, Int.reduceBNe, Nat.reduceBEq, Nat.reduceAdd, Nat.reduceSub, Nat.reduceLeDiff, Nat.reduceEqDiff, Nat.reduceLT, reduceCtorEq, e2]
    exact ⟨k2 - 1, by omega, i + 1, by omega, by rw [hpg]; congr 1; omega, weak_to [0, 1, 2] hp hnp rfl (by simp (config := { maxSteps := 2000000 }) only [go_sem, ↓reduceIte, Int.reduceToNat, Nat.reduceMul, Int.reduceBEq, Int.reduceBNe, Nat.reduceBEq, Nat.reduceAdd, Nat.reduceSub, Nat.reduceLeDiff, Nat.reduceEqDiff, Nat.reduceLT, reduceCtorEq, Aw.pos]) (by simp (config := { maxSteps := 2000000 }) only [go_sem, ↓reduceIte, Int.reduceToNat, Nat.reduceMul, Int.reduceBEq, Int.reduceBNe, Nat.reduceBEq, Nat.reduceAdd, Nat.reduceSub, Nat.reduceLeDiff, Nat.reduceEqDiff, Nat.reduceLT, reduceCtorEq, Aw.renR, Aw.pos, plC])⟩
end Go.Proofs.Ytkbipopkemfhaaa
