/- Ways between islands. -/
import Derived.Test.YtmginfhlohenhaaAwZk
import Derived.Test.YtmginfhlohenhaaBlaB
import Derived.Test.YtmginfhlohenhaaBlaL
import Derived.Test.YtmginfhlohenhaaGraG
set_option linter.unusedVariables false
set_option linter.unusedSimpArgs false
namespace Go.Proofs.Ytmginfhlohenhaa
open Go.Proofs.Ytmginfhlohenhaa.Aw
attribute [local go_sem] Int.natCast_zero Int.natCast_one bne_self_eq_false beq_self_eq_true Bool.not_true Bool.not_false Option.isSome_none Option.isSome_some Aw.bkM_nil Option.getD_some Option.getD_none Nat.sub_zero Int.toNat_zero Aw.frzS Aw.frzT Aw.frzA Aw.frzL Aw.frzR Aw.frzO Aw.frzOL Aw.frzOT Aw.frzOR Aw.killS Aw.mapT Aw.mapR Aw.killM Aw.resAVs Aw.resAV Aw.quietOps Aw.wpP Aw.wpT Aw.wpS Aw.AOp.mild List.getElem?_cons_zero List.getElem?_cons_succ Bool.and_false Bool.and_self Bool.false_and Aw.opOb Aw.gdB Aw.Rnd Aw.subTm List.length_map Int.toNat_natCast and_self Aw.SeqC Aw.stops Aw.Ends Aw.looks Aw.renA Aw.renL Aw.renT Aw.renS Aw.wpO Aw.aop Aw.putTm Aw.St.ev Aw.St.put Aw.St.putO Aw.binAV Aw.intBin Aw.strBin Aw.pickAV Aw.optInt Aw.AV.strip Aw.AV.guard Aw.AV.cells Aw.gdOb Aw.AOp.opds Aw.AOp.still Aw.ptrCells Aw.St.reg Aw.fillAV Aw.fillOb Aw.elsOb Aw.splice Aw.firm Aw.cellish Aw.AV.shut Aw.shutAll Aw.Seq Aw.Blk Aw.retS_nil Aw.mapA Aw.mapL Aw.borA Aw.borOb Aw.allOb Aw.tupOf Aw.params Aw.Opd.of Array.toList Value.cells List.map_cons List.map_nil List.getD_cons_zero List.getD_cons_succ List.getD_nil List.length_cons List.length_nil List.take_succ_cons List.take_zero List.take_nil List.drop_zero List.drop_succ_cons List.drop_nil List.set_cons_zero List.set_cons_succ List.append_nil List.nil_append List.cons_append List.all_cons List.all_nil cond_false cond_true if_true if_false true_and and_true Bool.and_true Bool.true_and Option.map_some Option.map_none false_implies forall_const implies_true forall_eq imp_self Bool.cond_false_right Bool.cond_true_left beq_true beq_false Bool.not_eq_true' Bool.false_eq_true Nat.zero_add Nat.add_zero Aw.eqCells Aw.stopDraw Aw.skipS Aw.exactCap Aw.revealS Aw.srcEls Aw.srcSz
attribute [local go_sem ↓] Aw.look_nil Aw.look_ite Aw.wpL_nil Aw.wpL_op Aw.wpL_gd Aw.wpQ_nil Aw.wpQ_op Aw.wpQ_gd Aw.wpC_draw Aw.wpC_reg Aw.wpC_skip Aw.wpC_ret Aw.wpC_exit Aw.wpC_seq Aw.wpC_block Aw.wpC_loop Aw.wpC_cond Aw.stopAt_nil Aw.stopAt_cons Aw.wpD_skip Aw.wpD_ret Aw.wpD_exit Aw.wpD_region Aw.wpD_draw Aw.wpM_nil Aw.wpM_op Aw.wpM_gd Aw.wpD_seq Aw.wpD_block Aw.wpD_loop Aw.wpD_cond
/- gridhall/graph.Path -/
def a43 : ACode :=
  (.seq (.region false [] [
     ⟨(some 8), none, (.mov (.v (.slice none 0 0)))⟩,
     ⟨(some 9), none, (.mov (.v (.int .i64 0)))⟩])
  (.seq (.seq (.region false [] [
     ⟨(some 13), none, (.mov (.t 0))⟩,
     ⟨(some 14), none, (.mov (.t 1))⟩,
     ⟨(some 15), none, (.call 62 [(.t 13), (.t 14)])⟩,
     ⟨(some 10), none, (.mov (.t 15))⟩])
  (.seq (.region false [] [
     ⟨(some 16), none, (.mov (.t 10))⟩,
     ⟨(some 17), none, (.bin .neq 30 (.t 16) (.v (.int .i64 0)))⟩])
  (.cond (.t 17)
    (.seq (.region false [] [
       ⟨(some 18), none, (.mov (.t 10))⟩,
       ⟨(some 8), none, (.mov (.v (.slice none 0 0)))⟩,
       ⟨(some 9), none, (.mov (.t 18))⟩])
    .ret)
    .skip)))
  (.seq (.seq (.region false [] [
     ⟨(some 19), none, (.mov (.t 2))⟩,
     ⟨(some 20), none, (.bin .lss 3 (.t 19) (.v (.int .i64 0)))⟩,
     ⟨(some 21), none, (.mov (.t 20))⟩,
     ⟨(some 22), (some (21, false)), (.mov (.t 2))⟩,
     ⟨(some 23), (some (21, false)), (.mov (.t 0))⟩,
     ⟨(some 24), (some (21, false)), (.bin .geq 3 (.t 22) (.t 23))⟩,
     ⟨(some 25), none, (.pick (.t 21) (.v (.bool true)) (.t 24))⟩,
     ⟨(some 26), none, (.mov (.t 25))⟩,
     ⟨(some 27), (some (26, false)), (.mov (.t 3))⟩,
     ⟨(some 28), (some (26, false)), (.bin .lss 3 (.t 27) (.v (.int .i64 0)))⟩,
     ⟨(some 29), none, (.pick (.t 26) (.v (.bool true)) (.t 28))⟩,
     ⟨(some 30), none, (.mov (.t 29))⟩,
     ⟨(some 31), (some (30, false)), (.mov (.t 3))⟩,
     ⟨(some 32), (some (30, false)), (.mov (.t 0))⟩,
     ⟨(some 33), (some (30, false)), (.bin .geq 3 (.t 31) (.t 32))⟩,
     ⟨(some 34), none, (.pick (.t 30) (.v (.bool true)) (.t 33))⟩])
  (.cond (.t 34)
    (.seq (.region false [] [
       ⟨(some 8), none, (.mov (.v (.slice none 0 0)))⟩,
       ⟨(some 9), none, (.mov (.v (.int .i64 4)))⟩])
    .ret)
    .skip))
  (.seq (.region false [] [
     ⟨(some 36), none, (.mov (.t 0))⟩,
     ⟨(some 37), none, (.mov (.t 1))⟩,
     ⟨(some 38), none, (.mov (.t 2))⟩,
     ⟨(some 39), none, (.mov (.t 3))⟩,
     ⟨(some 40), none, (.call 63 [(.t 36), (.t 37), (.t 38), (.t 39), (.v (.func (.func 64) #[] #[]))])⟩,
     ⟨(some 35), none, (.mov (.t 40))⟩,
     ⟨(some 41), none, (.ext 0 (.t 35))⟩,
     ⟨(some 42), none, (.ext 1 (.t 35))⟩,
     ⟨(some 11), none, (.mov (.t 41))⟩,
     ⟨(some 12), none, (.mov (.t 42))⟩])
  (.seq (.seq (.region false [] [
     ⟨(some 43), none, (.mov (.t 12))⟩,
     ⟨(some 44), none, (.un .not (.t 43))⟩])
  (.cond (.t 44)
    (.seq (.region false [] [
       ⟨(some 8), none, (.mov (.v (.slice none 0 0)))⟩,
       ⟨(some 9), none, (.mov (.v (.int .i64 8)))⟩])
    .ret)
    .skip))
  (.seq (.region false [] [
     ⟨(some 45), none, (.mov (.t 11))⟩,
     ⟨(some 8), none, (.mov (.t 45))⟩,
     ⟨(some 9), none, (.mov (.v (.int .i64 0)))⟩])
  .ret))))))
theorem k43 : FnIs Try.prog 43 46 [.t 8, .t 9] a43 := ⟨_, _, Try.func43, rfl, by kernel_rfl, by kernel_rfl, rfl⟩
/- gridhall/islands.Places -/
def a12 : ACode :=
  (.seq (.region false [] [
     ⟨(some 1), none, (.box 29 (.t 0))⟩,
     ⟨(some 2), none, (.mov (.v (.slice none 0 0)))⟩,
     ⟨(some 3), none, (.mov (.v (.int .i64 0)))⟩])
  (.seq (.seq (.region false [] [
     ⟨(some 7), none, (.load 6 true (.t 1))⟩,
     ⟨(some 8), none, (.call 6 [(.t 7)])⟩,
     ⟨(some 4), none, (.mov (.t 8))⟩])
  (.seq (.region false [] [
     ⟨(some 9), none, (.mov (.t 4))⟩,
     ⟨(some 10), none, (.bin .neq 30 (.t 9) (.v (.int .i64 0)))⟩])
  (.cond (.t 10)
    (.seq (.region false [] [
       ⟨(some 11), none, (.mov (.t 4))⟩,
       ⟨(some 2), none, (.mov (.v (.slice none 0 0)))⟩,
       ⟨(some 3), none, (.mov (.t 11))⟩])
    .ret)
    .skip)))
  (.seq (.region false [] [
     ⟨(some 13), none, (.load 6 true (.t 1))⟩,
     ⟨(some 14), none, (.call 31 [(.t 13)])⟩,
     ⟨(some 12), none, (.mov (.t 14))⟩,
     ⟨(some 15), none, (.ext 0 (.t 12))⟩,
     ⟨(some 16), none, (.ext 1 (.t 12))⟩,
     ⟨(some 5), none, (.mov (.t 15))⟩,
     ⟨(some 6), none, (.mov (.t 16))⟩])
  (.seq (.region false [] [
     ⟨(some 17), none, (.mov (.t 5))⟩,
     ⟨(some 2), none, (.mov (.t 17))⟩,
     ⟨(some 3), none, (.mov (.v (.int .i64 0)))⟩])
  .ret))))
theorem k12 : FnIs Try.prog 12 18 [.t 2, .t 3] a12 := ⟨_, _, Try.func12, rfl, by kernel_rfl, by kernel_rfl, rfl⟩
/- gridhall/blackstart.way$1 -/
def a42 : ACode :=
  (.seq (.region false [] [
     ⟨(some 4), none, (.mov (.v (.int .i64 0)))⟩])
  (.seq (.region false [] [
     ⟨(some 8), none, (.load 6 true (.t 1))⟩,
     ⟨(some 9), none, (.mov (.t 0))⟩,
     ⟨(some 10), none, (.call 19 [(.t 8), (.t 9)])⟩,
     ⟨(some 7), none, (.mov (.t 10))⟩,
     ⟨(some 11), none, (.ext 0 (.t 7))⟩,
     ⟨(some 12), none, (.ext 1 (.t 7))⟩,
     ⟨(some 5), none, (.mov (.t 11))⟩,
     ⟨(some 6), none, (.mov (.t 12))⟩])
  (.seq (.region false [] [
     ⟨(some 13), none, (.load 1 false (.t 2))⟩,
     ⟨(some 14), none, (.mov (.t 5))⟩,
     ⟨(some 15), none, (.idx 1 (.t 13) (.t 14))⟩,
     ⟨(some 16), none, (.load 1 false (.t 15))⟩,
     ⟨(some 4), none, (.mov (.t 16))⟩])
  .ret)))
theorem k42 : FnIs Try.prog 42 17 [.t 4] a42 := ⟨_, _, Try.func42, rfl, by kernel_rfl, by kernel_rfl, rfl⟩
/- gridhall/blackstart.way -/
def a28 : ACode :=
  (.seq (.region false [] [
     ⟨(some 3), none, (.box 29 (.t 0))⟩,
     ⟨(some 6), none, (.mov (.v (.slice none 0 0)))⟩,
     ⟨(some 7), none, (.mov (.v (.bool false)))⟩])
  (.seq (.region false [] [
     ⟨(some 24), none, (.load 6 true (.t 3))⟩,
     ⟨(some 25), none, (.call 12 [(.t 24)])⟩,
     ⟨(some 23), none, (.mov (.t 25))⟩,
     ⟨(some 26), none, (.ext 0 (.t 23))⟩,
     ⟨(some 27), none, (.ext 1 (.t 23))⟩,
     ⟨(some 8), none, (.alloc 38 (.slice none 0 0))⟩,
     ⟨none, none, (.store 1 (.t 8) (.t 26))⟩,
     ⟨(some 9), none, (.mov (.t 27))⟩])
  (.seq (.region false [] [
     ⟨(some 28), none, (.mkfn 42 [(.t 3), (.t 8)])⟩,
     ⟨(some 10), none, (.mov (.t 28))⟩])
  (.seq (.region false [] [
     ⟨(some 11), none, (.mov (.v (.int .i64 0)))⟩])
  (.seq (.seq (.region false [] [
     ⟨(some 29), none, (.load 1 false (.t 8))⟩,
     ⟨(some 30), none, (.len (.t 29))⟩,
     ⟨(some 31), none, (.mov (.v (.int .i64 0)))⟩])
  (.block 0 (.loop (.seq (.region false [] [
       ⟨(some 32), none, (.bin .lss 3 (.t 31) (.t 30))⟩])
    (.seq (.cond (.t 32)
      .skip
      (.exit 0))
    (.seq (.block 1 (.seq (.region false [] [
        ⟨(some 33), none, (.idx 1 (.t 29) (.t 31))⟩,
        ⟨(some 34), none, (.load 1 false (.t 33))⟩,
        ⟨(some 13), none, (.mov (.t 34))⟩])
     (.region false [] [
        ⟨(some 35), none, (.mov (.t 11))⟩,
        ⟨(some 36), none, (.mov (.t 13))⟩,
        ⟨(some 37), none, (.bin .add 3 (.t 36) (.v (.int .i64 1)))⟩,
        ⟨(some 38), none, (.mxi (.t 35) (.t 37))⟩,
        ⟨(some 11), none, (.mov (.t 38))⟩])))
    (.region false [] [
       ⟨(some 39), none, (.bin .add 3 (.t 31) (.v (.int .i64 1)))⟩,
       ⟨(some 31), none, (.mov (.t 39))⟩])))))))
  (.seq (.region false [] [
     ⟨(some 14), none, (.mov (.v (.slice none 0 0)))⟩])
  (.seq (.region false [] [
     ⟨(some 15), none, (.mov (.v (.slice none 0 0)))⟩])
  (.seq (.seq (.region false [] [
     ⟨(some 40), none, (.fld 1 (.t 3))⟩,
     ⟨(some 41), none, (.load 1 false (.t 40))⟩,
     ⟨(some 42), none, (.len (.t 41))⟩,
     ⟨(some 43), none, (.mov (.v (.int .i64 0)))⟩])
  (.block 2 (.loop (.seq (.region false [] [
       ⟨(some 44), none, (.bin .lss 3 (.t 43) (.t 42))⟩])
    (.seq (.cond (.t 44)
      .skip
      (.exit 2))
    (.seq (.block 3 (.seq (.region false [] [
        ⟨(some 45), none, (.idx 5 (.t 41) (.t 43))⟩,
        ⟨(some 46), none, (.load 5 true (.t 45))⟩,
        ⟨(some 17), none, (.alloc 66 (.agg #[(.string ⟨#[]⟩), (.string ⟨#[]⟩), (.string ⟨#[]⟩), (.bool false), (.bool false)]))⟩,
        ⟨none, none, (.store 5 (.t 17) (.t 46))⟩])
     (.seq (.region false [] [
        ⟨(some 47), none, (.fld 4 (.t 17))⟩,
        ⟨(some 48), none, (.load 1 false (.t 47))⟩])
     (.cond (.t 48)
       (.seq (.region true [[], [], [], [2], [1, 3], [], [], [6], [5, 7, 4], [4, 8], [9], [0, 10, 8], [11, 11, 0, 1, 2, 3, 4, 5, 6, 7, 8, 9, 10, 11]] [
          ⟨(some 49), none, (.mov (.t 14))⟩,
          ⟨(some 50), none, (.mov (.t 10))⟩,
          ⟨(some 51), none, (.fld 1 (.t 17))⟩,
          ⟨(some 52), none, (.load 1 false (.t 51))⟩,
          ⟨(some 53), none, (.callv (.t 50) [(.t 52)])⟩,
          ⟨(some 54), none, (.mov (.t 10))⟩,
          ⟨(some 55), none, (.fld 2 (.t 17))⟩,
          ⟨(some 56), none, (.load 1 false (.t 55))⟩,
          ⟨(some 57), none, (.callv (.t 54) [(.t 56)])⟩,
          ⟨(some 58), none, (.build (.agg #[(.int .i64 0), (.int .i64 0)]) [(0, (1, (.t 53))), (1, (1, (.t 57)))])⟩,
          ⟨(some 59), none, (.bsl 96 2 1 [(0, (.t 58))])⟩,
          ⟨(some 60), none, (.app 96 2 16 (.agg #[(.int .i64 0), (.int .i64 0)]) (.t 49) (.t 59))⟩,
          ⟨(some 14), none, (.mov (.t 60))⟩])
       (.region false [] [
          ⟨(some 61), none, (.mov (.t 15))⟩,
          ⟨(some 62), none, (.fld 0 (.t 17))⟩,
          ⟨(some 63), none, (.load 1 false (.t 62))⟩,
          ⟨(some 64), none, (.bsl 9 1 1 [(0, (.t 63))])⟩,
          ⟨(some 65), none, (.app 9 1 16 (.string ⟨#[]⟩) (.t 61) (.t 64))⟩,
          ⟨(some 15), none, (.mov (.t 65))⟩]))
       .skip))))
    (.region false [] [
       ⟨(some 66), none, (.bin .add 3 (.t 43) (.v (.int .i64 1)))⟩,
       ⟨(some 43), none, (.mov (.t 66))⟩])))))))
  (.seq (.region false [] [
     ⟨(some 68), none, (.mov (.t 11))⟩,
     ⟨(some 69), none, (.mov (.t 14))⟩,
     ⟨(some 70), none, (.mov (.t 10))⟩,
     ⟨(some 71), none, (.mov (.t 1))⟩,
     ⟨(some 72), none, (.callv (.t 70) [(.t 71)])⟩,
     ⟨(some 73), none, (.mov (.t 10))⟩,
     ⟨(some 74), none, (.mov (.t 2))⟩,
     ⟨(some 75), none, (.callv (.t 73) [(.t 74)])⟩,
     ⟨(some 76), none, (.call 43 [(.t 68), (.t 69), (.t 72), (.t 75)])⟩,
     ⟨(some 67), none, (.mov (.t 76))⟩,
     ⟨(some 77), none, (.ext 0 (.t 67))⟩,
     ⟨(some 78), none, (.ext 1 (.t 67))⟩,
     ⟨(some 18), none, (.mov (.t 77))⟩,
     ⟨(some 19), none, (.mov (.t 78))⟩])
  (.seq (.seq (.region false [] [
     ⟨(some 79), none, (.mov (.t 19))⟩,
     ⟨(some 80), none, (.bin .neq 30 (.t 79) (.v (.int .i64 0)))⟩])
  (.cond (.t 80)
    (.seq (.region false [] [
       ⟨(some 6), none, (.mov (.v (.slice none 0 0)))⟩,
       ⟨(some 7), none, (.mov (.v (.bool false)))⟩])
    .ret)
    .skip))
  (.seq (.region false [] [
     ⟨(some 20), none, (.mov (.v (.slice none 0 0)))⟩])
  (.seq (.seq (.region false [] [
     ⟨(some 81), none, (.mov (.t 18))⟩,
     ⟨(some 82), none, (.len (.t 81))⟩,
     ⟨(some 83), none, (.mov (.v (.int .i64 0)))⟩])
  (.block 4 (.loop (.seq (.region false [] [
       ⟨(some 84), none, (.bin .lss 3 (.t 83) (.t 82))⟩])
    (.seq (.cond (.t 84)
      .skip
      (.exit 4))
    (.seq (.block 5 (.seq (.region false [] [
        ⟨(some 85), none, (.idx 1 (.t 81) (.t 83))⟩,
        ⟨(some 86), none, (.load 1 false (.t 85))⟩,
        ⟨(some 22), none, (.mov (.t 86))⟩])
     (.region false [] [
        ⟨(some 87), none, (.mov (.t 20))⟩,
        ⟨(some 88), none, (.mov (.t 15))⟩,
        ⟨(some 89), none, (.mov (.t 22))⟩,
        ⟨(some 90), none, (.idx 1 (.t 88) (.t 89))⟩,
        ⟨(some 91), none, (.load 1 false (.t 90))⟩,
        ⟨(some 92), none, (.bsl 9 1 1 [(0, (.t 91))])⟩,
        ⟨(some 93), none, (.app 9 1 16 (.string ⟨#[]⟩) (.t 87) (.t 92))⟩,
        ⟨(some 20), none, (.mov (.t 93))⟩])))
    (.region false [] [
       ⟨(some 94), none, (.bin .add 3 (.t 83) (.v (.int .i64 1)))⟩,
       ⟨(some 83), none, (.mov (.t 94))⟩])))))))
  (.seq (.region false [] [
     ⟨(some 95), none, (.mov (.t 20))⟩,
     ⟨(some 6), none, (.mov (.t 95))⟩,
     ⟨(some 7), none, (.mov (.v (.bool true)))⟩])
  .ret)))))))))))))
theorem k28 : FnIs Try.prog 28 96 [.t 6, .t 7] a28 := ⟨_, _, Try.func28, rfl, by kernel_rfl, by kernel_rfl, rfl⟩

theorem s43 (N : Nat) (nl fl) (l : List (Nat × Nat)) (v to : Nat) (hN : N ≤ 24) (hl : EdgesIn N l) (hll : l.length ≤ 64) (hv : v < N) (hto : to < N) :
    Aw.Spec Try.prog 43 [] [I N, egs nl fl l, I v, I to] (fun rg x => rg = [] ∧ x = .tup [.imm none false 1 (((wayF N l v to).getD []).map fun i : Nat => ic i), I (if (wayF N l v to).isSome then 0 else 8)]) := by
  refine Aw.Spec.regsW k43 rfl rfl fun E hn hnp hp => ?_
  unfold a43
  have f1 : decide ((v : Int) < 0) = false := decide_eq_false (by omega)
  have f2 : decide ((v : Int) ≥ (N : Int)) = false := decide_eq_false (by omega)
  have f3 : decide ((to : Int) < 0) = false := decide_eq_false (by omega)
  have f4 : decide ((to : Int) ≥ (N : Int)) = false := decide_eq_false (by omega)
  refine AWp.ofD [] [] hn mixed rfl ?_
  simp (config := { maxSteps := 2000000 }) only [go_sem, ↓reduceIte, Int.reduceToNat, Nat.reduceMul, Int.reduceBEq, Int.reduceBNe, Nat.reduceBEq, Nat.reduceAdd, Nat.reduceSub, Nat.reduceLeDiff, Nat.reduceEqDiff, Nat.reduceLT, reduceCtorEq]
  (refine AWpL.calle (s62 N nl fl l hN hl hll) rfl (by rw [hn]; rfl) (by simp (config := { maxSteps := 2000000 }) only [go_sem, ↓reduceIte, Int.reduceToNat, Nat.reduceMul, Int.reduceBEq, Int.reduceBNe, Nat.reduceBEq, Nat.reduceAdd, Nat.reduceSub, Nat.reduceLeDiff, Nat.reduceEqDiff, Nat.reduceLT, reduceCtorEq]) (AWpL.ofM hn rfl ?_); simp (config := { maxSteps := 2000000 }) only [go_sem, ↓reduceIte, Int.reduceToNat, Nat.reduceMul, Int.reduceBEq, Int.reduceBNe, Nat.reduceBEq, Nat.reduceAdd, Nat.reduceSub, Nat.reduceLeDiff, Nat.reduceEqDiff, Nat.reduceLT, reduceCtorEq])
  simp (config := { maxSteps := 2000000 }) only [go_sem, ↓reduceIte, Int.reduceToNat, Nat.reduceMul, Int.reduceBEq, Int.reduceBNe, Nat.reduceBEq, Nat.reduceAdd, Nat.reduceSub, Nat.reduceLeDiff, Nat.reduceEqDiff, Nat.reduceLT, reduceCtorEq, f1, f2, f3, f4, Bool.or_self]
  refine AWpL.callA [] ((s63 N nl fl l v to hN hl hll hv hto).args (args' := [I N, egs nl fl l, I v, I to, .val (.func (.func 64) #[] #[])]) ⟨Ent.refl _, Ent.refl _, Ent.refl _, Ent.refl _, Ent.lit _, trivial⟩) rfl rfl (by rw [hn]; rfl) rfl (fun r hr => by cases hr) fun rg x hx => ?_
  obtain ⟨rfl, rfl⟩ := hx
  refine ⟨Nat.zero_le _, ?_⟩
  rw [retS_nil]
  refine AWpL.ofM hn rfl ?_
  simp (config := { maxSteps := 2000000 }) only [go_sem, ↓reduceIte, Int.reduceToNat, Nat.reduceMul, Int.reduceBEq, Int.reduceBNe, Nat.reduceBEq, Nat.reduceAdd, Nat.reduceSub, Nat.reduceLeDiff, Nat.reduceEqDiff, Nat.reduceLT, reduceCtorEq]
  cases hw : wayF N l v to with
  | none =>
    simp (config := { maxSteps := 2000000 }) only [go_sem, ↓reduceIte, Int.reduceToNat, Nat.reduceMul, Int.reduceBEq, Int.reduceBNe, Nat.reduceBEq, Nat.reduceAdd, Nat.reduceSub, Nat.reduceLeDiff, Nat.reduceEqDiff, Nat.reduceLT, reduceCtorEq, Option.isSome_none, Option.getD_none, List.map_nil]
    refine Retn.weak (weak_ent 8 (by rfl) (Ent.ofnil0 1)) _ (Retn.ret (π := []) hp hnp ⟨rfl, ?_⟩)
    simp (config := { maxSteps := 2000000 }) only [go_sem, ↓reduceIte, Int.reduceToNat, Nat.reduceMul, Int.reduceBEq, Int.reduceBNe, Nat.reduceBEq, Nat.reduceAdd, Nat.reduceSub, Nat.reduceLeDiff, Nat.reduceEqDiff, Nat.reduceLT, reduceCtorEq]
  | some p =>
    simp (config := { maxSteps := 2000000 }) only [go_sem, ↓reduceIte, Int.reduceToNat, Nat.reduceMul, Int.reduceBEq, Int.reduceBNe, Nat.reduceBEq, Nat.reduceAdd, Nat.reduceSub, Nat.reduceLeDiff, Nat.reduceEqDiff, Nat.reduceLT, reduceCtorEq, Option.isSome_some, Option.getD_some]
    refine Retn.ret (π := []) hp hnp ⟨rfl, ?_⟩
    simp (config := { maxSteps := 2000000 }) only [go_sem, ↓reduceIte, Int.reduceToNat, Nat.reduceMul, Int.reduceBEq, Int.reduceBNe, Nat.reduceBEq, Nat.reduceAdd, Nat.reduceSub, Nat.reduceLeDiff, Nat.reduceEqDiff, Nat.reduceLT, reduceCtorEq]
def sres (b : Bool) (l : List Int) : List Int := if b then l else []
theorem s12 (n : Net) (hk : NetOk n) : Aw.Spec Try.prog 12 [] [neta n] (fun rg v => rg = [] ∧ v = .tup [.imm none false 1 ((sres (netF n == 0) (placesF n)).map ic), I (netF n)]) := by
  refine Aw.Spec.regsW k12 rfl rfl fun E hn hnp hp => ?_
  unfold a12
  refine AWp.ofD [] [] hn mixed rfl ?_
  simp (config := { maxSteps := 2000000 }) only [go_sem, ↓reduceIte, Int.reduceToNat, Nat.reduceMul, Int.reduceBEq, Int.reduceBNe, Nat.reduceBEq, Nat.reduceAdd, Nat.reduceSub, Nat.reduceLeDiff, Nat.reduceEqDiff, Nat.reduceLT, reduceCtorEq]
  (refine AWpL.calle (s6 n hk) rfl (by rw [hn]; rfl) (by simp (config := { maxSteps := 2000000 }) only [go_sem, ↓reduceIte, Int.reduceToNat, Nat.reduceMul, Int.reduceBEq, Int.reduceBNe, Nat.reduceBEq, Nat.reduceAdd, Nat.reduceSub, Nat.reduceLeDiff, Nat.reduceEqDiff, Nat.reduceLT, reduceCtorEq]) (AWpL.ofM hn rfl ?_); simp (config := { maxSteps := 2000000 }) only [go_sem, ↓reduceIte, Int.reduceToNat, Nat.reduceMul, Int.reduceBEq, Int.reduceBNe, Nat.reduceBEq, Nat.reduceAdd, Nat.reduceSub, Nat.reduceLeDiff, Nat.reduceEqDiff, Nat.reduceLT, reduceCtorEq])
  refine ⟨fun h => ?_, fun h => ?_⟩
  · refine Retn.weak (weak_ent 2 (by rfl) (Ent.ofnil0 1)) _ (Retn.ret (π := []) hp hnp ⟨rfl, ?_⟩)
    rw [show sres (netF n == 0) (placesF n) = [] by unfold sres; rw [if_neg]; simpa using h]
    simp (config := { maxSteps := 2000000 }) only [go_sem, ↓reduceIte, Int.reduceToNat, Nat.reduceMul, Int.reduceBEq, Int.reduceBNe, Nat.reduceBEq, Nat.reduceAdd, Nat.reduceSub, Nat.reduceLeDiff, Nat.reduceEqDiff, Nat.reduceLT, reduceCtorEq]
  · have h0 : netF n = 0 := by simpa using h
    have hv := netF_zero.1 h0
    refine AWpL.callA [] (s31 n hk hv) rfl rfl (by rw [hn]; rfl) rfl (fun r hr => by cases hr) fun rg x hx => ?_
    obtain ⟨rfl, rfl⟩ := hx
    refine ⟨Nat.zero_le _, ?_⟩
    rw [retS_nil]
    refine AWpL.ofM hn rfl ?_
    simp (config := { maxSteps := 2000000 }) only [go_sem, ↓reduceIte, Int.reduceToNat, Nat.reduceMul, Int.reduceBEq, Int.reduceBNe, Nat.reduceBEq, Nat.reduceAdd, Nat.reduceSub, Nat.reduceLeDiff, Nat.reduceEqDiff, Nat.reduceLT, reduceCtorEq]
    refine Retn.weak (weak_ent 2 (by rfl) (Ent.plain _ _ _ _)) _ (Retn.ret (π := []) hp hnp ⟨rfl, ?_⟩)
    rw [h0]
    simp (config := { maxSteps := 2000000 }) only [go_sem, ↓reduceIte, Int.reduceToNat, Nat.reduceMul, Int.reduceBEq, Int.reduceBNe, Nat.reduceBEq, Nat.reduceAdd, Nat.reduceSub, Nat.reduceLeDiff, Nat.reduceEqDiff, Nat.reduceLT, reduceCtorEq]
    rfl
/-- The island of a node. -/
def atI (n : Net) (x : ByteArray) : Nat := ((placesF n).getD (idx n x) 0).toNat
theorem atI_int {n : Net} (hv : NetV n) {x : ByteArray} (hx : x ∈ n.nodes.l) : (placesF n).getD (idx n x) 0 = (atI n x : Int) ∧ atI n x < (manyF n).toNat := by
  obtain ⟨_, h2, _⟩ := idx_int hx
  have hm : (placesF n).getD (idx n x) 0 ∈ placesF n := by
    rw [List.getD_eq_getElem?_getD, List.getElem?_eq_getElem (by rw [places_len hv]; exact h2)]
    exact List.getElem_mem _
  have := places_mem hv hm
  unfold atI
  omega
theorem s42 (n : Net) (hk : NetOk n) (hv : NetV n) (x : ByteArray) (hx : x ∈ n.nodes.l) (nl fl) : Aw.Spec Try.prog 42 [] [S x, .pim (netc n), .pim [.imm nl fl 1 ((placesF n).map ic)]] (Gives (· = I (atI n x))) := by
  refine Aw.Spec.givesD k42 mixed rfl rfl rfl fun E hn hnp hp => ?_
  unfold a42
  obtain ⟨a1, a2, a3⟩ := idx_int hx
  have h0 := netF_zero.2 hv
  have hE : nodeE n x = 0 := by unfold nodeE; rw [if_neg (by simp [h0]), if_neg (by omega)]
  have hI : nodeI n x = (idx n x : Int) := by unfold nodeI; rw [if_pos hE, a1]
  have e1 := getD_mapD 0 ic (l := placesF n) (i := idx n x) (by rw [places_len hv]; exact a2)
  rw [(atI_int hv hx).1] at e1
  simp (config := { maxSteps := 2000000 }) only [go_sem, ↓reduceIte, Int.reduceToNat, Nat.reduceMul, Int.reduceBEq, Int.reduceBNe, Nat.reduceBEq, Nat.reduceAdd, Nat.reduceSub, Nat.reduceLeDiff, Nat.reduceEqDiff, Nat.reduceLT, reduceCtorEq]
  (refine AWpL.calle (s19 n hk x) rfl (by rw [hn]; rfl) (by simp (config := { maxSteps := 2000000 }) only [go_sem, ↓reduceIte, Int.reduceToNat, Nat.reduceMul, Int.reduceBEq, Int.reduceBNe, Nat.reduceBEq, Nat.reduceAdd, Nat.reduceSub, Nat.reduceLeDiff, Nat.reduceEqDiff, Nat.reduceLT, reduceCtorEq]) (AWpL.ofM hn rfl ?_); simp (config := { maxSteps := 2000000 }) only [go_sem, ↓reduceIte, Int.reduceToNat, Nat.reduceMul, Int.reduceBEq, Int.reduceBNe, Nat.reduceBEq, Nat.reduceAdd, Nat.reduceSub, Nat.reduceLeDiff, Nat.reduceEqDiff, Nat.reduceLT, reduceCtorEq])
  simp (config := { maxSteps := 2000000 }) only [go_sem, ↓reduceIte, Int.reduceToNat, Nat.reduceMul, Int.reduceBEq, Int.reduceBNe, Nat.reduceBEq, Nat.reduceAdd, Nat.reduceSub, Nat.reduceLeDiff, Nat.reduceEqDiff, Nat.reduceLT, reduceCtorEq, hI, e1]
  have := places_len hv
  omega
/-- The open switches. -/
def openS (n : Net) : List Swi := n.sws.l.filter (·.opn)
def oedF (n : Net) : List (Nat × Nat) := (openS n).map fun s => (atI n s.a, atI n s.b)
def onmF (n : Net) : List ByteArray := (openS n).map (·.name)
def wayN (n : Net) (a b : ByteArray) : Option (List ByteArray) := (wayF (manyF n).toNat (oedF n) (atI n a) (atI n b)).map fun l => l.map fun i => (onmF n).getD i default
theorem oed_in {n : Net} (hv : NetV n) : EdgesIn (manyF n).toNat (oedF n) := fun i hi => by
  unfold oedF at *
  rw [List.length_map] at hi
  rw [List.getD_eq_getElem?_getD, List.getElem?_eq_getElem (by simpa using hi)]
  simp only [List.getElem_map, Option.getD_some]
  have hx := hv.sw _ ((List.mem_filter.1 (show (openS n)[i] ∈ openS n from List.getElem_mem hi)).1)
  exact ⟨(atI_int hv hx.1).2, (atI_int hv hx.2.1).2⟩
theorem PathP_lt {l : List (Nat × Nat)} {far : List Int} {to : Nat} : ∀ {v : Nat} {p : List Nat}, PathP l far to v p → ∀ i ∈ p, i < l.length
  | v, [], _ => fun i h => by cases h
  | v, x :: r, h => fun i hi => by
    obtain ⟨h1, u, _, _, h2⟩ := h
    rcases List.mem_cons.1 hi with rfl | hi
    · exact h1
    · exact PathP_lt h2 i hi
def opT (n : Net) (i : Nat) : List Swi := (n.sws.l.take i).filter (·.opn)
set_option maxRecDepth 20000 in
set_option maxHeartbeats 4000000 in
theorem s28 (n : Net) (hk : NetOk n) (hv : NetV n) (a b : ByteArray) (ha : a ∈ n.nodes.l) (hb : b ∈ n.nodes.l) :
    Aw.Spec Try.prog 28 [] [neta n, S a, S b] (fun rg v => rg = [] ∧ v = .tup [.imm none false 1 (((wayN n a b).getD []).map sc), B (wayN n a b).isSome]) := by
  refine Aw.Spec.regsW k28 rfl rfl fun E hn hnp hp => ?_
  unfold a28
  have pin : ∀ r, E.pin r = none := fun r => hp.none hnp (Nat.zero_le _)
  refine AWp.ofD [] [] hn mixed rfl ?_
  simp (config := { maxSteps := 2000000 }) only [go_sem, ↓reduceIte, Int.reduceToNat, Nat.reduceMul, Int.reduceBEq, Int.reduceBNe, Nat.reduceBEq, Nat.reduceAdd, Nat.reduceSub, Nat.reduceLeDiff, Nat.reduceEqDiff, Nat.reduceLT, reduceCtorEq]
  refine AWpL.callA [] (s12 n hk) rfl rfl (by rw [hn]; rfl) rfl (fun r hr => by cases hr) fun rg v hv' => ?_
  obtain ⟨rfl, rfl⟩ := hv'
  refine ⟨Nat.zero_le _, ?_⟩
  rw [retS_nil]
  have hs : sres (netF n == 0) (placesF n) = placesF n := by rw [netF_zero.2 hv]; rfl
  rw [hs]
  refine AWpL.ofM hn rfl ?_
  simp (config := { maxSteps := 2000000 }) only [go_sem, ↓reduceIte, Int.reduceToNat, Nat.reduceMul, Int.reduceBEq, Int.reduceBNe, Nat.reduceBEq, Nat.reduceAdd, Nat.reduceSub, Nat.reduceLeDiff, Nat.reduceEqDiff, Nat.reduceLT, reduceCtorEq]
  have h24 := hv.nodes
  have h32 := hv.nsw
  have hpl := places_len hv
  refine AWp.loop (fun k s => ∃ i : Nat, i + k = (placesF n).length ∧ Weak E s ⟨[(1, S a), (2, S b), (3, .ptr 0 0 0), (8, .ptr 1 0 0), (10, .fn 42 [.ptr 0 0 0, .ptr 1 0 0]), (11, I (countF ((placesF n).take i))), (29, .imm none false 1 ((placesF n).map ic)), (30, I (placesF n).length), (31, I i)], [.box 29 (netc n), .box 38 [.imm none false 1 ((placesF n).map ic)]]⟩) (n := (placesF n).length)
    ⟨0, by omega, weak_to [0, 1] hp hnp rfl (by simp (config := { maxSteps := 2000000 }) only [go_sem, ↓reduceIte, Int.reduceToNat, Nat.reduceMul, Int.reduceBEq, Int.reduceBNe, Nat.reduceBEq, Nat.reduceAdd, Nat.reduceSub, Nat.reduceLeDiff, Nat.reduceEqDiff, Nat.reduceLT, reduceCtorEq, Int.natCast_zero, Aw.pos]; rfl) (by simp (config := { maxSteps := 2000000 }) only [go_sem, ↓reduceIte, Int.reduceToNat, Nat.reduceMul, Int.reduceBEq, Int.reduceBNe, Nat.reduceBEq, Nat.reduceAdd, Nat.reduceSub, Nat.reduceLeDiff, Nat.reduceEqDiff, Nat.reduceLT, reduceCtorEq, Aw.renR, Aw.pos])⟩ ?_
  rintro k s ⟨i, hik, hw⟩
  refine AWp.weak hw (AWp.ofD [] [] hn mixed rfl ?_)
  rcases Nat.lt_or_ge i (placesF n).length with hlt | hge
  · have e0 : decide ((i : Int) < ((placesF n).length : Int)) = true := decide_eq_true (by omega)
    have e1 := getD_mapD 0 ic hlt
    have e2 : IntKind.i64.wrap ((i : Int) + 1) = ((i + 1 : Nat) : Int) := by rw [w64 (by omega) (by omega)]; omega
    have hm : (placesF n).getD i 0 ∈ placesF n := by
      rw [List.getD_eq_getElem?_getD, List.getElem?_eq_getElem hlt]
      exact List.getElem_mem _
    have hx := places_mem hv hm
    have hcnt : countF ((placesF n).take (i + 1)) = max (countF ((placesF n).take i)) ((placesF n).getD i 0 + 1) := by
      rw [List.getD_eq_getElem?_getD, List.getElem?_eq_getElem hlt]
      exact foldl_take _ _ (by omega)
    generalize (placesF n).getD i 0 = v at *
    have e4 : IntKind.i64.wrap (v + 1) = v + 1 := w64 (by omega) (by omega)
    simp (config := { maxSteps := 2000000 }) only [go_sem, ↓reduceIte, Int.reduceToNat, Nat.reduceMul, Int.reduceBEq, Int.reduceBNe, Nat.reduceBEq, Nat.reduceAdd, Nat.reduceSub, Nat.reduceLeDiff, Nat.reduceEqDiff, Nat.reduceLT, reduceCtorEq, e0, e1, e2, e4]
    refine ⟨by omega, ?_⟩
    exact ⟨k - 1, by omega, i + 1, by omega, weak_to [0, 1] hp hnp rfl (by simp (config := { maxSteps := 2000000 }) only [go_sem, ↓reduceIte, Int.reduceToNat, Nat.reduceMul, Int.reduceBEq, Int.reduceBNe, Nat.reduceBEq, Nat.reduceAdd, Nat.reduceSub, Nat.reduceLeDiff, Nat.reduceEqDiff, Nat.reduceLT, reduceCtorEq, Aw.pos, hcnt]) (by simp (config := { maxSteps := 2000000 }) only [go_sem, ↓reduceIte, Int.reduceToNat, Nat.reduceMul, Int.reduceBEq, Int.reduceBNe, Nat.reduceBEq, Nat.reduceAdd, Nat.reduceSub, Nat.reduceLeDiff, Nat.reduceEqDiff, Nat.reduceLT, reduceCtorEq, Aw.renR, Aw.pos])⟩
  · have e0 : decide ((i : Int) < ((placesF n).length : Int)) = false := decide_eq_false (by omega)
    obtain rfl : i = (placesF n).length := by omega
    have ht : (placesF n).take (placesF n).length = placesF n := List.take_of_length_le (Nat.le_refl _)
    simp (config := { maxSteps := 2000000 }) only [go_sem, ↓reduceIte, Int.reduceToNat, Nat.reduceMul, Int.reduceBEq, Int.reduceBNe, Nat.reduceBEq, Nat.reduceAdd, Nat.reduceSub, Nat.reduceLeDiff, Nat.reduceEqDiff, Nat.reduceLT, reduceCtorEq, e0, ht]
    have hop0 : opT n 0 = [] := by unfold opT; rw [List.take_zero]; rfl
    have hcm : countF (placesF n) = manyF n := rfl
    refine AWp.weak (weak_nil 14 96 2 rfl) (AWp.weak (weak_nil 15 9 1 rfl) ?_)
    refine AWp.loop (fun k s => ∃ i : Nat, i + k = n.sws.l.length ∧ Weak E s ⟨[(1, S a), (2, S b), (3, .ptr 0 0 0), (8, .ptr 1 0 0), (10, .fn 42 [.ptr 0 0 0, .ptr 1 0 0]), (11, I (manyF n)), (14, .hnd 2 0 (opT n i).length (opT n i).length false), (15, .hnd 3 0 (opT n i).length (opT n i).length false), (41, n.sws.av 5 swc), (42, I n.sws.l.length), (43, I i)],
        [.box 29 (netc n), .box 38 [.imm none false 1 ((placesF n).map ic)], .arr 96 2 ((opT n i).map fun s => pc2 (atI n s.a, atI n s.b)), .arr 9 1 ((opT n i).map fun s => sc s.name)]⟩) (n := n.sws.l.length)
      ⟨0, by omega, weak_to [0, 1, 2, 3] hp hnp rfl (by simp (config := { maxSteps := 2000000 }) only [go_sem, ↓reduceIte, Int.reduceToNat, Nat.reduceMul, Int.reduceBEq, Int.reduceBNe, Nat.reduceBEq, Nat.reduceAdd, Nat.reduceSub, Nat.reduceLeDiff, Nat.reduceEqDiff, Nat.reduceLT, reduceCtorEq, Int.natCast_zero, Aw.pos, hop0, ← hcm, List.length_nil]) (by simp (config := { maxSteps := 2000000 }) only [go_sem, ↓reduceIte, Int.reduceToNat, Nat.reduceMul, Int.reduceBEq, Int.reduceBNe, Nat.reduceBEq, Nat.reduceAdd, Nat.reduceSub, Nat.reduceLeDiff, Nat.reduceEqDiff, Nat.reduceLT, reduceCtorEq, Aw.renR, Aw.pos, hop0, List.map_nil])⟩ ?_
    rintro k s ⟨i, hik, hw⟩
    refine AWp.weak hw (AWp.ofD [] [] hn mixed rfl ?_)
    have hole : (opT n i).length ≤ i := by
      unfold opT
      exact Nat.le_trans (List.length_filter_le _ _) (by rw [List.length_take]; omega)
    rcases Nat.lt_or_ge i n.sws.l.length with hlt | hge
    · have e0 : decide ((i : Int) < (n.sws.l.length : Int)) = true := decide_eq_true (by omega)
      have e1 := getD_mapD default swc hlt
      have e2 : IntKind.i64.wrap ((i : Int) + 1) = ((i + 1 : Nat) : Int) := by rw [w64 (by omega) (by omega)]; omega
      have hx : n.sws.l.getD i default ∈ n.sws.l := by
        rw [List.getD_eq_getElem?_getD, List.getElem?_eq_getElem hlt]
        exact List.getElem_mem _
      have hx := hv.sw _ hx
      have hsu : opT n (i + 1) = opT n i ++ (if (n.sws.l.getD i default).opn then [n.sws.l.getD i default] else []) := by
        unfold opT
        rw [take_get hlt, List.filter_append, List.getD_eq_getElem?_getD, List.getElem?_eq_getElem hlt, Option.getD_some]
        congr 1
        cases h : (n.sws.l[i]).opn <;> simp [h]
      generalize n.sws.l.getD i default = x at *
      simp (config := { maxSteps := 2000000 }) only [go_sem, ↓reduceIte, Int.reduceToNat, Nat.reduceMul, Int.reduceBEq, Int.reduceBNe, Nat.reduceBEq, Nat.reduceAdd, Nat.reduceSub, Nat.reduceLeDiff, Nat.reduceEqDiff, Nat.reduceLT, reduceCtorEq, e0, e1]
      refine ⟨by omega, fun h => ?_, fun h => ?_⟩
      · rw [if_pos h] at hsu
        refine AWp.plan (.take 0 [false, true, true, true, true, true, true, true, true, true, true, false, false] (.take 1 [true, false, true, true, false, true, true, true, false, false, false, false, false] (.take 2 [true, true, false, false, false, true, true, true, false, false, false, false, false] (.take 3 [true, true, true, false, false, true, true, true, false, false, false, false, false] (.take 5 [true, true, true, true, true, false, true, true, false, false, false, false, false] (.take 6 [true, true, true, true, true, true, false, false, false, false, false, false, false] (.take 7 [true, true, true, true, true, true, true, false, false, false, false, false, false] (.one 4 (.one 8 (.take 9 [true, true, true, true, true, true, true, true, true, false, false, false, false] (.one 10 (.one 11 (.take 12 [true, true, true, true, true, true, true, true, true, true, true, true, false] .done))))))))))))) [true, true, true, true, true, true, true, true, true, true, true, false, true] mixed hn rfl rfl ?_
        simp (config := { maxSteps := 2000000 }) only [go_sem, ↓reduceIte, Int.reduceToNat, Nat.reduceMul, Int.reduceBEq, Int.reduceBNe, Nat.reduceBEq, Nat.reduceAdd, Nat.reduceSub, Nat.reduceLeDiff, Nat.reduceEqDiff, Nat.reduceLT, reduceCtorEq]
        refine AOne_callve rfl (by kernel_rfl) (s42 n hk hv x.a hx.1 none false) rfl (by rw [hn]; rfl) (by simp (config := { maxSteps := 2000000 }) only [go_sem, ↓reduceIte, Int.reduceToNat, Nat.reduceMul, Int.reduceBEq, Int.reduceBNe, Nat.reduceBEq, Nat.reduceAdd, Nat.reduceSub, Nat.reduceLeDiff, Nat.reduceEqDiff, Nat.reduceLT, reduceCtorEq]) (by simp (config := { maxSteps := 2000000 }) only [go_sem, ↓reduceIte, Int.reduceToNat, Nat.reduceMul, Int.reduceBEq, Int.reduceBNe, Nat.reduceBEq, Nat.reduceAdd, Nat.reduceSub, Nat.reduceLeDiff, Nat.reduceEqDiff, Nat.reduceLT, reduceCtorEq]) ?_
        simp (config := { maxSteps := 2000000 }) only [go_sem, ↓reduceIte, Int.reduceToNat, Nat.reduceMul, Int.reduceBEq, Int.reduceBNe, Nat.reduceBEq, Nat.reduceAdd, Nat.reduceSub, Nat.reduceLeDiff, Nat.reduceEqDiff, Nat.reduceLT, reduceCtorEq]
        refine AOne_callve rfl (by kernel_rfl) (s42 n hk hv x.b hx.2.1 none false) rfl (by rw [hn]; rfl) (by simp (config := { maxSteps := 2000000 }) only [go_sem, ↓reduceIte, Int.reduceToNat, Nat.reduceMul, Int.reduceBEq, Int.reduceBNe, Nat.reduceBEq, Nat.reduceAdd, Nat.reduceSub, Nat.reduceLeDiff, Nat.reduceEqDiff, Nat.reduceLT, reduceCtorEq]) (by simp (config := { maxSteps := 2000000 }) only [go_sem, ↓reduceIte, Int.reduceToNat, Nat.reduceMul, Int.reduceBEq, Int.reduceBNe, Nat.reduceBEq, Nat.reduceAdd, Nat.reduceSub, Nat.reduceLeDiff, Nat.reduceEqDiff, Nat.reduceLT, reduceCtorEq]) ?_
        simp (config := { maxSteps := 2000000 }) only [go_sem, ↓reduceIte, Int.reduceToNat, Nat.reduceMul, Int.reduceBEq, Int.reduceBNe, Nat.reduceBEq, Nat.reduceAdd, Nat.reduceSub, Nat.reduceLeDiff, Nat.reduceEqDiff, Nat.reduceLT, reduceCtorEq]
        refine AOne.rule (AWpL.app (r := 2) (els := (opT n i).map fun s => pc2 (atI n s.a, atI n s.b)) (ys := [pc2 (atI n x.a, atI n x.b)]) rfl rfl rfl rfl (by rw [hn]; rfl) (by rw [List.length_map]) (pin 2) (by simp (config := { maxSteps := 2000000 }) only [go_sem, ↓reduceIte, Int.reduceToNat, Nat.reduceMul, Int.reduceBEq, Int.reduceBNe, Nat.reduceBEq, Nat.reduceAdd, Nat.reduceSub, Nat.reduceLeDiff, Nat.reduceEqDiff, Nat.reduceLT, reduceCtorEq, Nat.le_refl]) (fun el hm y hy => by
          rw [List.mem_singleton.1 hm] at hy
          rcases List.mem_cons.1 hy with rfl | hy
          · rfl
          · rw [List.mem_singleton.1 hy]; rfl) (by simp only [List.length_cons, List.length_nil]; omega) (by simp only [List.length_cons, List.length_nil]; omega) (AWpL.ofM hn rfl ?_))
        have hap : ((opT n i).map fun s => pc2 (atI n s.a, atI n s.b)) ++ [pc2 (atI n x.a, atI n x.b)] = (opT n (i + 1)).map fun s => pc2 (atI n s.a, atI n s.b) := by rw [hsu, List.map_append]; rfl
        have hap2 : ((opT n i).map fun s => sc s.name) ++ [sc x.name] = (opT n (i + 1)).map fun s => sc s.name := by rw [hsu, List.map_append]; rfl
        have hl2 : (opT n i).length + 1 = (opT n (i + 1)).length := by rw [hsu, List.length_append]; rfl
        simp (config := { maxSteps := 2000000 }) only [go_sem, ↓reduceIte, Int.reduceToNat, Nat.reduceMul, Int.reduceBEq, Int.reduceBNe, Nat.reduceBEq, Nat.reduceAdd, Nat.reduceSub, Nat.reduceLeDiff, Nat.reduceEqDiff, Nat.reduceLT, reduceCtorEq, hap, hl2]
        refine AWpL.app (r := 3) (els := (opT n i).map fun s => sc s.name) (ys := [sc x.name]) rfl rfl rfl rfl (by rw [hn]; rfl) (by rw [List.length_map]) (pin 3) (by simp (config := { maxSteps := 2000000 }) only [go_sem, ↓reduceIte, Int.reduceToNat, Nat.reduceMul, Int.reduceBEq, Int.reduceBNe, Nat.reduceBEq, Nat.reduceAdd, Nat.reduceSub, Nat.reduceLeDiff, Nat.reduceEqDiff, Nat.reduceLT, reduceCtorEq, Nat.le_refl]) (fun el hm y hy => by
          rw [List.mem_singleton.1 hm] at hy
          rw [List.mem_singleton.1 hy]; rfl) (by simp only [List.length_cons, List.length_nil]; omega) (by simp only [List.length_cons, List.length_nil]; omega) (AWpL.ofM hn rfl ?_)
        simp (config := { maxSteps := 2000000 }) only [go_sem, ↓reduceIte, Int.reduceToNat, Nat.reduceMul, Int.reduceBEq, Int.reduceBNe, Nat.reduceBEq, Nat.reduceAdd, Nat.reduceSub, Nat.reduceLeDiff, Nat.reduceEqDiff, Nat.reduceLT, reduceCtorEq, hap2, hl2, e2]
        exact ⟨k - 1, by omega, i + 1, by omega, weak_to [0, 1, 2, 3] hp hnp rfl (by simp (config := { maxSteps := 2000000 }) only [go_sem, ↓reduceIte, Int.reduceToNat, Nat.reduceMul, Int.reduceBEq, Int.reduceBNe, Nat.reduceBEq, Nat.reduceAdd, Nat.reduceSub, Nat.reduceLeDiff, Nat.reduceEqDiff, Nat.reduceLT, reduceCtorEq, Aw.pos]) (by simp (config := { maxSteps := 2000000 }) only [go_sem, ↓reduceIte, Int.reduceToNat, Nat.reduceMul, Int.reduceBEq, Int.reduceBNe, Nat.reduceBEq, Nat.reduceAdd, Nat.reduceSub, Nat.reduceLeDiff, Nat.reduceEqDiff, Nat.reduceLT, reduceCtorEq, Aw.renR, Aw.pos])⟩
      · rw [if_neg (by rw [h]; decide), List.append_nil] at hsu
        simp (config := { maxSteps := 2000000 }) only [go_sem, ↓reduceIte, Int.reduceToNat, Nat.reduceMul, Int.reduceBEq, Int.reduceBNe, Nat.reduceBEq, Nat.reduceAdd, Nat.reduceSub, Nat.reduceLeDiff, Nat.reduceEqDiff, Nat.reduceLT, reduceCtorEq, e2]
        exact ⟨k - 1, by omega, i + 1, by omega, by rw [hsu]; exact weak_to [0, 1, 2, 3] hp hnp rfl (by simp (config := { maxSteps := 2000000 }) only [go_sem, ↓reduceIte, Int.reduceToNat, Nat.reduceMul, Int.reduceBEq, Int.reduceBNe, Nat.reduceBEq, Nat.reduceAdd, Nat.reduceSub, Nat.reduceLeDiff, Nat.reduceEqDiff, Nat.reduceLT, reduceCtorEq, Aw.pos]) (by simp (config := { maxSteps := 2000000 }) only [go_sem, ↓reduceIte, Int.reduceToNat, Nat.reduceMul, Int.reduceBEq, Int.reduceBNe, Nat.reduceBEq, Nat.reduceAdd, Nat.reduceSub, Nat.reduceLeDiff, Nat.reduceEqDiff, Nat.reduceLT, reduceCtorEq, Aw.renR, Aw.pos])⟩
    · have e0 : decide ((i : Int) < (n.sws.l.length : Int)) = false := decide_eq_false (by omega)
      obtain rfl : i = n.sws.l.length := by omega
      have ht : opT n n.sws.l.length = openS n := by unfold opT; rw [List.take_of_length_le (Nat.le_refl _)]; rfl
      rw [ht]
      simp (config := { maxSteps := 2000000 }) only [go_sem, ↓reduceIte, Int.reduceToNat, Nat.reduceMul, Int.reduceBEq, Int.reduceBNe, Nat.reduceBEq, Nat.reduceAdd, Nat.reduceSub, Nat.reduceLeDiff, Nat.reduceEqDiff, Nat.reduceLT, reduceCtorEq, e0]
      obtain ⟨M, hM⟩ : ∃ M : Nat, manyF n = M := ⟨(manyF n).toNat, by have := (many_le hv).1; omega⟩
      have hMt : (manyF n).toNat = M := by omega
      have hM24 : M ≤ 24 := by have := (many_le hv).2; omega
      have hfe : ((openS n).map fun s => pc2 (atI n s.a, atI n s.b)) = (oedF n).map pc2 := by unfold oedF; rw [List.map_map]; rfl
      have hfn : ((openS n).map fun s => sc s.name) = (onmF n).map sc := by unfold onmF; rw [List.map_map]; rfl
      have hle : (openS n).length = (oedF n).length := (List.length_map _).symm
      have hln : (onmF n).length = (oedF n).length := by unfold oedF onmF; rw [List.length_map, List.length_map]
      have hlw : (oedF n).length ≤ 32 := by rw [← hle]; exact Nat.le_trans (List.length_filter_le _ _) h32
      have hin := oed_in hv
      have hA := atI_int hv ha
      have hB := atI_int hv hb
      have hW : wayN n a b = (wayF M (oedF n) (atI n a) (atI n b)).map fun l => l.map fun i => (onmF n).getD i default := by unfold wayN; rw [hMt]
      rw [hMt] at hin hA hB
      rw [hfe, hfn, hle, hM]
      refine AWpL.weak ((weak_freeze 2 rfl (pin 2) (by simp (config := { maxSteps := 2000000 }) only [go_sem, ↓reduceIte, Int.reduceToNat, Nat.reduceMul, Int.reduceBEq, Int.reduceBNe, Nat.reduceBEq, Nat.reduceAdd, Nat.reduceSub, Nat.reduceLeDiff, Nat.reduceEqDiff, Nat.reduceLT, reduceCtorEq, Nat.le_refl, List.length_map])).trans (weak_freeze 3 rfl (pin 3) (by simp (config := { maxSteps := 2000000 }) only [go_sem, ↓reduceIte, Int.reduceToNat, Nat.reduceMul, Int.reduceBEq, Int.reduceBNe, Nat.reduceBEq, Nat.reduceAdd, Nat.reduceSub, Nat.reduceLeDiff, Nat.reduceEqDiff, Nat.reduceLT, reduceCtorEq, Nat.le_refl, List.length_map, hln]))) (AWpL.ofM hn rfl ?_)
      have ht1 : List.take (oedF n).length ((oedF n).map pc2) = (oedF n).map pc2 := List.take_of_length_le (by rw [List.length_map]; exact Nat.le_refl _)
      have ht2 : List.take (oedF n).length ((onmF n).map sc) = (onmF n).map sc := List.take_of_length_le (by rw [List.length_map, hln]; exact Nat.le_refl _)
      simp (config := { maxSteps := 2000000 }) only [go_sem, ↓reduceIte, Int.reduceToNat, Nat.reduceMul, Int.reduceBEq, Int.reduceBNe, Nat.reduceBEq, Nat.reduceAdd, Nat.reduceSub, Nat.reduceLeDiff, Nat.reduceEqDiff, Nat.reduceLT, reduceCtorEq, ht1, ht2]
      refine AWpL_callve rfl (by kernel_rfl) (s42 n hk hv a ha none false) rfl (by rw [hn]; rfl) (by simp (config := { maxSteps := 2000000 }) only [go_sem, ↓reduceIte, Int.reduceToNat, Nat.reduceMul, Int.reduceBEq, Int.reduceBNe, Nat.reduceBEq, Nat.reduceAdd, Nat.reduceSub, Nat.reduceLeDiff, Nat.reduceEqDiff, Nat.reduceLT, reduceCtorEq]) (by simp (config := { maxSteps := 2000000 }) only [go_sem, ↓reduceIte, Int.reduceToNat, Nat.reduceMul, Int.reduceBEq, Int.reduceBNe, Nat.reduceBEq, Nat.reduceAdd, Nat.reduceSub, Nat.reduceLeDiff, Nat.reduceEqDiff, Nat.reduceLT, reduceCtorEq]) (AWpL.ofM hn rfl ?_)
      simp (config := { maxSteps := 2000000 }) only [go_sem, ↓reduceIte, Int.reduceToNat, Nat.reduceMul, Int.reduceBEq, Int.reduceBNe, Nat.reduceBEq, Nat.reduceAdd, Nat.reduceSub, Nat.reduceLeDiff, Nat.reduceEqDiff, Nat.reduceLT, reduceCtorEq]
      refine AWpL_callve rfl (by kernel_rfl) (s42 n hk hv b hb none false) rfl (by rw [hn]; rfl) (by simp (config := { maxSteps := 2000000 }) only [go_sem, ↓reduceIte, Int.reduceToNat, Nat.reduceMul, Int.reduceBEq, Int.reduceBNe, Nat.reduceBEq, Nat.reduceAdd, Nat.reduceSub, Nat.reduceLeDiff, Nat.reduceEqDiff, Nat.reduceLT, reduceCtorEq]) (by simp (config := { maxSteps := 2000000 }) only [go_sem, ↓reduceIte, Int.reduceToNat, Nat.reduceMul, Int.reduceBEq, Int.reduceBNe, Nat.reduceBEq, Nat.reduceAdd, Nat.reduceSub, Nat.reduceLeDiff, Nat.reduceEqDiff, Nat.reduceLT, reduceCtorEq]) (AWpL.ofM hn rfl ?_)
      simp (config := { maxSteps := 2000000 }) only [go_sem, ↓reduceIte, Int.reduceToNat, Nat.reduceMul, Int.reduceBEq, Int.reduceBNe, Nat.reduceBEq, Nat.reduceAdd, Nat.reduceSub, Nat.reduceLeDiff, Nat.reduceEqDiff, Nat.reduceLT, reduceCtorEq]
      refine AWpL.callA [] (s43 M none false (oedF n) (atI n a) (atI n b) hM24 hin (by omega) hA.2 hB.2) rfl rfl (by rw [hn]; rfl) rfl (fun r hr => by cases hr) fun rg v hv' => ?_
      obtain ⟨rfl, rfl⟩ := hv'
      refine ⟨Nat.zero_le _, ?_⟩
      rw [retS_nil]
      refine AWpL.ofM hn rfl ?_
      rw [hW]
      have hok := wayF_ok hin hA.2 hB.2
      cases hw : wayF M (oedF n) (atI n a) (atI n b) with
      | none =>
        simp (config := { maxSteps := 2000000 }) only [go_sem, ↓reduceIte, Int.reduceToNat, Nat.reduceMul, Int.reduceBEq, Int.reduceBNe, Nat.reduceBEq, Nat.reduceAdd, Nat.reduceSub, Nat.reduceLeDiff, Nat.reduceEqDiff, Nat.reduceLT, reduceCtorEq, Option.isSome_none, Option.getD_none, List.map_nil, Option.map_none]
        refine Retn.weak (weak_ent 6 (by rfl) (Ent.ofnil0 1)) _ (Retn.ret (π := []) hp hnp ⟨rfl, ?_⟩)
        simp (config := { maxSteps := 2000000 }) only [go_sem, ↓reduceIte, Int.reduceToNat, Nat.reduceMul, Int.reduceBEq, Int.reduceBNe, Nat.reduceBEq, Nat.reduceAdd, Nat.reduceSub, Nat.reduceLeDiff, Nat.reduceEqDiff, Nat.reduceLT, reduceCtorEq]
      | some p =>
        rw [hw] at hok
        obtain ⟨far, d, hL, hP, hPl, hdN⟩ := hok
        have hpN : p.length ≤ 24 := by
          have := hL.rng _ hA.2
          omega
        have hpi := PathP_lt hP
        simp (config := { maxSteps := 2000000 }) only [go_sem, ↓reduceIte, Int.reduceToNat, Nat.reduceMul, Int.reduceBEq, Int.reduceBNe, Nat.reduceBEq, Nat.reduceAdd, Nat.reduceSub, Nat.reduceLeDiff, Nat.reduceEqDiff, Nat.reduceLT, reduceCtorEq, Option.isSome_some, Option.getD_some, Option.map_some]
        refine AWp.weak (weak_nil 20 9 1 rfl) ?_
        refine AWp.loop (fun k s => ∃ i : Nat, i + k = p.length ∧ Weak E s ⟨[(15, .imm none false 1 ((onmF n).map sc)), (20, .hnd 4 0 i i false), (81, .imm none false 1 (p.map fun i : Nat => ic i)), (82, I p.length), (83, I i)],
            [.box 29 (netc n), .box 38 [.imm none false 1 ((placesF n).map ic)], .dead, .dead, .arr 9 1 ((p.take i).map fun i => sc ((onmF n).getD i default))]⟩) (n := p.length)
          ⟨0, by omega, weak_to [0, 1, 2, 3, 4] hp hnp rfl (by simp (config := { maxSteps := 2000000 }) only [go_sem, ↓reduceIte, Int.reduceToNat, Nat.reduceMul, Int.reduceBEq, Int.reduceBNe, Nat.reduceBEq, Nat.reduceAdd, Nat.reduceSub, Nat.reduceLeDiff, Nat.reduceEqDiff, Nat.reduceLT, reduceCtorEq, Int.natCast_zero, Aw.pos]) (by simp (config := { maxSteps := 2000000 }) only [go_sem, ↓reduceIte, Int.reduceToNat, Nat.reduceMul, Int.reduceBEq, Int.reduceBNe, Nat.reduceBEq, Nat.reduceAdd, Nat.reduceSub, Nat.reduceLeDiff, Nat.reduceEqDiff, Nat.reduceLT, reduceCtorEq, Aw.renR, Aw.pos, List.take_zero, List.map_nil])⟩ ?_
        rintro k s ⟨i, hik, hw⟩
        refine AWp.weak hw (AWp.ofD [] [] hn mixed rfl ?_)
        have htl : (p.take i).length = i := by rw [List.length_take]; omega
        rcases Nat.lt_or_ge i p.length with hlt | hge
        · have e0 : decide ((i : Int) < (p.length : Int)) = true := decide_eq_true (by omega)
          have e1 := getD_mapD 0 (fun i : Nat => ic i) hlt
          have hq := hpi (p.getD i 0) (by rw [List.getD_eq_getElem?_getD, List.getElem?_eq_getElem hlt]; exact List.getElem_mem _)
          have ht : (p.take (i + 1)).map (fun i => sc ((onmF n).getD i default)) = (p.take i).map (fun i => sc ((onmF n).getD i default)) ++ [sc ((onmF n).getD (p.getD i 0) default)] := by
            rw [take_get hlt, List.map_append, List.getD_eq_getElem?_getD (l := p), List.getElem?_eq_getElem hlt]; rfl
          generalize p.getD i 0 = q at *
          have e3 := getD_mapD default sc (l := onmF n) (i := q) (by omega)
          have e2 : IntKind.i64.wrap ((i : Int) + 1) = ((i + 1 : Nat) : Int) := by rw [w64 (by omega) (by omega)]; omega
          simp (config := { maxSteps := 2000000 }) only [go_sem, ↓reduceIte, Int.reduceToNat, Nat.reduceMul, Int.reduceBEq, Int.reduceBNe, Nat.reduceBEq, Nat.reduceAdd, Nat.reduceSub, Nat.reduceLeDiff, Nat.reduceEqDiff, Nat.reduceLT, reduceCtorEq, e0, e1, e3]
          (repeat (refine And.intro (by first | omega | (refine ⟨by omega, by omega⟩) | (refine ⟨by omega, by omega, by omega⟩) | (simp only [List.length_map, List.length_range, List.length_append, List.length_cons, List.length_nil, List.length_replicate, List.length_set]; omega) | (simp; omega) | (intro hgd; cases hgd) | (intro hgd; refine ⟨hgd, ?_⟩; first | omega | (refine ⟨by omega, by omega⟩) | (simp; omega))) ?_))
          refine AWpL.app (r := 4) (els := (p.take i).map fun i => sc ((onmF n).getD i default)) (ys := [sc ((onmF n).getD q default)]) rfl rfl rfl rfl (by rw [hn]; rfl) (by rw [List.length_map, htl]) (pin 4) (by simp (config := { maxSteps := 2000000 }) only [go_sem, ↓reduceIte, Int.reduceToNat, Nat.reduceMul, Int.reduceBEq, Int.reduceBNe, Nat.reduceBEq, Nat.reduceAdd, Nat.reduceSub, Nat.reduceLeDiff, Nat.reduceEqDiff, Nat.reduceLT, reduceCtorEq, Nat.le_refl]) (fun el hm y hy => by
            rw [List.mem_singleton.1 hm] at hy
            rw [List.mem_singleton.1 hy]; rfl) (by simp only [List.length_cons, List.length_nil]; omega) (by simp only [List.length_cons, List.length_nil]; omega) (AWpL.ofM hn rfl ?_)
          simp (config := { maxSteps := 2000000 }) only [go_sem, ↓reduceIte, Int.reduceToNat, Nat.reduceMul, Int.reduceBEq, Int.reduceBNe, Nat.reduceBEq, Nat.reduceAdd, Nat.reduceSub, Nat.reduceLeDiff, Nat.reduceEqDiff, Nat.reduceLT, reduceCtorEq, ← ht, e2]
          exact ⟨k - 1, by omega, i + 1, by omega, weak_to [0, 1, 2, 3, 4] hp hnp rfl (by simp (config := { maxSteps := 2000000 }) only [go_sem, ↓reduceIte, Int.reduceToNat, Nat.reduceMul, Int.reduceBEq, Int.reduceBNe, Nat.reduceBEq, Nat.reduceAdd, Nat.reduceSub, Nat.reduceLeDiff, Nat.reduceEqDiff, Nat.reduceLT, reduceCtorEq, Aw.pos]) (by simp (config := { maxSteps := 2000000 }) only [go_sem, ↓reduceIte, Int.reduceToNat, Nat.reduceMul, Int.reduceBEq, Int.reduceBNe, Nat.reduceBEq, Nat.reduceAdd, Nat.reduceSub, Nat.reduceLeDiff, Nat.reduceEqDiff, Nat.reduceLT, reduceCtorEq, Aw.renR, Aw.pos])⟩
        · have e0 : decide ((i : Int) < (p.length : Int)) = false := decide_eq_false (by omega)
          obtain rfl : i = p.length := by omega
          simp (config := { maxSteps := 2000000 }) only [go_sem, ↓reduceIte, Int.reduceToNat, Nat.reduceMul, Int.reduceBEq, Int.reduceBNe, Nat.reduceBEq, Nat.reduceAdd, Nat.reduceSub, Nat.reduceLeDiff, Nat.reduceEqDiff, Nat.reduceLT, reduceCtorEq, e0]
          refine Retn.weak (weak_freeze 4 rfl (pin 4) ?_) _ ?_
          · simp (config := { maxSteps := 2000000 }) only [go_sem, ↓reduceIte, Int.reduceToNat, Nat.reduceMul, Int.reduceBEq, Int.reduceBNe, Nat.reduceBEq, Nat.reduceAdd, Nat.reduceSub, Nat.reduceLeDiff, Nat.reduceEqDiff, Nat.reduceLT, reduceCtorEq, Nat.le_refl, List.length_map, htl]
          refine Retn.ret (π := []) hp hnp ⟨rfl, ?_⟩
          simp (config := { maxSteps := 2000000 }) only [go_sem, ↓reduceIte, Int.reduceToNat, Nat.reduceMul, Int.reduceBEq, Int.reduceBNe, Nat.reduceBEq, Nat.reduceAdd, Nat.reduceSub, Nat.reduceLeDiff, Nat.reduceEqDiff, Nat.reduceLT, reduceCtorEq]
          rw [List.take_of_length_le (l := p) (Nat.le_refl _), List.take_of_length_le (by rw [List.length_map]; exact Nat.le_refl _), List.map_map]
          rfl
end Go.Proofs.Ytmginfhlohenhaa
