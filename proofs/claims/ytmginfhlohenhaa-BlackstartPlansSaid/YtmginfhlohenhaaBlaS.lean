/- Black starts: the law of plans. -/
import Derived.Test.YtmginfhlohenhaaAwZk
import Derived.Test.YtmginfhlohenhaaBlaR
set_option linter.unusedVariables false
set_option linter.unusedSimpArgs false
namespace Go.Proofs.Ytmginfhlohenhaa
open Go.Proofs.Ytmginfhlohenhaa.Aw
attribute [local go_sem] Int.natCast_zero Int.natCast_one bne_self_eq_false beq_self_eq_true Bool.not_true Bool.not_false Option.isSome_none Option.isSome_some Aw.bkM_nil Option.getD_some Option.getD_none Nat.sub_zero Int.toNat_zero Aw.frzS Aw.frzT Aw.frzA Aw.frzL Aw.frzR Aw.frzO Aw.frzOL Aw.frzOT Aw.frzOR Aw.killS Aw.mapT Aw.mapR Aw.killM Aw.resAVs Aw.resAV Aw.quietOps Aw.wpP Aw.wpT Aw.wpS Aw.AOp.mild List.getElem?_cons_zero List.getElem?_cons_succ Bool.and_false Bool.and_self Bool.false_and Aw.opOb Aw.gdB Aw.Rnd Aw.subTm List.length_map Int.toNat_natCast and_self Aw.SeqC Aw.stops Aw.Ends Aw.looks Aw.renA Aw.renL Aw.renT Aw.renS Aw.wpO Aw.aop Aw.putTm Aw.St.ev Aw.St.put Aw.St.putO Aw.binAV Aw.intBin Aw.strBin Aw.pickAV Aw.optInt Aw.AV.strip Aw.AV.guard Aw.AV.cells Aw.gdOb Aw.AOp.opds Aw.AOp.still Aw.ptrCells Aw.St.reg Aw.fillAV Aw.fillOb Aw.elsOb Aw.splice Aw.firm Aw.cellish Aw.AV.shut Aw.shutAll Aw.Seq Aw.Blk Aw.retS_nil Aw.mapA Aw.mapL Aw.borA Aw.borOb Aw.allOb Aw.tupOf Aw.params Aw.Opd.of Array.toList Value.cells List.map_cons List.map_nil List.getD_cons_zero List.getD_cons_succ List.getD_nil List.length_cons List.length_nil List.take_succ_cons List.take_zero List.take_nil List.drop_zero List.drop_succ_cons List.drop_nil List.set_cons_zero List.set_cons_succ List.append_nil List.nil_append List.cons_append List.all_cons List.all_nil cond_false cond_true if_true if_false true_and and_true Bool.and_true Bool.true_and Option.map_some Option.map_none false_implies forall_const implies_true forall_eq imp_self Bool.cond_false_right Bool.cond_true_left beq_true beq_false Bool.not_eq_true' Bool.false_eq_true Nat.zero_add Nat.add_zero Aw.eqCells Aw.stopDraw Aw.skipS Aw.exactCap Aw.revealS Aw.srcEls Aw.srcSz
attribute [local go_sem ↓] Aw.look_nil Aw.look_ite Aw.wpL_nil Aw.wpL_op Aw.wpL_gd Aw.wpQ_nil Aw.wpQ_op Aw.wpQ_gd Aw.wpC_draw Aw.wpC_reg Aw.wpC_skip Aw.wpC_ret Aw.wpC_exit Aw.wpC_seq Aw.wpC_block Aw.wpC_loop Aw.wpC_cond Aw.stopAt_nil Aw.stopAt_cons Aw.wpD_skip Aw.wpD_ret Aw.wpD_exit Aw.wpD_region Aw.wpD_draw Aw.wpM_nil Aw.wpM_op Aw.wpM_gd Aw.wpD_seq Aw.wpD_block Aw.wpD_loop Aw.wpD_cond

/- slices.IndexFunc[[]string,string] -/
def a37 : ACode :=
  (.seq (.region false [] [
     ⟨(some 4), none, (.mov (.v (.int .i64 0)))⟩])
  (.seq (.seq (.region false [] [
     ⟨(some 6), none, (.mov (.t 0))⟩,
     ⟨(some 7), none, (.len (.t 6))⟩,
     ⟨(some 8), none, (.mov (.v (.int .i64 0)))⟩])
  (.block 0 (.loop (.seq (.region false [] [
       ⟨(some 9), none, (.bin .lss 3 (.t 8) (.t 7))⟩])
    (.seq (.cond (.t 9)
      .skip
      (.exit 0))
    (.seq (.block 1 (.seq (.region false [] [
        ⟨(some 10), none, (.mov (.t 8))⟩,
        ⟨(some 5), none, (.mov (.t 10))⟩])
     (.seq (.region false [] [
        ⟨(some 11), none, (.mov (.t 1))⟩,
        ⟨(some 12), none, (.mov (.t 0))⟩,
        ⟨(some 13), none, (.mov (.t 5))⟩,
        ⟨(some 14), none, (.idx 1 (.t 12) (.t 13))⟩,
        ⟨(some 15), none, (.load 1 false (.t 14))⟩,
        ⟨(some 16), none, (.callv (.t 11) [(.t 15)])⟩])
     (.cond (.t 16)
       (.seq (.region false [] [
          ⟨(some 17), none, (.mov (.t 5))⟩,
          ⟨(some 4), none, (.mov (.t 17))⟩])
       .ret)
       .skip))))
    (.region false [] [
       ⟨(some 18), none, (.bin .add 3 (.t 8) (.v (.int .i64 1)))⟩,
       ⟨(some 8), none, (.mov (.t 18))⟩])))))))
  (.seq (.region false [] [
     ⟨(some 4), none, (.mov (.v (.int .i64 (-1))))⟩])
  .ret)))
theorem k37 : FnIs Try.prog 37 19 [.t 4] a37 := ⟨_, _, Try.func37, rfl, by kernel_rfl, by kernel_rfl, rfl⟩
/- slices.ContainsFunc[[]string,string] -/
def a20 : ACode :=
  (.seq (.region false [] [
     ⟨(some 4), none, (.mov (.v (.bool false)))⟩])
  (.seq (.region false [] [
     ⟨(some 5), none, (.mov (.t 0))⟩,
     ⟨(some 6), none, (.mov (.t 1))⟩,
     ⟨(some 7), none, (.call 37 [(.t 5), (.t 6)])⟩,
     ⟨(some 8), none, (.bin .geq 3 (.t 7) (.v (.int .i64 0)))⟩,
     ⟨(some 4), none, (.mov (.t 8))⟩])
  .ret))
theorem k20 : FnIs Try.prog 20 9 [.t 4] a20 := ⟨_, _, Try.func20, rfl, by kernel_rfl, by kernel_rfl, rfl⟩
/- gridhall/gridhallkeep4.BlackstartPlans$1 -/
def a18 : ACode :=
  (.seq (.region false [] [
     ⟨(some 4), none, (.mov (.v (.int .i64 0)))⟩])
  (.seq (.seq (.region false [] [
     ⟨(some 9), none, (.fld 3 (.t 1))⟩,
     ⟨(some 10), none, (.load 1 false (.t 9))⟩,
     ⟨(some 11), none, (.len (.t 10))⟩,
     ⟨(some 12), none, (.mov (.v (.int .i64 0)))⟩])
  (.block 0 (.loop (.seq (.region false [] [
       ⟨(some 13), none, (.bin .lss 3 (.t 12) (.t 11))⟩])
    (.seq (.cond (.t 13)
      .skip
      (.exit 0))
    (.seq (.block 1 (.seq (.region false [] [
        ⟨(some 14), none, (.idx 5 (.t 10) (.t 12))⟩,
        ⟨(some 15), none, (.load 5 true (.t 14))⟩,
        ⟨(some 6), none, (.alloc 55 (.agg #[(.string ⟨#[]⟩), (.string ⟨#[]⟩), (.int .i64 0), (.int .i64 0), (.int .i64 0)]))⟩,
        ⟨none, none, (.store 5 (.t 6) (.t 15))⟩])
     (.seq (.region false [] [
        ⟨(some 16), none, (.fld 0 (.t 6))⟩,
        ⟨(some 17), none, (.load 1 false (.t 16))⟩,
        ⟨(some 18), none, (.mov (.t 0))⟩,
        ⟨(some 19), none, (.bin .eql 9 (.t 17) (.t 18))⟩])
     (.cond (.t 19)
       (.seq (.region false [] [
          ⟨(some 21), none, (.load 6 true (.t 1))⟩,
          ⟨(some 22), none, (.fld 1 (.t 6))⟩,
          ⟨(some 23), none, (.load 1 false (.t 22))⟩,
          ⟨(some 24), none, (.call 19 [(.t 21), (.t 23)])⟩,
          ⟨(some 20), none, (.mov (.t 24))⟩,
          ⟨(some 25), none, (.ext 0 (.t 20))⟩,
          ⟨(some 26), none, (.ext 1 (.t 20))⟩,
          ⟨(some 7), none, (.mov (.t 25))⟩,
          ⟨(some 8), none, (.mov (.t 26))⟩])
       (.seq (.region false [] [
          ⟨(some 27), none, (.load 1 false (.t 2))⟩,
          ⟨(some 28), none, (.mov (.t 7))⟩,
          ⟨(some 29), none, (.load 1 false (.t 2))⟩,
          ⟨(some 30), none, (.len (.t 29))⟩,
          ⟨(some 31), none, (.bin .sub 3 (.t 30) (.v (.int .i64 1)))⟩,
          ⟨(some 32), none, (.mni (.t 28) (.t 31))⟩,
          ⟨(some 33), none, (.idx 1 (.t 27) (.t 32))⟩,
          ⟨(some 34), none, (.load 1 false (.t 33))⟩,
          ⟨(some 4), none, (.mov (.t 34))⟩])
       .ret))
       .skip))))
    (.region false [] [
       ⟨(some 35), none, (.bin .add 3 (.t 12) (.v (.int .i64 1)))⟩,
       ⟨(some 12), none, (.mov (.t 35))⟩])))))))
  (.seq (.region false [] [
     ⟨(some 4), none, (.mov (.v (.int .i64 (-1))))⟩])
  .ret)))
theorem k18 : FnIs Try.prog 18 36 [.t 4] a18 := ⟨_, _, Try.func18, rfl, by kernel_rfl, by kernel_rfl, rfl⟩
/- gridhall/gridhallkeep4.BlackstartPlans$2 -/
def a21 : ACode :=
  (.seq (.region false [] [
     ⟨(some 4), none, (.mov (.v (.bool false)))⟩])
  (.seq (.region true [[], [], [0, 1], [], [], [4], [3, 5, 2], [2, 6], [7, 6, 0, 1, 2, 3, 4, 5, 6, 7]] [
     ⟨(some 5), none, (.load 1 false (.t 1))⟩,
     ⟨(some 6), none, (.mov (.t 0))⟩,
     ⟨(some 7), none, (.callv (.t 5) [(.t 6)])⟩,
     ⟨(some 8), none, (.load 1 false (.t 1))⟩,
     ⟨(some 9), none, (.fld 0 (.t 2))⟩,
     ⟨(some 10), none, (.load 1 false (.t 9))⟩,
     ⟨(some 11), none, (.callv (.t 8) [(.t 10)])⟩,
     ⟨(some 12), none, (.bin .eql 3 (.t 7) (.t 11))⟩,
     ⟨(some 4), none, (.mov (.t 12))⟩])
  .ret))
theorem k21 : FnIs Try.prog 21 13 [.t 4] a21 := ⟨_, _, Try.func21, rfl, by kernel_rfl, by kernel_rfl, rfl⟩
/- gridhall/gridhallkeep4.BlackstartPlans -/
def a5 : ACode :=
  (.seq (.region false [] [
     ⟨(some 2), none, (.box 29 (.t 0))⟩,
     ⟨(some 4), none, (.mov (.v (.bool false)))⟩])
  (.seq (.region false [] [
     ⟨(some 15), none, (.load 6 true (.t 2))⟩,
     ⟨(some 16), none, (.call 15 [(.t 15)])⟩,
     ⟨none, none, (.store 6 (.t 2) (.t 16))⟩])
  (.seq (.region false [] [
     ⟨(some 18), none, (.load 6 true (.t 2))⟩,
     ⟨(some 19), none, (.mov (.t 1))⟩,
     ⟨(some 20), none, (.call 16 [(.t 18), (.t 19)])⟩,
     ⟨(some 17), none, (.mov (.t 20))⟩,
     ⟨(some 21), none, (.ext 0 (.t 17))⟩,
     ⟨(some 22), none, (.ext 1 (.t 17))⟩,
     ⟨(some 5), none, (.mov (.t 21))⟩,
     ⟨(some 6), none, (.mov (.t 22))⟩])
  (.seq (.seq (.region false [] [
     ⟨(some 23), none, (.mov (.t 6))⟩,
     ⟨(some 24), none, (.bin .neq 30 (.t 23) (.v (.int .i64 0)))⟩])
  (.cond (.t 24)
    (.seq (.region false [] [
       ⟨(some 25), none, (.call 7 [])⟩,
       ⟨(some 26), none, (.mov (.t 25))⟩,
       ⟨(some 27), (some (26, true)), (.mov (.t 5))⟩,
       ⟨(some 28), (some (26, true)), (.len (.t 27))⟩,
       ⟨(some 29), (some (26, true)), (.bin .eql 3 (.t 28) (.v (.int .i64 0)))⟩,
       ⟨(some 30), none, (.pick (.t 26) (.t 29) (.v (.bool false)))⟩,
       ⟨(some 4), none, (.mov (.t 30))⟩])
    .ret)
    .skip))
  (.seq (.region false [] [
     ⟨(some 32), none, (.load 6 true (.t 2))⟩,
     ⟨(some 33), none, (.mov (.t 1))⟩,
     ⟨(some 34), none, (.mov (.t 5))⟩,
     ⟨(some 35), none, (.call 17 [(.t 32), (.t 33), (.t 34)])⟩,
     ⟨(some 31), none, (.mov (.t 35))⟩,
     ⟨(some 36), none, (.ext 0 (.t 31))⟩,
     ⟨(some 37), none, (.ext 1 (.t 31))⟩,
     ⟨(some 38), none, (.ext 2 (.t 31))⟩,
     ⟨(some 7), none, (.alloc 29 (.agg #[(.slice none 0 0), (.slice none 0 0), (.slice none 0 0), (.slice none 0 0), (.slice none 0 0), (.slice none 0 0)]))⟩,
     ⟨none, none, (.store 6 (.t 7) (.t 36))⟩,
     ⟨(some 8), none, (.mov (.t 37))⟩,
     ⟨(some 9), none, (.mov (.t 38))⟩])
  (.seq (.seq (.region false [] [
     ⟨(some 39), none, (.mov (.t 9))⟩,
     ⟨(some 40), none, (.bin .neq 30 (.t 39) (.v (.int .i64 0)))⟩,
     ⟨(some 41), none, (.mov (.t 40))⟩,
     ⟨(some 42), (some (41, false)), (.mov (.t 8))⟩,
     ⟨(some 43), (some (41, false)), (.bin .neq 3 (.t 42) (.v (.int .i64 0)))⟩,
     ⟨(some 44), none, (.pick (.t 41) (.v (.bool true)) (.t 43))⟩,
     ⟨(some 45), none, (.mov (.t 44))⟩,
     ⟨(some 46), (some (45, false)), (.mov (.t 5))⟩,
     ⟨(some 47), (some (45, false)), (.len (.t 46))⟩,
     ⟨(some 48), (some (45, false)), (.mov (.t 1))⟩,
     ⟨(some 49), (some (45, false)), (.len (.t 48))⟩,
     ⟨(some 50), (some (45, false)), (.bin .add 3 (.t 47) (.t 49))⟩,
     ⟨(some 51), (some (45, false)), (.fld 3 (.t 2))⟩,
     ⟨(some 52), (some (45, false)), (.load 1 false (.t 51))⟩,
     ⟨(some 53), (some (45, false)), (.len (.t 52))⟩,
     ⟨(some 54), (some (45, false)), (.bin .neq 3 (.t 50) (.t 53))⟩,
     ⟨(some 55), none, (.pick (.t 45) (.v (.bool true)) (.t 54))⟩])
  (.cond (.t 55)
    (.seq (.region false [] [
       ⟨(some 4), none, (.mov (.v (.bool false)))⟩])
    .ret)
    .skip))
  (.seq (.region false [] [
     ⟨(some 57), none, (.load 6 true (.t 7))⟩,
     ⟨(some 58), none, (.call 12 [(.t 57)])⟩,
     ⟨(some 56), none, (.mov (.t 58))⟩,
     ⟨(some 59), none, (.ext 0 (.t 56))⟩,
     ⟨(some 60), none, (.ext 1 (.t 56))⟩,
     ⟨(some 10), none, (.alloc 38 (.slice none 0 0))⟩,
     ⟨none, none, (.store 1 (.t 10) (.t 59))⟩,
     ⟨(some 11), none, (.mov (.t 60))⟩])
  (.seq (.seq (.region false [] [
     ⟨(some 61), none, (.mov (.t 11))⟩,
     ⟨(some 62), none, (.bin .neq 30 (.t 61) (.v (.int .i64 0)))⟩,
     ⟨(some 63), none, (.mov (.t 62))⟩,
     ⟨(some 64), (some (63, false)), (.load 1 false (.t 10))⟩,
     ⟨(some 65), (some (63, false)), (.len (.t 64))⟩,
     ⟨(some 66), (some (63, false)), (.fld 0 (.t 2))⟩,
     ⟨(some 67), (some (63, false)), (.load 1 false (.t 66))⟩,
     ⟨(some 68), (some (63, false)), (.len (.t 67))⟩,
     ⟨(some 69), (some (63, false)), (.bin .neq 3 (.t 65) (.t 68))⟩,
     ⟨(some 70), none, (.pick (.t 63) (.v (.bool true)) (.t 69))⟩])
  (.cond (.t 70)
    (.seq (.region false [] [
       ⟨(some 4), none, (.mov (.v (.bool false)))⟩])
    .ret)
    .skip))
  (.seq (.region false [] [
     ⟨(some 71), none, (.mkfn 18 [(.t 2), (.t 10)])⟩,
     ⟨(some 12), none, (.alloc 58 .nilFunc)⟩,
     ⟨none, none, (.store 1 (.t 12) (.t 71))⟩])
  (.seq (.seq (.region false [] [
     ⟨(some 72), none, (.mov (.t 5))⟩,
     ⟨(some 73), none, (.len (.t 72))⟩,
     ⟨(some 74), none, (.mov (.v (.int .i64 0)))⟩])
  (.block 0 (.loop (.seq (.region false [] [
       ⟨(some 75), none, (.bin .lss 3 (.t 74) (.t 73))⟩])
    (.seq (.cond (.t 75)
      .skip
      (.exit 0))
    (.seq (.block 1 (.seq (.region false [] [
        ⟨(some 76), none, (.idx 2 (.t 72) (.t 74))⟩,
        ⟨(some 77), none, (.load 2 true (.t 76))⟩,
        ⟨(some 14), none, (.alloc 50 (.agg #[(.string ⟨#[]⟩), (.slice none 0 0)]))⟩,
        ⟨none, none, (.store 2 (.t 14) (.t 77))⟩])
     (.seq (.region false [] [
        ⟨(some 78), none, (.mov (.t 1))⟩,
        ⟨(some 79), none, (.mkfn 21 [(.t 12), (.t 14)])⟩,
        ⟨(some 80), none, (.call 20 [(.t 78), (.t 79)])⟩,
        ⟨(some 81), none, (.un .not (.t 80))⟩])
     (.cond (.t 81)
       (.seq (.region false [] [
          ⟨(some 4), none, (.mov (.v (.bool false)))⟩])
       .ret)
       .skip))))
    (.region false [] [
       ⟨(some 82), none, (.bin .add 3 (.t 74) (.v (.int .i64 1)))⟩,
       ⟨(some 74), none, (.mov (.t 82))⟩])))))))
  (.seq (.region false [] [
     ⟨(some 83), none, (.call 7 [])⟩,
     ⟨(some 4), none, (.mov (.t 83))⟩])
  .ret)))))))))))
theorem k5 : FnIs Try.prog 5 84 [.t 4] a5 := ⟨_, _, Try.func5, rfl, by kernel_rfl, by kernel_rfl, rfl⟩

theorem s37 (nl fl) (l : List (ByteArray)) (g : FuncId) (caps : List AV) (p : ByteArray → Bool) (hg : fnOk Try.prog g = true) (hc : renL [] caps = caps) (hq : ∀ x ∈ l, Aw.Spec Try.prog g [] ((S) x :: caps) (Gives (· = B (p x)))) (hl : l.length ≤ 9223372036854775807) :
    Aw.Spec Try.prog 37 [] [.imm nl fl 1 (l.map sc), .fn g caps] (Gives (· = I (fIndex p 0 l))) := by
  refine Aw.Spec.givesD k37 mixed rfl rfl rfl fun E hn hnp hp => ?_
  unfold a37
  simp (config := { maxSteps := 2000000 }) only [go_sem, ↓reduceIte, Int.reduceToNat, Nat.reduceMul, Int.reduceBEq, Int.reduceBNe, Nat.reduceBEq, Nat.reduceAdd, Nat.reduceSub, Nat.reduceLeDiff, Nat.reduceEqDiff, Nat.reduceLT, reduceCtorEq]
  refine AWp.loop (fun k s => ∃ i : Nat, i + k = l.length ∧ fIndex p 0 l = fIndex p i (l.drop i) ∧ Weak E s ⟨[(0, .imm nl fl 1 (l.map sc)), (1, .fn g caps), (7, I l.length), (8, I i)], []⟩) (n := l.length)
    ⟨0, by omega, rfl, weak_to [] hp hnp rfl (by simp (config := { maxSteps := 2000000 }) only [go_sem, ↓reduceIte, Int.reduceToNat, Nat.reduceMul, Int.reduceBEq, Int.reduceBNe, Nat.reduceBEq, Nat.reduceAdd, Nat.reduceSub, Nat.reduceLeDiff, Nat.reduceEqDiff, Nat.reduceLT, reduceCtorEq, hc, Int.natCast_zero]) rfl⟩ ?_
  rintro k s ⟨i, hi, hs, hw⟩
  refine AWp.weak hw (AWp.ofD [] [] hn mixed rfl ?_)
  rcases Nat.lt_or_ge i l.length with hlt | hge
  · have e0 : decide ((i : Int) < (l.length : Int)) = true := decide_eq_true (by omega)
    have e1 := getD_map sc hlt
    have e2 : IntKind.i64.wrap ((i : Int) + 1) = ((i + 1 : Nat) : Int) := by rw [w64 (by omega) (by omega)]; omega
    have h2 := hq _ (List.getElem_mem hlt)
    rw [fIndex_drop hlt] at hs
    generalize l[i] = x at e1 h2 hs
    simp (config := { maxSteps := 2000000 }) only [go_sem, ↓reduceIte, Int.reduceToNat, Nat.reduceMul, Int.reduceBEq, Int.reduceBNe, Nat.reduceBEq, Nat.reduceAdd, Nat.reduceSub, Nat.reduceLeDiff, Nat.reduceEqDiff, Nat.reduceLT, reduceCtorEq, e0, e1]
    (repeat (refine And.intro (by first | omega | (refine ⟨by omega, by omega⟩) | (refine ⟨by omega, by omega, by omega⟩) | (simp only [List.length_map, List.length_range, List.length_append, List.length_cons, List.length_nil, List.length_replicate, List.length_set]; omega) | (simp; omega) | (intro hgd; cases hgd) | (intro hgd; refine ⟨hgd, ?_⟩; first | omega | (refine ⟨by omega, by omega⟩) | (simp; omega))) ?_))
    refine AWpL.callv rfl hg (by rw [← hc] at h2; exact h2) (by rw [hn]; rfl) fun rg v hv => ?_
    obtain ⟨rfl, rfl⟩ := hv
    rw [retS_nil]
    refine AWpL.ofM hn rfl ?_
    simp (config := { maxSteps := 2000000 }) only [go_sem, ↓reduceIte, Int.reduceToNat, Nat.reduceMul, Int.reduceBEq, Int.reduceBNe, Nat.reduceBEq, Nat.reduceAdd, Nat.reduceSub, Nat.reduceLeDiff, Nat.reduceEqDiff, Nat.reduceLT, reduceCtorEq, e2]
    refine ⟨fun h => ?_, fun h => ?_⟩
    · rw [hs, if_pos h]
    · rw [if_neg (by simp [h])] at hs
      exact ⟨k - 1, by omega, i + 1, by omega, hs, weak_to [] hp hnp rfl (by simp (config := { maxSteps := 2000000 }) only [go_sem, ↓reduceIte, Int.reduceToNat, Nat.reduceMul, Int.reduceBEq, Int.reduceBNe, Nat.reduceBEq, Nat.reduceAdd, Nat.reduceSub, Nat.reduceLeDiff, Nat.reduceEqDiff, Nat.reduceLT, reduceCtorEq, hc]) rfl⟩
  · have e0 : decide ((i : Int) < (l.length : Int)) = false := decide_eq_false (by omega)
    simp (config := { maxSteps := 2000000 }) only [go_sem, ↓reduceIte, Int.reduceToNat, Nat.reduceMul, Int.reduceBEq, Int.reduceBNe, Nat.reduceBEq, Nat.reduceAdd, Nat.reduceSub, Nat.reduceLeDiff, Nat.reduceEqDiff, Nat.reduceLT, reduceCtorEq, e0]
    rw [hs, List.drop_of_length_le hge]
    rfl

theorem s20 (nl fl) (l : List (ByteArray)) (g : FuncId) (caps : List AV) (p : ByteArray → Bool) (hg : fnOk Try.prog g = true) (hc : renL [] caps = caps) (hb : caps.map (borA 3 ⟨[], []⟩) = caps) (hq : ∀ x ∈ l, Aw.Spec Try.prog g [] ((S) x :: caps) (Gives (· = B (p x)))) (hl : l.length ≤ 9223372036854775807) :
    Aw.Spec Try.prog 20 [] [.imm nl fl 1 (l.map sc), .fn g caps] (Gives (· = B (l.any p))) := by
  refine Aw.Spec.givesD k20 mixed rfl rfl rfl fun E hn hnp hp => ?_
  unfold a20
  simp (config := { maxSteps := 2000000 }) only [go_sem, ↓reduceIte, Int.reduceToNat, Nat.reduceMul, Int.reduceBEq, Int.reduceBNe, Nat.reduceBEq, Nat.reduceAdd, Nat.reduceSub, Nat.reduceLeDiff, Nat.reduceEqDiff, Nat.reduceLT, reduceCtorEq]
  refine AWpL.callA [] (s37 nl fl l g caps p hg hc hq hl) rfl (by simp (config := { maxSteps := 2000000 }) only [go_sem, ↓reduceIte, Int.reduceToNat, Nat.reduceMul, Int.reduceBEq, Int.reduceBNe, Nat.reduceBEq, Nat.reduceAdd, Nat.reduceSub, Nat.reduceLeDiff, Nat.reduceEqDiff, Nat.reduceLT, reduceCtorEq, hc]) (by rw [hn]; rfl) rfl (fun r hr => by cases hr) fun rg v hv => ?_
  obtain ⟨rfl, rfl⟩ := hv
  refine ⟨Nat.le_refl _, ?_⟩
  rw [retS_nil]
  refine AWpL.ofM hn rfl ?_
  simp (config := { maxSteps := 2000000 }) only [go_sem, ↓reduceIte, Int.reduceToNat, Nat.reduceMul, Int.reduceBEq, Int.reduceBNe, Nat.reduceBEq, Nat.reduceAdd, Nat.reduceSub, Nat.reduceLeDiff, Nat.reduceEqDiff, Nat.reduceLT, reduceCtorEq]
  rw [fIndex_any]

set_option maxRecDepth 20000 in
theorem s18 (n : Net) (hk : NetOk n) (hv : NetV n) (P : List Int) (hP : P.length = n.nodes.l.length) (nl fl) (x : ByteArray) (hx : GenName n x) : Aw.Spec Try.prog 18 [] [S x, .pim (netc n), .pim [.imm nl fl 1 (P.map ic)]] (Gives (· = I (P.getD (idx n (nodG n x)) 0))) := by
  refine Aw.Spec.givesD k18 mixed rfl rfl rfl fun E hn hnp hp => ?_
  unfold a18
  have h10 := hv.nge
  have h24 := hv.nodes
  simp (config := { maxSteps := 2000000 }) only [go_sem, ↓reduceIte, Int.reduceToNat, Nat.reduceMul, Int.reduceBEq, Int.reduceBNe, Nat.reduceBEq, Nat.reduceAdd, Nat.reduceSub, Nat.reduceLeDiff, Nat.reduceEqDiff, Nat.reduceLT, reduceCtorEq]
  refine AWp.loop (fun k s => ∃ i : Nat, i + k = n.gens.l.length ∧ (∀ j (hj : j < n.gens.l.length), j < i → n.gens.l[j].name ≠ x) ∧ Weak E s ⟨[(0, S x), (1, .pim (netc n)), (2, .pim [.imm nl fl 1 (P.map ic)]), (10, n.gens.av 5 gec), (11, I n.gens.l.length), (12, I i)], []⟩) (n := n.gens.l.length)
    ⟨0, by omega, fun j hj h => by omega, weak_to [] hp hnp rfl (by simp (config := { maxSteps := 2000000 }) only [go_sem, ↓reduceIte, Int.reduceToNat, Nat.reduceMul, Int.reduceBEq, Int.reduceBNe, Nat.reduceBEq, Nat.reduceAdd, Nat.reduceSub, Nat.reduceLeDiff, Nat.reduceEqDiff, Nat.reduceLT, reduceCtorEq, Int.natCast_zero] <;> rfl) rfl⟩ ?_
  rintro k s ⟨i, hik, hno, hw⟩
  refine AWp.weak hw (AWp.ofD [] [] hn mixed rfl ?_)
  rcases Nat.lt_or_ge i n.gens.l.length with hlt | hge
  · have e0 : decide ((i : Int) < (n.gens.l.length : Int)) = true := decide_eq_true (by omega)
    have e1 := getD_map gec hlt
    have e2 : IntKind.i64.wrap ((i : Int) + 1) = ((i + 1 : Nat) : Int) := by rw [w64 (by omega) (by omega)]; omega
    have hg := List.getElem_mem hlt
    have hgi := (hv.ge _ hg).1
    obtain ⟨a1, a2, a3⟩ := idx_int hgi
    have h0 := netF_zero.2 hv
    have hE : nodeE n n.gens.l[i].node = 0 := by unfold nodeE; rw [if_neg (by simp [h0]), if_neg (by omega)]
    have hI : nodeI n n.gens.l[i].node = (idx n n.gens.l[i].node : Int) := by unfold nodeI; rw [if_pos hE, a1]
    have hgn := gen_node hv hg
    have hsucc : n.gens.l[i].name ≠ x → ∀ j (hj : j < n.gens.l.length), j < i + 1 → n.gens.l[j].name ≠ x := fun h j hj hji => by
      rcases Nat.lt_or_eq_of_le (Nat.le_of_lt_succ hji) with h1 | rfl
      · exact hno j hj h1
      · exact h
    have e3 := getD_mapD 0 ic (l := P) (i := idx n n.gens.l[i].node) (by omega)
    have e4 : min ((idx n n.gens.l[i].node : Nat) : Int) ((P.length : Int) - 1) = ((idx n n.gens.l[i].node : Nat) : Int) := by omega
    have e5 : IntKind.i64.wrap ((P.length : Int) - 1) = (P.length : Int) - 1 := w64 (by omega) (by omega)
    generalize n.gens.l[i] = g at *
    simp (config := { maxSteps := 2000000 }) only [go_sem, ↓reduceIte, Int.reduceToNat, Nat.reduceMul, Int.reduceBEq, Int.reduceBNe, Nat.reduceBEq, Nat.reduceAdd, Nat.reduceSub, Nat.reduceLeDiff, Nat.reduceEqDiff, Nat.reduceLT, reduceCtorEq, e0, e1]
    (repeat (refine And.intro (by first | omega | (refine ⟨by omega, by omega⟩) | (refine ⟨by omega, by omega, by omega⟩) | (simp only [List.length_map, List.length_range, List.length_append, List.length_cons, List.length_nil, List.length_replicate, List.length_set]; omega) | (simp; omega) | (intro hgd; cases hgd) | (intro hgd; refine ⟨hgd, ?_⟩; first | omega | (refine ⟨by omega, by omega⟩) | (simp; omega))) ?_))
    have hq : (g.name.toList == x.toList) = seq g.name x := rfl
    rw [hq]
    refine ⟨fun h => ?_, fun h => ?_⟩
    · have hgx : g.name = x := seqq.1 h
      rw [hgx] at hgn
      (refine AWpL.calle (s19 n hk g.node) rfl (by rw [hn]; rfl) (by simp (config := { maxSteps := 2000000 }) only [go_sem, ↓reduceIte, Int.reduceToNat, Nat.reduceMul, Int.reduceBEq, Int.reduceBNe, Nat.reduceBEq, Nat.reduceAdd, Nat.reduceSub, Nat.reduceLeDiff, Nat.reduceEqDiff, Nat.reduceLT, reduceCtorEq]) (AWpL.ofM hn rfl ?_); simp (config := { maxSteps := 2000000 }) only [go_sem, ↓reduceIte, Int.reduceToNat, Nat.reduceMul, Int.reduceBEq, Int.reduceBNe, Nat.reduceBEq, Nat.reduceAdd, Nat.reduceSub, Nat.reduceLeDiff, Nat.reduceEqDiff, Nat.reduceLT, reduceCtorEq])
      simp (config := { maxSteps := 2000000 }) only [go_sem, ↓reduceIte, Int.reduceToNat, Nat.reduceMul, Int.reduceBEq, Int.reduceBNe, Nat.reduceBEq, Nat.reduceAdd, Nat.reduceSub, Nat.reduceLeDiff, Nat.reduceEqDiff, Nat.reduceLT, reduceCtorEq, hI, e5, e4, e3]
      rw [hgn]
      refine ⟨by omega, rfl⟩
    · have hne : g.name ≠ x := fun e => by rw [seqq.2 e] at h; cases h
      simp (config := { maxSteps := 2000000 }) only [go_sem, ↓reduceIte, Int.reduceToNat, Nat.reduceMul, Int.reduceBEq, Int.reduceBNe, Nat.reduceBEq, Nat.reduceAdd, Nat.reduceSub, Nat.reduceLeDiff, Nat.reduceEqDiff, Nat.reduceLT, reduceCtorEq, e2]
      exact ⟨k - 1, by omega, i + 1, by omega, hsucc hne, weak_to [] hp hnp rfl (by simp (config := { maxSteps := 2000000 }) only [go_sem, ↓reduceIte, Int.reduceToNat, Nat.reduceMul, Int.reduceBEq, Int.reduceBNe, Nat.reduceBEq, Nat.reduceAdd, Nat.reduceSub, Nat.reduceLeDiff, Nat.reduceEqDiff, Nat.reduceLT, reduceCtorEq]) rfl⟩
  · exfalso
    obtain ⟨y, hy, hyn⟩ := hx
    obtain ⟨j, hj, rfl⟩ := List.mem_iff_getElem.1 hy
    exact hno j hj (by omega) hyn
theorem s21 (n : Net) (hk : NetOk n) (hv : NetV n) (P : List Int) (hP : P.length = n.nodes.l.length) (nl fl) (x : ByteArray) (hx : GenName n x) (st : Stp) (hs : GenName n st.1) :
    Aw.Spec Try.prog 21 [] [S x, .pim [.fn 18 [.pim (netc n), .pim [.imm nl fl 1 (P.map ic)]]], .pim (stc st)] (Gives (· = B (P.getD (idx n (nodG n x)) 0 == P.getD (idx n (nodG n st.1)) 0))) := by
  refine Aw.Spec.givesW k21 rfl rfl fun E hn hnp hp => ?_
  unfold a21
  refine AWp.ofD [999] [] hn mixed rfl ?_
  simp (config := { maxSteps := 2000000 }) only [go_sem, ↓reduceIte, Int.reduceToNat, Nat.reduceMul, Int.reduceBEq, Int.reduceBNe, Nat.reduceBEq, Nat.reduceAdd, Nat.reduceSub, Nat.reduceLeDiff, Nat.reduceEqDiff, Nat.reduceLT, reduceCtorEq]
  refine AWp.plan (.take 0 [false, true, false, true, true, true, false, false, false] (.take 1 [true, false, false, true, true, true, false, false, false] (.take 3 [true, true, true, false, true, true, false, false, false] (.take 4 [true, true, true, true, false, false, false, false, false] (.take 5 [true, true, true, true, true, false, false, false, false] (.one 2 (.one 6 (.take 7 [true, true, true, true, true, true, true, false, false] (.take 8 [true, true, true, true, true, true, true, true, false] .done))))))))) [true, true, true, true, true, true, true, true, true] mixed hn rfl rfl ?_
  simp (config := { maxSteps := 2000000 }) only [go_sem, ↓reduceIte, Int.reduceToNat, Nat.reduceMul, Int.reduceBEq, Int.reduceBNe, Nat.reduceBEq, Nat.reduceAdd, Nat.reduceSub, Nat.reduceLeDiff, Nat.reduceEqDiff, Nat.reduceLT, reduceCtorEq]
  refine AOne_callve rfl (by kernel_rfl) (s18 n hk hv P hP nl fl x hx) rfl (by rw [hn]; rfl) (by simp (config := { maxSteps := 2000000 }) only [go_sem, ↓reduceIte, Int.reduceToNat, Nat.reduceMul, Int.reduceBEq, Int.reduceBNe, Nat.reduceBEq, Nat.reduceAdd, Nat.reduceSub, Nat.reduceLeDiff, Nat.reduceEqDiff, Nat.reduceLT, reduceCtorEq]) (by simp (config := { maxSteps := 2000000 }) only [go_sem, ↓reduceIte, Int.reduceToNat, Nat.reduceMul, Int.reduceBEq, Int.reduceBNe, Nat.reduceBEq, Nat.reduceAdd, Nat.reduceSub, Nat.reduceLeDiff, Nat.reduceEqDiff, Nat.reduceLT, reduceCtorEq]) ?_
  simp (config := { maxSteps := 2000000 }) only [go_sem, ↓reduceIte, Int.reduceToNat, Nat.reduceMul, Int.reduceBEq, Int.reduceBNe, Nat.reduceBEq, Nat.reduceAdd, Nat.reduceSub, Nat.reduceLeDiff, Nat.reduceEqDiff, Nat.reduceLT, reduceCtorEq]
  refine AOne_callve rfl (by kernel_rfl) (s18 n hk hv P hP nl fl st.1 hs) rfl (by rw [hn]; rfl) (by simp (config := { maxSteps := 2000000 }) only [go_sem, ↓reduceIte, Int.reduceToNat, Nat.reduceMul, Int.reduceBEq, Int.reduceBNe, Nat.reduceBEq, Nat.reduceAdd, Nat.reduceSub, Nat.reduceLeDiff, Nat.reduceEqDiff, Nat.reduceLT, reduceCtorEq]) (by simp (config := { maxSteps := 2000000 }) only [go_sem, ↓reduceIte, Int.reduceToNat, Nat.reduceMul, Int.reduceBEq, Int.reduceBNe, Nat.reduceBEq, Nat.reduceAdd, Nat.reduceSub, Nat.reduceLeDiff, Nat.reduceEqDiff, Nat.reduceLT, reduceCtorEq]) ?_
  simp (config := { maxSteps := 2000000 }) only [go_sem, ↓reduceIte, Int.reduceToNat, Nat.reduceMul, Int.reduceBEq, Int.reduceBNe, Nat.reduceBEq, Nat.reduceAdd, Nat.reduceSub, Nat.reduceLeDiff, Nat.reduceEqDiff, Nat.reduceLT, reduceCtorEq]
set_option maxRecDepth 20000 in
set_option maxHeartbeats 4000000 in
theorem s5 (n : Net) (hk : NetOk n) (nl fl) (src : List ByteArray) (hsl : src.length ≤ 9223372036854775807) : Aw.Spec Try.prog 5 [] [neta n, ss nl fl src] (Gives (· = B true)) := by
  refine Aw.Spec.givesW k5 rfl rfl fun E hn hnp hp => ?_
  unfold a5
  have pin : ∀ r, E.pin r = none := fun r => hp.none hnp (Nat.zero_le _)
  refine AWp.ofD [] [] hn mixed rfl ?_
  simp (config := { maxSteps := 2000000 }) only [go_sem, ↓reduceIte, Int.reduceToNat, Nat.reduceMul, Int.reduceBEq, Int.reduceBNe, Nat.reduceBEq, Nat.reduceAdd, Nat.reduceSub, Nat.reduceLeDiff, Nat.reduceEqDiff, Nat.reduceLT, reduceCtorEq]
  refine AWpL.callA [] (s15 n) rfl rfl (by rw [hn]; rfl) rfl (fun r hr => by cases hr) fun rg v hv' => ?_
  obtain ⟨rfl, rfl⟩ := hv'
  refine ⟨Nat.zero_le _, ?_⟩
  have hck := shortN_ok hk
  generalize shortN n = c at *
  rw [retS_new]
  refine AWpL.ofM hn rfl ?_
  simp (config := { maxSteps := 2000000 }) only [go_sem, ↓reduceIte, Int.reduceToNat, Nat.reduceMul, Int.reduceBEq, Int.reduceBNe, Nat.reduceBEq, Nat.reduceAdd, Nat.reduceSub, Nat.reduceLeDiff, Nat.reduceEqDiff, Nat.reduceLT, reduceCtorEq]
  refine AWpL.callA [] (s16 c hck nl fl src hsl) rfl rfl (by rw [hn]; rfl) rfl (fun r hr => by cases hr) fun rg v hv' => ?_
  obtain ⟨rfl, rfl⟩ := hv'
  refine ⟨Nat.zero_le _, ?_⟩
  rw [retS_new]
  refine AWpL.ofM hn rfl ?_
  simp (config := { maxSteps := 2000000 }) only [go_sem, ↓reduceIte, Int.reduceToNat, Nat.reduceMul, Int.reduceBEq, Int.reduceBNe, Nat.reduceBEq, Nat.reduceAdd, Nat.reduceSub, Nat.reduceLeDiff, Nat.reduceEqDiff, Nat.reduceLT, reduceCtorEq]
  refine ⟨fun h => ?_, fun h => ?_⟩
  · have hne : planE c src ≠ 0 := by simpa using h
    have hS : planS c src = [] := by
      unfold planE at hne
      unfold planS
      split
      · rfl
      · rename_i h1
        rw [if_neg h1] at hne
        cases hp : planR c src with
        | none => rfl
        | some L => rw [hp] at hne; exact absurd rfl hne
    rw [hS]
    (refine AWpL.calle (s7) rfl (by rw [hn]; rfl) (by simp (config := { maxSteps := 2000000 }) only [go_sem, ↓reduceIte, Int.reduceToNat, Nat.reduceMul, Int.reduceBEq, Int.reduceBNe, Nat.reduceBEq, Nat.reduceAdd, Nat.reduceSub, Nat.reduceLeDiff, Nat.reduceEqDiff, Nat.reduceLT, reduceCtorEq]) (AWpL.ofM hn rfl ?_); simp (config := { maxSteps := 2000000 }) only [go_sem, ↓reduceIte, Int.reduceToNat, Nat.reduceMul, Int.reduceBEq, Int.reduceBNe, Nat.reduceBEq, Nat.reduceAdd, Nat.reduceSub, Nat.reduceLeDiff, Nat.reduceEqDiff, Nat.reduceLT, reduceCtorEq])
  have hE : planE c src = 0 := by simpa using h
  obtain ⟨hc0, hpl⟩ := plan_zero hE
  obtain ⟨hv, hgs⟩ := check_gens hc0
  have hsl2 := src_len hc0
  have hpo : planF c.gens.l.length (netO c) src = some (planS c src) := by rw [planF_o]; exact hpl
  obtain ⟨h1, h2, h3, h4, h5⟩ := plan_ok (netO_ok hck) (netO_v hv) hgs hpo hsl2
  obtain ⟨i1, i2, i3, i4, _⟩ := final_coarse (netO_ok hck) (netO_v hv) hgs hpo
  have h10 : c.gens.l.length ≤ 10 := hv.nge
  have h3 : (planS c src).length + src.length = c.gens.l.length := h3
  have h4 : ∀ s ∈ planS c src, GenName c s.1 := h4
  have h2 := h2 0
  rw [hE]
  generalize planS c src = L at *
  refine AWpL.weak (weak_freeze 2 rfl (pin 2) (by simp (config := { maxSteps := 2000000 }) only [go_sem, ↓reduceIte, Int.reduceToNat, Nat.reduceMul, Int.reduceBEq, Int.reduceBNe, Nat.reduceBEq, Nat.reduceAdd, Nat.reduceSub, Nat.reduceLeDiff, Nat.reduceEqDiff, Nat.reduceLT, reduceCtorEq, Nat.le_refl, List.length_map])) (AWpL.ofM hn rfl ?_)
  have htk : (L.map stc).take L.length = L.map stc := List.take_of_length_le (by rw [List.length_map]; exact Nat.le_refl _)
  simp (config := { maxSteps := 2000000 }) only [go_sem, ↓reduceIte, Int.reduceToNat, Nat.reduceMul, Int.reduceBEq, Int.reduceBNe, Nat.reduceBEq, Nat.reduceAdd, Nat.reduceSub, Nat.reduceLeDiff, Nat.reduceEqDiff, Nat.reduceLT, reduceCtorEq, htk]
  refine AWpL.callA [] (s17 c hck nl fl src none false L hc0 (by omega) h1) rfl rfl (by rw [hn]; rfl) rfl (fun r hr => by cases hr) fun rg v hv' => ?_
  obtain ⟨rfl, rfl⟩ := hv'
  refine ⟨Nat.zero_le _, ?_⟩
  have h5 : ∀ s ∈ L, ∃ r ∈ src, plc (finalN (netO c) L) (idx c (nodG c r)) = plc (finalN (netO c) L) (idx c (nodG c s.1)) := h5
  have i3 : (finalN (netO c) L).nodes.l = c.nodes.l := i3
  generalize finalN (netO c) L = m at *
  have cn : cellsN (some m) = netc m := rfl
  rw [h2, cn, retS_new]
  refine AWpL.ofM hn rfl ?_
  have e1 : IntKind.i64.wrap ((L.length : Int) + (src.length : Int)) = (c.gens.l.length : Int) := by rw [w64 (by omega) (by omega)]; omega
  have e2 : ((c.gens.l.length : Int) != (c.gens.l.length : Int)) = false := by simp
  simp (config := { maxSteps := 2000000 }) only [go_sem, ↓reduceIte, Int.reduceToNat, Nat.reduceMul, Int.reduceBEq, Int.reduceBNe, Nat.reduceBEq, Nat.reduceAdd, Nat.reduceSub, Nat.reduceLeDiff, Nat.reduceEqDiff, Nat.reduceLT, reduceCtorEq, e1, e2]
  refine AWpL.callA [] (s12 m i1) rfl rfl (by rw [hn]; rfl) rfl (fun r hr => by cases hr) fun rg v hv' => ?_
  obtain ⟨rfl, rfl⟩ := hv'
  refine ⟨Nat.zero_le _, ?_⟩
  have hs : sres (netF m == 0) (placesF m) = placesF m := by rw [netF_zero.2 i2]; rfl
  have hpl := places_len i2
  rw [i3] at hpl
  have e3 : (((placesF m).length : Int) != (c.nodes.l.length : Int)) = false := by rw [hpl]; simp
  rw [retS_nil, hs, netF_zero.2 i2]
  refine AWpL.ofM hn rfl ?_
  simp (config := { maxSteps := 2000000 }) only [go_sem, ↓reduceIte, Int.reduceToNat, Nat.reduceMul, Int.reduceBEq, Int.reduceBNe, Nat.reduceBEq, Nat.reduceAdd, Nat.reduceSub, Nat.reduceLeDiff, Nat.reduceEqDiff, Nat.reduceLT, reduceCtorEq, e3]
  refine AWp.loop (fun k s => ∃ i : Nat, i + k = L.length ∧ Weak E s ⟨[(1, ss nl fl src), (12, .ptr 2 0 0), (72, .imm none false 2 (L.map stc)), (73, I L.length), (74, I i)], [.box 29 (netc c), .box 38 [.imm none false 1 ((placesF m).map ic)], .box 58 [.fn 18 [.ptr 0 0 0, .ptr 1 0 0]]]⟩) (n := L.length)
    ⟨0, by omega, weak_to [0, 5, 6] hp hnp rfl (by simp (config := { maxSteps := 2000000 }) only [go_sem, ↓reduceIte, Int.reduceToNat, Nat.reduceMul, Int.reduceBEq, Int.reduceBNe, Nat.reduceBEq, Nat.reduceAdd, Nat.reduceSub, Nat.reduceLeDiff, Nat.reduceEqDiff, Nat.reduceLT, reduceCtorEq, Int.natCast_zero, Aw.pos] <;> rfl) (by simp (config := { maxSteps := 2000000 }) only [go_sem, ↓reduceIte, Int.reduceToNat, Nat.reduceMul, Int.reduceBEq, Int.reduceBNe, Nat.reduceBEq, Nat.reduceAdd, Nat.reduceSub, Nat.reduceLeDiff, Nat.reduceEqDiff, Nat.reduceLT, reduceCtorEq, Aw.renR, Aw.pos] <;> rfl)⟩ ?_
  rintro k s ⟨i, hik, hw⟩
  refine AWp.weak hw (AWp.ofD [] [] hn mixed rfl ?_)
  rcases Nat.lt_or_ge i L.length with hlt | hge
  · have e0 : decide ((i : Int) < (L.length : Int)) = true := decide_eq_true (by omega)
    have e4 := getD_mapD default stc hlt
    have e5 : IntKind.i64.wrap ((i : Int) + 1) = ((i + 1 : Nat) : Int) := by rw [w64 (by omega) (by omega)]; omega
    have hx : L.getD i default ∈ L := by
      rw [List.getD_eq_getElem?_getD, List.getElem?_eq_getElem hlt]
      exact List.getElem_mem _
    generalize L.getD i default = x at *
    obtain ⟨r, hr, hre⟩ := h5 x hx
    have hany : src.any (fun r => (placesF m).getD (idx c (nodG c r)) 0 == (placesF m).getD (idx c (nodG c x.1)) 0) = true := List.any_eq_true.2 ⟨r, hr, by rw [beq_iff_eq]; exact hre⟩
    simp (config := { maxSteps := 2000000 }) only [go_sem, ↓reduceIte, Int.reduceToNat, Nat.reduceMul, Int.reduceBEq, Int.reduceBNe, Nat.reduceBEq, Nat.reduceAdd, Nat.reduceSub, Nat.reduceLeDiff, Nat.reduceEqDiff, Nat.reduceLT, reduceCtorEq, e0, e4]
    (repeat (refine And.intro (by first | omega | (refine ⟨by omega, by omega⟩) | (refine ⟨by omega, by omega, by omega⟩) | (simp only [List.length_map, List.length_range, List.length_append, List.length_cons, List.length_nil, List.length_replicate, List.length_set]; omega) | (simp; omega) | (intro hgd; cases hgd) | (intro hgd; refine ⟨hgd, ?_⟩; first | omega | (refine ⟨by omega, by omega⟩) | (simp; omega))) ?_))
    refine AWpL.calle (y := B true) (by
      have h := s20 nl fl src 21 [.pim [.fn 18 [.pim (netc c), .pim [.imm none false 1 ((placesF m).map ic)]]], .pim (stc x)] (fun r => (placesF m).getD (idx c (nodG c r)) 0 == (placesF m).getD (idx c (nodG c x.1)) 0) (by kernel_rfl) rfl rfl (fun r hr => s21 c hck hv (placesF m) hpl none false r (hgs r hr) x (h4 x hx)) (by omega)
      rw [hany] at h
      exact h) rfl (by rw [hn]; rfl) (by simp (config := { maxSteps := 2000000 }) only [go_sem, ↓reduceIte, Int.reduceToNat, Nat.reduceMul, Int.reduceBEq, Int.reduceBNe, Nat.reduceBEq, Nat.reduceAdd, Nat.reduceSub, Nat.reduceLeDiff, Nat.reduceEqDiff, Nat.reduceLT, reduceCtorEq]) (AWpL.ofM hn rfl ?_)
    simp (config := { maxSteps := 2000000 }) only [go_sem, ↓reduceIte, Int.reduceToNat, Nat.reduceMul, Int.reduceBEq, Int.reduceBNe, Nat.reduceBEq, Nat.reduceAdd, Nat.reduceSub, Nat.reduceLeDiff, Nat.reduceEqDiff, Nat.reduceLT, reduceCtorEq, e5]
    exact ⟨k - 1, by omega, i + 1, by omega, weak_to [0, 1, 2] hp hnp rfl (by simp (config := { maxSteps := 2000000 }) only [go_sem, ↓reduceIte, Int.reduceToNat, Nat.reduceMul, Int.reduceBEq, Int.reduceBNe, Nat.reduceBEq, Nat.reduceAdd, Nat.reduceSub, Nat.reduceLeDiff, Nat.reduceEqDiff, Nat.reduceLT, reduceCtorEq, Aw.pos] <;> rfl) (by simp (config := { maxSteps := 2000000 }) only [go_sem, ↓reduceIte, Int.reduceToNat, Nat.reduceMul, Int.reduceBEq, Int.reduceBNe, Nat.reduceBEq, Nat.reduceAdd, Nat.reduceSub, Nat.reduceLeDiff, Nat.reduceEqDiff, Nat.reduceLT, reduceCtorEq, Aw.renR, Aw.pos] <;> rfl)⟩
  · have e0 : decide ((i : Int) < (L.length : Int)) = false := decide_eq_false (by omega)
    simp (config := { maxSteps := 2000000 }) only [go_sem, ↓reduceIte, Int.reduceToNat, Nat.reduceMul, Int.reduceBEq, Int.reduceBNe, Nat.reduceBEq, Nat.reduceAdd, Nat.reduceSub, Nat.reduceLeDiff, Nat.reduceEqDiff, Nat.reduceLT, reduceCtorEq, e0]
    (refine AWpL.calle (s7) rfl (by rw [hn]; rfl) (by simp (config := { maxSteps := 2000000 }) only [go_sem, ↓reduceIte, Int.reduceToNat, Nat.reduceMul, Int.reduceBEq, Int.reduceBNe, Nat.reduceBEq, Nat.reduceAdd, Nat.reduceSub, Nat.reduceLeDiff, Nat.reduceEqDiff, Nat.reduceLT, reduceCtorEq]) (AWpL.ofM hn rfl ?_); simp (config := { maxSteps := 2000000 }) only [go_sem, ↓reduceIte, Int.reduceToNat, Nat.reduceMul, Int.reduceBEq, Int.reduceBNe, Nat.reduceBEq, Nat.reduceAdd, Nat.reduceSub, Nat.reduceLeDiff, Nat.reduceEqDiff, Nat.reduceLT, reduceCtorEq])
end Go.Proofs.Ytmginfhlohenhaa
