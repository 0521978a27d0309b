/- Islands: the fixed example. -/
import Derived.Test.YtmkodhpbjedfkaaAwZh
import Derived.Test.YtmkodhpbjedfkaaIslB
set_option linter.unusedVariables false
set_option linter.unusedSimpArgs false
namespace Go.Proofs.Ytmkodhpbjedfkaa
open Go.Proofs.Ytmkodhpbjedfkaa.Aw
attribute [local go_sem] Int.natCast_zero Int.natCast_one bne_self_eq_false beq_self_eq_true Bool.not_true Bool.not_false Option.isSome_none Option.isSome_some Aw.bkM_nil Option.getD_some Option.getD_none Nat.sub_zero Int.toNat_zero Aw.frzS Aw.frzT Aw.frzA Aw.frzL Aw.frzR Aw.frzO Aw.frzOL Aw.frzOT Aw.frzOR Aw.killS Aw.mapT Aw.mapR Aw.killM Aw.resAVs Aw.resAV Aw.quietOps Aw.wpP Aw.wpT Aw.wpS Aw.AOp.mild List.getElem?_cons_zero List.getElem?_cons_succ Bool.and_false Bool.and_self Bool.false_and Aw.opOb Aw.gdB Aw.Rnd Aw.subTm List.length_map Int.toNat_natCast and_self Aw.SeqC Aw.stops Aw.Ends Aw.looks Aw.renA Aw.renL Aw.renT Aw.renS Aw.wpO Aw.aop Aw.putTm Aw.St.ev Aw.St.put Aw.St.putO Aw.binAV Aw.intBin Aw.strBin Aw.pickAV Aw.optInt Aw.AV.strip Aw.AV.guard Aw.AV.cells Aw.gdOb Aw.AOp.opds Aw.AOp.still Aw.ptrCells Aw.St.reg Aw.fillAV Aw.fillOb Aw.elsOb Aw.splice Aw.firm Aw.cellish Aw.AV.shut Aw.shutAll Aw.Seq Aw.Blk Aw.retS_nil Aw.mapA Aw.mapL Aw.borA Aw.borOb Aw.allOb Aw.tupOf Aw.params Aw.Opd.of Array.toList Value.cells List.map_cons List.map_nil List.getD_cons_zero List.getD_cons_succ List.getD_nil List.length_cons List.length_nil List.take_succ_cons List.take_zero List.take_nil List.drop_zero List.drop_succ_cons List.drop_nil List.set_cons_zero List.set_cons_succ List.append_nil List.nil_append List.cons_append List.all_cons List.all_nil cond_false cond_true if_true if_false true_and and_true Bool.and_true Bool.true_and Option.map_some Option.map_none false_implies forall_const implies_true forall_eq imp_self Bool.cond_false_right Bool.cond_true_left beq_true beq_false Bool.not_eq_true' Bool.false_eq_true Nat.zero_add Nat.add_zero Aw.eqCells Aw.stopDraw Aw.skipS Aw.exactCap Aw.revealS Aw.srcEls Aw.srcSz
attribute [local go_sem ↓] Aw.look_nil Aw.look_ite Aw.wpL_nil Aw.wpL_op Aw.wpL_gd Aw.wpQ_nil Aw.wpQ_op Aw.wpQ_gd Aw.wpC_draw Aw.wpC_reg Aw.wpC_skip Aw.wpC_ret Aw.wpC_exit Aw.wpC_seq Aw.wpC_block Aw.wpC_loop Aw.wpC_cond Aw.stopAt_nil Aw.stopAt_cons Aw.wpD_skip Aw.wpD_ret Aw.wpD_exit Aw.wpD_region Aw.wpD_draw Aw.wpM_nil Aw.wpM_op Aw.wpM_gd Aw.wpD_seq Aw.wpD_block Aw.wpD_loop Aw.wpD_cond

/- slices.Equal[[]gridhall/api.IslandsSum,gridhall/api.IslandsSum] -/
def a19 : ACode :=
  (.seq (.region false [] [
     ⟨(some 4), none, (.mov (.v (.bool false)))⟩])
  (.seq (.seq (.region false [] [
     ⟨(some 6), none, (.mov (.t 0))⟩,
     ⟨(some 7), none, (.len (.t 6))⟩,
     ⟨(some 8), none, (.mov (.t 1))⟩,
     ⟨(some 9), none, (.len (.t 8))⟩,
     ⟨(some 10), none, (.bin .neq 3 (.t 7) (.t 9))⟩])
  (.cond (.t 10)
    (.seq (.region false [] [
       ⟨(some 4), none, (.mov (.v (.bool false)))⟩])
    .ret)
    .skip))
  (.seq (.seq (.region false [] [
     ⟨(some 11), none, (.mov (.t 0))⟩,
     ⟨(some 12), none, (.len (.t 11))⟩,
     ⟨(some 13), none, (.mov (.v (.int .i64 0)))⟩])
  (.block 0 (.loop (.seq (.region false [] [
       ⟨(some 14), none, (.bin .lss 3 (.t 13) (.t 12))⟩])
    (.seq (.cond (.t 14)
      .skip
      (.exit 0))
    (.seq (.block 1 (.seq (.region false [] [
        ⟨(some 15), none, (.mov (.t 13))⟩,
        ⟨(some 5), none, (.mov (.t 15))⟩])
     (.seq (.region true [[], [], [0, 1], [2], [], [], [4, 5], [6], [3, 7]] [
        ⟨(some 16), none, (.mov (.t 0))⟩,
        ⟨(some 17), none, (.mov (.t 5))⟩,
        ⟨(some 18), none, (.idx 3 (.t 16) (.t 17))⟩,
        ⟨(some 19), none, (.load 3 true (.t 18))⟩,
        ⟨(some 20), none, (.mov (.t 1))⟩,
        ⟨(some 21), none, (.mov (.t 5))⟩,
        ⟨(some 22), none, (.idx 3 (.t 20) (.t 21))⟩,
        ⟨(some 23), none, (.load 3 true (.t 22))⟩,
        ⟨(some 24), none, (.aeq true [.i, .i, .i] (.t 19) (.t 23))⟩])
     (.cond (.t 24)
       (.seq (.region false [] [
          ⟨(some 4), none, (.mov (.v (.bool false)))⟩])
       .ret)
       .skip))))
    (.region false [] [
       ⟨(some 25), none, (.bin .add 3 (.t 13) (.v (.int .i64 1)))⟩,
       ⟨(some 13), none, (.mov (.t 25))⟩])))))))
  (.seq (.region false [] [
     ⟨(some 4), none, (.mov (.v (.bool true)))⟩])
  .ret))))
theorem k19 : FnIs Try.prog 19 26 [.t 4] a19 := ⟨_, _, Try.func19, rfl, by kernel_rfl, by kernel_rfl, rfl⟩
/- slices.Equal[[]int,int] -/
def a20 : ACode :=
  (.seq (.region false [] [
     ⟨(some 4), none, (.mov (.v (.bool false)))⟩])
  (.seq (.seq (.region false [] [
     ⟨(some 6), none, (.mov (.t 0))⟩,
     ⟨(some 7), none, (.len (.t 6))⟩,
     ⟨(some 8), none, (.mov (.t 1))⟩,
     ⟨(some 9), none, (.len (.t 8))⟩,
     ⟨(some 10), none, (.bin .neq 3 (.t 7) (.t 9))⟩])
  (.cond (.t 10)
    (.seq (.region false [] [
       ⟨(some 4), none, (.mov (.v (.bool false)))⟩])
    .ret)
    .skip))
  (.seq (.seq (.region false [] [
     ⟨(some 11), none, (.mov (.t 0))⟩,
     ⟨(some 12), none, (.len (.t 11))⟩,
     ⟨(some 13), none, (.mov (.v (.int .i64 0)))⟩])
  (.block 0 (.loop (.seq (.region false [] [
       ⟨(some 14), none, (.bin .lss 3 (.t 13) (.t 12))⟩])
    (.seq (.cond (.t 14)
      .skip
      (.exit 0))
    (.seq (.block 1 (.seq (.region false [] [
        ⟨(some 15), none, (.mov (.t 13))⟩,
        ⟨(some 5), none, (.mov (.t 15))⟩])
     (.seq (.region true [[], [], [0, 1], [2], [], [], [4, 5], [6], [3, 7]] [
        ⟨(some 16), none, (.mov (.t 0))⟩,
        ⟨(some 17), none, (.mov (.t 5))⟩,
        ⟨(some 18), none, (.idx 1 (.t 16) (.t 17))⟩,
        ⟨(some 19), none, (.load 1 false (.t 18))⟩,
        ⟨(some 20), none, (.mov (.t 1))⟩,
        ⟨(some 21), none, (.mov (.t 5))⟩,
        ⟨(some 22), none, (.idx 1 (.t 20) (.t 21))⟩,
        ⟨(some 23), none, (.load 1 false (.t 22))⟩,
        ⟨(some 24), none, (.bin .neq 3 (.t 19) (.t 23))⟩])
     (.cond (.t 24)
       (.seq (.region false [] [
          ⟨(some 4), none, (.mov (.v (.bool false)))⟩])
       .ret)
       .skip))))
    (.region false [] [
       ⟨(some 25), none, (.bin .add 3 (.t 13) (.v (.int .i64 1)))⟩,
       ⟨(some 13), none, (.mov (.t 25))⟩])))))))
  (.seq (.region false [] [
     ⟨(some 4), none, (.mov (.v (.bool true)))⟩])
  .ret))))
theorem k20 : FnIs Try.prog 20 26 [.t 4] a20 := ⟨_, _, Try.func20, rfl, by kernel_rfl, by kernel_rfl, rfl⟩
/- gridhall/gridhallkeep4.two -/
def a18 : ACode :=
  (.seq (.region false [] [
     ⟨(some 0), none, (.alloc 29 (.agg #[(.slice none 0 0), (.slice none 0 0), (.slice none 0 0), (.slice none 0 0), (.slice none 0 0), (.slice none 0 0)]))⟩])
  (.seq (.region false [] [
     ⟨(some 1), none, (.bsl 9 1 2 [(0, (.v (.string ⟨#[65]⟩))), (1, (.v (.string ⟨#[66]⟩)))])⟩,
     ⟨(some 2), none, (.build (.agg #[(.string ⟨#[]⟩), (.string ⟨#[]⟩), (.string ⟨#[]⟩), (.int .i64 0), (.int .i64 0), (.int .i64 0), (.int .i64 0), (.int .i64 0), (.int .i64 0)]) [(0, (1, (.v (.string ⟨#[76]⟩)))), (1, (1, (.v (.string ⟨#[65]⟩)))), (2, (1, (.v (.string ⟨#[66]⟩)))), (3, (1, (.v (.int .i64 1000)))), (4, (1, (.v (.int .i64 1000)))), (6, (1, (.v (.int .i64 40)))), (7, (1, (.v (.int .i64 60)))), (8, (1, (.v (.int .i64 10))))])⟩,
     ⟨(some 3), none, (.bsl 47 9 1 [(0, (.t 2))])⟩,
     ⟨(some 4), none, (.build (.agg #[(.string ⟨#[]⟩), (.string ⟨#[]⟩), (.string ⟨#[]⟩), (.bool false), (.bool false)]) [(0, (1, (.v (.string ⟨#[83]⟩)))), (1, (1, (.v (.string ⟨#[65]⟩)))), (2, (1, (.v (.string ⟨#[66]⟩)))), (4, (1, (.v (.bool true))))])⟩,
     ⟨(some 5), none, (.bsl 67 5 1 [(0, (.t 4))])⟩,
     ⟨(some 6), none, (.build (.agg #[(.string ⟨#[]⟩), (.string ⟨#[]⟩), (.int .i64 0), (.int .i64 0), (.int .i64 0)]) [(0, (1, (.v (.string ⟨#[71]⟩)))), (1, (1, (.v (.string ⟨#[65]⟩)))), (2, (1, (.v (.int .i64 10)))), (3, (1, (.v (.int .i64 50))))])⟩,
     ⟨(some 7), none, (.bsl 39 5 1 [(0, (.t 6))])⟩,
     ⟨(some 8), none, (.build (.agg #[(.string ⟨#[]⟩), (.string ⟨#[]⟩), (.int .i64 0)]) [(0, (1, (.v (.string ⟨#[68]⟩)))), (1, (1, (.v (.string ⟨#[66]⟩)))), (2, (1, (.v (.int .i64 30))))])⟩,
     ⟨(some 9), none, (.bsl 43 3 1 [(0, (.t 8))])⟩,
     ⟨(some 10), none, (.build (.agg #[(.slice none 0 0), (.slice none 0 0), (.slice none 0 0), (.slice none 0 0), (.slice none 0 0), (.slice none 0 0)]) [(0, (1, (.t 1))), (2, (1, (.t 3))), (1, (1, (.t 5))), (3, (1, (.t 7))), (4, (1, (.t 9)))])⟩,
     ⟨none, none, (.store 6 (.t 0) (.t 10))⟩])
  .ret))
theorem k18 : FnIs Try.prog 18 11 [.c 0 6 true] a18 := ⟨_, _, Try.func18, rfl, by kernel_rfl, by kernel_rfl, rfl⟩
/- gridhall/gridhallkeep4.islandsFact -/
def a8 : ACode :=
  (.seq (.region false [] [
     ⟨(some 0), none, (.mov (.v (.bool false)))⟩])
  (.seq (.region false [] [
     ⟨(some 6), none, (.call 18 [])⟩,
     ⟨(some 7), none, (.call 7 [(.t 6)])⟩,
     ⟨(some 5), none, (.mov (.t 7))⟩,
     ⟨(some 8), none, (.ext 0 (.t 5))⟩,
     ⟨(some 9), none, (.ext 1 (.t 5))⟩,
     ⟨(some 1), none, (.mov (.t 8))⟩,
     ⟨(some 2), none, (.mov (.t 9))⟩])
  (.seq (.region false [] [
     ⟨(some 11), none, (.call 18 [])⟩,
     ⟨(some 12), none, (.call 6 [(.t 11)])⟩,
     ⟨(some 10), none, (.mov (.t 12))⟩,
     ⟨(some 13), none, (.ext 0 (.t 10))⟩,
     ⟨(some 14), none, (.ext 1 (.t 10))⟩,
     ⟨(some 3), none, (.mov (.t 13))⟩,
     ⟨(some 4), none, (.mov (.t 14))⟩])
  (.seq (.region false [] [
     ⟨(some 15), none, (.mov (.t 2))⟩,
     ⟨(some 16), none, (.bin .eql 31 (.t 15) (.v (.int .i64 0)))⟩,
     ⟨(some 17), none, (.mov (.t 16))⟩,
     ⟨(some 18), (some (17, true)), (.mov (.t 4))⟩,
     ⟨(some 19), (some (17, true)), (.bin .eql 31 (.t 18) (.v (.int .i64 0)))⟩,
     ⟨(some 20), none, (.pick (.t 17) (.t 19) (.v (.bool false)))⟩,
     ⟨(some 21), none, (.mov (.t 20))⟩,
     ⟨(some 22), (some (21, true)), (.mov (.t 1))⟩,
     ⟨(some 23), (some (21, true)), (.build (.agg #[(.int .i64 0), (.int .i64 0), (.int .i64 0)]) [(0, (1, (.v (.int .i64 10)))), (1, (1, (.v (.int .i64 50)))), (2, (1, (.v (.int .i64 30))))])⟩,
     ⟨(some 24), (some (21, true)), (.bsl 41 3 1 [(0, (.t 23))])⟩,
     ⟨(some 25), (some (21, true)), (.call 19 [(.t 22), (.t 24)])⟩,
     ⟨(some 26), none, (.pick (.t 21) (.t 25) (.v (.bool false)))⟩,
     ⟨(some 27), none, (.mov (.t 26))⟩,
     ⟨(some 28), (some (27, true)), (.mov (.t 3))⟩,
     ⟨(some 29), (some (27, true)), (.bsl 3 1 1 [(0, (.v (.int .i64 30)))])⟩,
     ⟨(some 30), (some (27, true)), (.call 20 [(.t 28), (.t 29)])⟩,
     ⟨(some 31), none, (.pick (.t 27) (.t 30) (.v (.bool false)))⟩,
     ⟨(some 0), none, (.mov (.t 31))⟩])
  .ret))))
theorem k8 : FnIs Try.prog 8 32 [.t 0] a8 := ⟨_, _, Try.func8, rfl, by kernel_rfl, by kernel_rfl, rfl⟩

/-- A list is equal to itself. -/
theorem s19 (nl fl nm' fm) (l : List (Sm)) (hl : l.length ≤ 1000) : Aw.Spec Try.prog 19 [] [.imm nl fl 3 (l.map smc), .imm nm' fm 3 (l.map smc)] (Gives (· = B true)) := by
  refine Aw.Spec.givesD k19 mixed rfl rfl rfl fun E hn hnp hp => ?_
  unfold a19
  have e9 : ((l.length : Int) != (l.length : Int)) = false := by simp
  simp (config := { maxSteps := 2000000 }) only [go_sem, ↓reduceIte, Int.reduceToNat, Nat.reduceMul, Int.reduceBEq, Int.reduceBNe, Nat.reduceBEq, Nat.reduceAdd, Nat.reduceSub, Nat.reduceLeDiff, Nat.reduceEqDiff, Nat.reduceLT, reduceCtorEq, e9]
  refine AWp.loop (fun k s => ∃ i : Nat, i + k = l.length ∧ Weak E s ⟨[(0, .imm nl fl 3 (l.map smc)), (1, .imm nm' fm 3 (l.map smc)), (12, I l.length), (13, I i)], []⟩) (n := l.length)
    ⟨0, by omega, weak_to [] hp hnp rfl (by simp (config := { maxSteps := 2000000 }) only [go_sem, ↓reduceIte, Int.reduceToNat, Nat.reduceMul, Int.reduceBEq, Int.reduceBNe, Nat.reduceBEq, Nat.reduceAdd, Nat.reduceSub, Nat.reduceLeDiff, Nat.reduceEqDiff, Nat.reduceLT, reduceCtorEq, Int.natCast_zero]) rfl⟩ ?_
  rintro k s ⟨i, hi, hw⟩
  refine AWp.weak hw (AWp.ofD [] [] hn mixed rfl ?_)
  rcases Nat.lt_or_ge i l.length with hlt | hge
  · have e0 : decide ((i : Int) < (l.length : Int)) = true := by simp; omega
    have e1 := getD_map smc hlt
    have e2 : IntKind.i64.wrap ((i : Int) + 1) = ((i + 1 : Nat) : Int) := by rw [w64 (by omega) (by omega)]; omega
    simp (config := { maxSteps := 2000000 }) only [go_sem, ↓reduceIte, Int.reduceToNat, Nat.reduceMul, Int.reduceBEq, Int.reduceBNe, Nat.reduceBEq, Nat.reduceAdd, Nat.reduceSub, Nat.reduceLeDiff, Nat.reduceEqDiff, Nat.reduceLT, reduceCtorEq, e0, e1, e2]
    (repeat (refine And.intro (by first | omega | (refine ⟨by omega, by omega⟩) | (refine ⟨by omega, by omega, by omega⟩) | (simp only [List.length_map, List.length_range, List.length_append, List.length_cons, List.length_nil, List.length_replicate, List.length_set]; omega) | (simp; omega) | (intro hgd; cases hgd) | (intro hgd; refine ⟨hgd, ?_⟩; first | omega | (refine ⟨by omega, by omega⟩) | (simp; omega))) ?_))
    exact ⟨k - 1, by omega, i + 1, by omega, weak_to [] hp hnp rfl (by simp (config := { maxSteps := 2000000 }) only [go_sem, ↓reduceIte, Int.reduceToNat, Nat.reduceMul, Int.reduceBEq, Int.reduceBNe, Nat.reduceBEq, Nat.reduceAdd, Nat.reduceSub, Nat.reduceLeDiff, Nat.reduceEqDiff, Nat.reduceLT, reduceCtorEq]) rfl⟩
  · have e0 : decide ((i : Int) < (l.length : Int)) = false := by simp; omega
    simp (config := { maxSteps := 2000000 }) only [go_sem, ↓reduceIte, Int.reduceToNat, Nat.reduceMul, Int.reduceBEq, Int.reduceBNe, Nat.reduceBEq, Nat.reduceAdd, Nat.reduceSub, Nat.reduceLeDiff, Nat.reduceEqDiff, Nat.reduceLT, reduceCtorEq, e0]

/-- A list is equal to itself. -/
theorem s20 (nl fl nm' fm) (l : List (Int)) (hl : l.length ≤ 1000) : Aw.Spec Try.prog 20 [] [.imm nl fl 1 (l.map ic), .imm nm' fm 1 (l.map ic)] (Gives (· = B true)) := by
  refine Aw.Spec.givesD k20 mixed rfl rfl rfl fun E hn hnp hp => ?_
  unfold a20
  have e9 : ((l.length : Int) != (l.length : Int)) = false := by simp
  simp (config := { maxSteps := 2000000 }) only [go_sem, ↓reduceIte, Int.reduceToNat, Nat.reduceMul, Int.reduceBEq, Int.reduceBNe, Nat.reduceBEq, Nat.reduceAdd, Nat.reduceSub, Nat.reduceLeDiff, Nat.reduceEqDiff, Nat.reduceLT, reduceCtorEq, e9]
  refine AWp.loop (fun k s => ∃ i : Nat, i + k = l.length ∧ Weak E s ⟨[(0, .imm nl fl 1 (l.map ic)), (1, .imm nm' fm 1 (l.map ic)), (12, I l.length), (13, I i)], []⟩) (n := l.length)
    ⟨0, by omega, weak_to [] hp hnp rfl (by simp (config := { maxSteps := 2000000 }) only [go_sem, ↓reduceIte, Int.reduceToNat, Nat.reduceMul, Int.reduceBEq, Int.reduceBNe, Nat.reduceBEq, Nat.reduceAdd, Nat.reduceSub, Nat.reduceLeDiff, Nat.reduceEqDiff, Nat.reduceLT, reduceCtorEq, Int.natCast_zero]) rfl⟩ ?_
  rintro k s ⟨i, hi, hw⟩
  refine AWp.weak hw (AWp.ofD [] [] hn mixed rfl ?_)
  rcases Nat.lt_or_ge i l.length with hlt | hge
  · have e0 : decide ((i : Int) < (l.length : Int)) = true := by simp; omega
    have e1 := getD_map ic hlt
    have e2 : IntKind.i64.wrap ((i : Int) + 1) = ((i + 1 : Nat) : Int) := by rw [w64 (by omega) (by omega)]; omega
    simp (config := { maxSteps := 2000000 }) only [go_sem, ↓reduceIte, Int.reduceToNat, Nat.reduceMul, Int.reduceBEq, Int.reduceBNe, Nat.reduceBEq, Nat.reduceAdd, Nat.reduceSub, Nat.reduceLeDiff, Nat.reduceEqDiff, Nat.reduceLT, reduceCtorEq, e0, e1, e2]
    (repeat (refine And.intro (by first | omega | (refine ⟨by omega, by omega⟩) | (refine ⟨by omega, by omega, by omega⟩) | (simp only [List.length_map, List.length_range, List.length_append, List.length_cons, List.length_nil, List.length_replicate, List.length_set]; omega) | (simp; omega) | (intro hgd; cases hgd) | (intro hgd; refine ⟨hgd, ?_⟩; first | omega | (refine ⟨by omega, by omega⟩) | (simp; omega))) ?_))
    exact ⟨k - 1, by omega, i + 1, by omega, weak_to [] hp hnp rfl (by simp (config := { maxSteps := 2000000 }) only [go_sem, ↓reduceIte, Int.reduceToNat, Nat.reduceMul, Int.reduceBEq, Int.reduceBNe, Nat.reduceBEq, Nat.reduceAdd, Nat.reduceSub, Nat.reduceLeDiff, Nat.reduceEqDiff, Nat.reduceLT, reduceCtorEq]) rfl⟩
  · have e0 : decide ((i : Int) < (l.length : Int)) = false := by simp; omega
    simp (config := { maxSteps := 2000000 }) only [go_sem, ↓reduceIte, Int.reduceToNat, Nat.reduceMul, Int.reduceBEq, Int.reduceBNe, Nat.reduceBEq, Nat.reduceAdd, Nat.reduceSub, Nat.reduceLeDiff, Nat.reduceEqDiff, Nat.reduceLT, reduceCtorEq, e0]

def net2 : Net := ⟨⟨none, true, [⟨#[65]⟩, ⟨#[66]⟩]⟩, ⟨none, true, [⟨⟨#[83]⟩, ⟨#[65]⟩, ⟨#[66]⟩, false, true⟩]⟩, ⟨none, true, [⟨⟨#[76]⟩, ⟨#[65]⟩, ⟨#[66]⟩, 1000, 1000, 0, 40, 60, 10⟩]⟩,
  ⟨none, true, [⟨⟨#[71]⟩, ⟨#[65]⟩, 10, 50, 0⟩]⟩, ⟨none, true, [⟨⟨#[68]⟩, ⟨#[66]⟩, 30⟩]⟩, ⟨none, false, []⟩⟩
abbrev net2c : List AV := [net2.nodes.av 1 sc, net2.sws.av 5 swc, net2.brs.av 9 brc, net2.gens.av 5 gec, net2.loads.av 3 loc, .val (.slice none 0 0)]
theorem net2_ok : NetOk net2 := by
  refine ⟨fun x hx => ?_, by decide, fun x hx => ?_, fun x hx => ?_, fun x hx => ?_, fun x hx => ?_, fun x hx => by cases hx⟩
  · rcases List.mem_cons.1 hx with rfl | hx
    · decide
    · rw [List.mem_singleton.1 hx]; decide
  all_goals
    rw [List.mem_singleton.1 hx]; decide
theorem net2_ent : EntL [.agg net2c] [neta net2] := ⟨Ent.agg ⟨Ent.refl _, Ent.refl _, Ent.refl _, Ent.refl _, Ent.refl _, Ent.ofnil0 5, trivial⟩, trivial⟩
set_option maxRecDepth 20000 in
theorem s18 : Aw.Spec Try.prog 18 [] [] (fun rg v => rg = [.box 29 net2c] ∧ v = .agg net2c) := by
  refine Aw.Spec.regsW k18 rfl rfl fun E hn hnp hp => ?_
  unfold a18
  have pin : ∀ r, E.pin r = none := fun r => hp.none hnp (Nat.zero_le _)
  refine AWp.ofD [] [] hn mixed rfl ?_
  simp (config := { maxSteps := 2000000 }) only [go_sem, ↓reduceIte, Int.reduceToNat, Nat.reduceMul, Int.reduceBEq, Int.reduceBNe, Nat.reduceBEq, Nat.reduceAdd, Nat.reduceSub, Nat.reduceLeDiff, Nat.reduceEqDiff, Nat.reduceLT, reduceCtorEq]
  refine Retn.weak (weak_freeze 1 rfl (pin 1) (by simp (config := { maxSteps := 2000000 }) only [go_sem, ↓reduceIte, Int.reduceToNat, Nat.reduceMul, Int.reduceBEq, Int.reduceBNe, Nat.reduceBEq, Nat.reduceAdd, Nat.reduceSub, Nat.reduceLeDiff, Nat.reduceEqDiff, Nat.reduceLT, reduceCtorEq, Nat.le_refl])) _ ?_
  simp (config := { maxSteps := 2000000 }) only [go_sem, ↓reduceIte, Int.reduceToNat, Nat.reduceMul, Int.reduceBEq, Int.reduceBNe, Nat.reduceBEq, Nat.reduceAdd, Nat.reduceSub, Nat.reduceLeDiff, Nat.reduceEqDiff, Nat.reduceLT, reduceCtorEq]
  refine Retn.weak (weak_freeze 2 rfl (pin 2) (by simp (config := { maxSteps := 2000000 }) only [go_sem, ↓reduceIte, Int.reduceToNat, Nat.reduceMul, Int.reduceBEq, Int.reduceBNe, Nat.reduceBEq, Nat.reduceAdd, Nat.reduceSub, Nat.reduceLeDiff, Nat.reduceEqDiff, Nat.reduceLT, reduceCtorEq, Nat.le_refl])) _ ?_
  simp (config := { maxSteps := 2000000 }) only [go_sem, ↓reduceIte, Int.reduceToNat, Nat.reduceMul, Int.reduceBEq, Int.reduceBNe, Nat.reduceBEq, Nat.reduceAdd, Nat.reduceSub, Nat.reduceLeDiff, Nat.reduceEqDiff, Nat.reduceLT, reduceCtorEq]
  refine Retn.weak (weak_freeze 3 rfl (pin 3) (by simp (config := { maxSteps := 2000000 }) only [go_sem, ↓reduceIte, Int.reduceToNat, Nat.reduceMul, Int.reduceBEq, Int.reduceBNe, Nat.reduceBEq, Nat.reduceAdd, Nat.reduceSub, Nat.reduceLeDiff, Nat.reduceEqDiff, Nat.reduceLT, reduceCtorEq, Nat.le_refl])) _ ?_
  simp (config := { maxSteps := 2000000 }) only [go_sem, ↓reduceIte, Int.reduceToNat, Nat.reduceMul, Int.reduceBEq, Int.reduceBNe, Nat.reduceBEq, Nat.reduceAdd, Nat.reduceSub, Nat.reduceLeDiff, Nat.reduceEqDiff, Nat.reduceLT, reduceCtorEq]
  refine Retn.weak (weak_freeze 4 rfl (pin 4) (by simp (config := { maxSteps := 2000000 }) only [go_sem, ↓reduceIte, Int.reduceToNat, Nat.reduceMul, Int.reduceBEq, Int.reduceBNe, Nat.reduceBEq, Nat.reduceAdd, Nat.reduceSub, Nat.reduceLeDiff, Nat.reduceEqDiff, Nat.reduceLT, reduceCtorEq, Nat.le_refl])) _ ?_
  simp (config := { maxSteps := 2000000 }) only [go_sem, ↓reduceIte, Int.reduceToNat, Nat.reduceMul, Int.reduceBEq, Int.reduceBNe, Nat.reduceBEq, Nat.reduceAdd, Nat.reduceSub, Nat.reduceLeDiff, Nat.reduceEqDiff, Nat.reduceLT, reduceCtorEq]
  refine Retn.weak (weak_freeze 5 rfl (pin 5) (by simp (config := { maxSteps := 2000000 }) only [go_sem, ↓reduceIte, Int.reduceToNat, Nat.reduceMul, Int.reduceBEq, Int.reduceBNe, Nat.reduceBEq, Nat.reduceAdd, Nat.reduceSub, Nat.reduceLeDiff, Nat.reduceEqDiff, Nat.reduceLT, reduceCtorEq, Nat.le_refl])) _ ?_
  simp (config := { maxSteps := 2000000 }) only [go_sem, ↓reduceIte, Int.reduceToNat, Nat.reduceMul, Int.reduceBEq, Int.reduceBNe, Nat.reduceBEq, Nat.reduceAdd, Nat.reduceSub, Nat.reduceLeDiff, Nat.reduceEqDiff, Nat.reduceLT, reduceCtorEq]
  refine Retn.ret (π := [0]) hp hnp ⟨rfl, ?_⟩
  simp (config := { maxSteps := 2000000 }) only [go_sem, ↓reduceIte, Int.reduceToNat, Nat.reduceMul, Int.reduceBEq, Int.reduceBNe, Nat.reduceBEq, Nat.reduceAdd, Nat.reduceSub, Nat.reduceLeDiff, Nat.reduceEqDiff, Nat.reduceLT, reduceCtorEq, Aw.renR, Aw.pos]
  exact ⟨rfl, rfl⟩
theorem net2_e : netF net2 = 0 := by decide +kernel
theorem net2_s : sumsF net2 = [⟨10, 50, 30⟩] := by kernel_rfl
theorem net2_m : manyF net2 = 1 := by decide +kernel
theorem net2_h : shareL net2 = [30] ∧ shareE net2 = 0 := by decide +kernel
set_option maxRecDepth 20000 in
set_option maxHeartbeats 1000000 in
theorem s8 : Aw.Spec Try.prog 8 [] [] (Gives (· = B true)) := by
  refine Aw.Spec.givesW k8 rfl rfl fun E hn hnp hp => ?_
  unfold a8
  have pin : ∀ r, E.pin r = none := fun r => hp.none hnp (Nat.zero_le _)
  refine AWp.seq (AWp.ofD [] [] hn mixed rfl ?_)
  simp (config := { maxSteps := 2000000 }) only [go_sem, ↓reduceIte, Int.reduceToNat, Nat.reduceMul, Int.reduceBEq, Int.reduceBNe, Nat.reduceBEq, Nat.reduceAdd, Nat.reduceSub, Nat.reduceLeDiff, Nat.reduceEqDiff, Nat.reduceLT, reduceCtorEq]
  refine AWp.seq (AWp.ofD [] [] hn mixed rfl ?_)
  simp (config := { maxSteps := 2000000 }) only [go_sem, ↓reduceIte, Int.reduceToNat, Nat.reduceMul, Int.reduceBEq, Int.reduceBNe, Nat.reduceBEq, Nat.reduceAdd, Nat.reduceSub, Nat.reduceLeDiff, Nat.reduceEqDiff, Nat.reduceLT, reduceCtorEq]
  refine AWpL.callA [] s18 rfl rfl (by rw [hn]; rfl) rfl (fun r hr => by cases hr) fun rg v hv => ?_
  obtain ⟨rfl, rfl⟩ := hv
  refine ⟨Nat.zero_le _, ?_⟩
  rw [retS_new]
  refine AWpL.ofM hn rfl ?_
  simp (config := { maxSteps := 2000000 }) only [go_sem, ↓reduceIte, Int.reduceToNat, Nat.reduceMul, Int.reduceBEq, Int.reduceBNe, Nat.reduceBEq, Nat.reduceAdd, Nat.reduceSub, Nat.reduceLeDiff, Nat.reduceEqDiff, Nat.reduceLT, reduceCtorEq]
  refine AWpL.callA [] ((s7 net2 net2_ok).args net2_ent) rfl rfl (by rw [hn]; rfl) rfl (fun r hr => by cases hr) fun rg v hv => ?_
  obtain ⟨rfl, rfl⟩ := hv.2 net2_e
  clear hv
  refine ⟨Nat.zero_le _, ?_⟩
  rw [retS_new, net2_m, net2_s]
  refine AWpL.weak (weak_freeze 1 rfl (pin 1) (by simp (config := { maxSteps := 2000000 }) only [go_sem, ↓reduceIte, Int.reduceToNat, Nat.reduceMul, Int.reduceBEq, Int.reduceBNe, Nat.reduceBEq, Nat.reduceAdd, Nat.reduceSub, Nat.reduceLeDiff, Nat.reduceEqDiff, Nat.reduceLT, reduceCtorEq, Nat.le_refl])) (AWpL.ofM hn rfl ?_)
  simp (config := { maxSteps := 2000000 }) only [go_sem, ↓reduceIte, Int.reduceToNat, Nat.reduceMul, Int.reduceBEq, Int.reduceBNe, Nat.reduceBEq, Nat.reduceAdd, Nat.reduceSub, Nat.reduceLeDiff, Nat.reduceEqDiff, Nat.reduceLT, reduceCtorEq]
  refine AWp.seq (AWp.ofD [] [] hn mixed rfl ?_)
  simp (config := { maxSteps := 2000000 }) only [go_sem, ↓reduceIte, Int.reduceToNat, Nat.reduceMul, Int.reduceBEq, Int.reduceBNe, Nat.reduceBEq, Nat.reduceAdd, Nat.reduceSub, Nat.reduceLeDiff, Nat.reduceEqDiff, Nat.reduceLT, reduceCtorEq]
  refine AWpL.callA [] s18 rfl rfl (by rw [hn]; rfl) rfl (fun r hr => by cases hr) fun rg v hv => ?_
  obtain ⟨rfl, rfl⟩ := hv
  refine ⟨Nat.zero_le _, ?_⟩
  rw [retS_new]
  refine AWpL.ofM hn rfl ?_
  simp (config := { maxSteps := 2000000 }) only [go_sem, ↓reduceIte, Int.reduceToNat, Nat.reduceMul, Int.reduceBEq, Int.reduceBNe, Nat.reduceBEq, Nat.reduceAdd, Nat.reduceSub, Nat.reduceLeDiff, Nat.reduceEqDiff, Nat.reduceLT, reduceCtorEq]
  refine AWpL.callA [] ((s6 net2 net2_ok).args net2_ent) rfl rfl (by rw [hn]; rfl) rfl (fun r hr => by cases hr) fun rg v hv => ?_
  obtain ⟨rfl, rfl⟩ := hv
  refine ⟨Nat.zero_le _, ?_⟩
  rw [retS_nil, net2_h.1, net2_h.2]
  refine AWpL.ofM hn rfl ?_
  simp (config := { maxSteps := 2000000 }) only [go_sem, ↓reduceIte, Int.reduceToNat, Nat.reduceMul, Int.reduceBEq, Int.reduceBNe, Nat.reduceBEq, Nat.reduceAdd, Nat.reduceSub, Nat.reduceLeDiff, Nat.reduceEqDiff, Nat.reduceLT, reduceCtorEq]
  refine AWp.seq (AWp.region (AWpL.upto 9 hn rfl ?_))
  simp (config := { maxSteps := 2000000 }) only [go_sem, ↓reduceIte, Int.reduceToNat, Nat.reduceMul, Int.reduceBEq, Int.reduceBNe, Nat.reduceBEq, Nat.reduceAdd, Nat.reduceSub, Nat.reduceLeDiff, Nat.reduceEqDiff, Nat.reduceLT, reduceCtorEq]
  refine AWpL.weak (weak_opt 23 rfl) (AWpL.ofM hn rfl ?_)
  simp (config := { maxSteps := 2000000 }) only [go_sem, ↓reduceIte, Int.reduceToNat, Nat.reduceMul, Int.reduceBEq, Int.reduceBNe, Nat.reduceBEq, Nat.reduceAdd, Nat.reduceSub, Nat.reduceLeDiff, Nat.reduceEqDiff, Nat.reduceLT, reduceCtorEq]
  (repeat (refine And.intro (by first | omega | (refine ⟨by omega, by omega⟩) | (refine ⟨by omega, by omega, by omega⟩) | (simp only [List.length_map, List.length_range, List.length_append, List.length_cons, List.length_nil, List.length_replicate, List.length_set]; omega) | (simp; omega) | (intro hgd; cases hgd) | (intro hgd; refine ⟨hgd, ?_⟩; first | omega | (refine ⟨by omega, by omega⟩) | (simp; omega))) ?_))
  (refine AWpL.gcalle (b := true) rfl (fun _ => (s19 none true none false [⟨10, 50, 30⟩] (by decide))) rfl (by rw [hn]; rfl) (fun _ => by simp (config := { maxSteps := 2000000 }) only [go_sem, ↓reduceIte, Int.reduceToNat, Nat.reduceMul, Int.reduceBEq, Int.reduceBNe, Nat.reduceBEq, Nat.reduceAdd, Nat.reduceSub, Nat.reduceLeDiff, Nat.reduceEqDiff, Nat.reduceLT, reduceCtorEq]) (AWpL.ofM hn rfl ?_); simp (config := { maxSteps := 2000000 }) only [go_sem, ↓reduceIte, Int.reduceToNat, Nat.reduceMul, Int.reduceBEq, Int.reduceBNe, Nat.reduceBEq, Nat.reduceAdd, Nat.reduceSub, Nat.reduceLeDiff, Nat.reduceEqDiff, Nat.reduceLT, reduceCtorEq])
  (refine AWpL.gcalle (b := true) rfl (fun _ => (s20 none false none false [30] (by decide))) rfl (by rw [hn]; rfl) (fun _ => by simp (config := { maxSteps := 2000000 }) only [go_sem, ↓reduceIte, Int.reduceToNat, Nat.reduceMul, Int.reduceBEq, Int.reduceBNe, Nat.reduceBEq, Nat.reduceAdd, Nat.reduceSub, Nat.reduceLeDiff, Nat.reduceEqDiff, Nat.reduceLT, reduceCtorEq]) (AWpL.ofM hn rfl ?_); simp (config := { maxSteps := 2000000 }) only [go_sem, ↓reduceIte, Int.reduceToNat, Nat.reduceMul, Int.reduceBEq, Int.reduceBNe, Nat.reduceBEq, Nat.reduceAdd, Nat.reduceSub, Nat.reduceLeDiff, Nat.reduceEqDiff, Nat.reduceLT, reduceCtorEq])
  refine AWp.ofD [] [] hn mixed rfl ?_
  simp (config := { maxSteps := 2000000 }) only [go_sem, ↓reduceIte, Int.reduceToNat, Nat.reduceMul, Int.reduceBEq, Int.reduceBNe, Nat.reduceBEq, Nat.reduceAdd, Nat.reduceSub, Nat.reduceLeDiff, Nat.reduceEqDiff, Nat.reduceLT, reduceCtorEq]
end Go.Proofs.Ytmkodhpbjedfkaa
