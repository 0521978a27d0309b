/- Telemetry: the law of orders. -/
import Derived.Test.YtfbddidlipeegaaAwZg
import Derived.Test.YtfbddidlipeegaaTemL
set_option linter.unusedVariables false
set_option linter.unusedSimpArgs false
namespace Go.Proofs.Ytfbddidlipeegaa
open Go.Proofs.Ytfbddidlipeegaa.Aw
attribute [local go_sem] Int.natCast_zero Int.natCast_one bne_self_eq_false beq_self_eq_true Bool.not_true Bool.not_false Option.isSome_none Option.isSome_some Aw.bkM_nil Option.getD_some Option.getD_none Nat.sub_zero Int.toNat_zero Aw.frzS Aw.frzT Aw.frzA Aw.frzL Aw.frzR Aw.frzO Aw.frzOL Aw.frzOT Aw.frzOR Aw.killS Aw.mapT Aw.mapR Aw.killM Aw.resAVs Aw.resAV Aw.quietOps Aw.wpP Aw.wpT Aw.wpS Aw.AOp.mild List.getElem?_cons_zero List.getElem?_cons_succ Bool.and_false Bool.and_self Bool.false_and Aw.opOb Aw.gdB Aw.Rnd Aw.subTm List.length_map Int.toNat_natCast and_self Aw.SeqC Aw.stops Aw.Ends Aw.looks Aw.renA Aw.renL Aw.renT Aw.renS Aw.wpO Aw.aop Aw.putTm Aw.St.ev Aw.St.put Aw.St.putO Aw.binAV Aw.intBin Aw.strBin Aw.pickAV Aw.optInt Aw.AV.strip Aw.AV.guard Aw.AV.cells Aw.gdOb Aw.AOp.opds Aw.AOp.still Aw.ptrCells Aw.St.reg Aw.fillAV Aw.fillOb Aw.elsOb Aw.splice Aw.firm Aw.cellish Aw.AV.shut Aw.shutAll Aw.Seq Aw.Blk Aw.retS_nil Aw.mapA Aw.mapL Aw.borA Aw.borOb Aw.allOb Aw.tupOf Aw.params Aw.Opd.of Array.toList Value.cells List.map_cons List.map_nil List.getD_cons_zero List.getD_cons_succ List.getD_nil List.length_cons List.length_nil List.take_succ_cons List.take_zero List.take_nil List.drop_zero List.drop_succ_cons List.drop_nil List.set_cons_zero List.set_cons_succ List.append_nil List.nil_append List.cons_append List.all_cons List.all_nil cond_false cond_true if_true if_false true_and and_true Bool.and_true Bool.true_and Option.map_some Option.map_none false_implies forall_const implies_true forall_eq imp_self Bool.cond_false_right Bool.cond_true_left beq_true beq_false Bool.not_eq_true' Bool.false_eq_true Nat.zero_add Nat.add_zero Aw.eqCells Aw.exactCap Aw.revealS Aw.srcEls Aw.srcSz
attribute [local go_sem ↓] Aw.look_nil Aw.look_ite Aw.wpL_nil Aw.wpL_op Aw.wpL_gd Aw.wpQ_nil Aw.wpQ_op Aw.wpQ_gd Aw.wpC_draw Aw.wpC_reg Aw.wpC_skip Aw.wpC_ret Aw.wpC_exit Aw.wpC_seq Aw.wpC_block Aw.wpC_loop Aw.wpC_cond Aw.stopAt_nil Aw.stopAt_cons Aw.wpD_skip Aw.wpD_ret Aw.wpD_exit Aw.wpD_region Aw.wpD_draw Aw.wpM_nil Aw.wpM_op Aw.wpM_gd Aw.wpD_seq Aw.wpD_block Aw.wpD_loop Aw.wpD_cond
/- slices.Equal[[]gridhall/api.TelemetryMsg,gridhall/api.TelemetryMsg] -/
def a12 : ACode :=
  (.seq (.region false [] [
     ⟨(some 4), none, (.mov (.v (.bool false)))⟩])
  (.seq (.seq (.region false [] [
     ⟨(some 6), none, (.mov (.t 0))⟩,
     ⟨(some 7), none, (.len (.t 6))⟩,
     ⟨(some 8), none, (.mov (.t 1))⟩,
     ⟨(some 9), none, (.len (.t 8))⟩,
     ⟨(some 10), none, (.bin .neq 3 (.t 7) (.t 9))⟩])
  (.cond (.t 10)
    (.seq (.region false [] [
       ⟨(some 4), none, (.mov (.v (.bool false)))⟩])
    .ret)
    .skip))
  (.seq (.seq (.region false [] [
     ⟨(some 11), none, (.mov (.t 0))⟩,
     ⟨(some 12), none, (.len (.t 11))⟩,
     ⟨(some 13), none, (.mov (.v (.int .i64 0)))⟩])
  (.block 0 (.loop (.seq (.region false [] [
       ⟨(some 14), none, (.bin .lss 3 (.t 13) (.t 12))⟩])
    (.seq (.cond (.t 14)
      .skip
      (.exit 0))
    (.seq (.block 1 (.seq (.region false [] [
        ⟨(some 15), none, (.mov (.t 13))⟩,
        ⟨(some 5), none, (.mov (.t 15))⟩])
     (.seq (.region true [[], [], [0, 1], [2], [], [], [4, 5], [6], [3, 7]] [
        ⟨(some 16), none, (.mov (.t 0))⟩,
        ⟨(some 17), none, (.mov (.t 5))⟩,
        ⟨(some 18), none, (.idx 4 (.t 16) (.t 17))⟩,
        ⟨(some 19), none, (.load 4 true (.t 18))⟩,
        ⟨(some 20), none, (.mov (.t 1))⟩,
        ⟨(some 21), none, (.mov (.t 5))⟩,
        ⟨(some 22), none, (.idx 4 (.t 20) (.t 21))⟩,
        ⟨(some 23), none, (.load 4 true (.t 22))⟩,
        ⟨(some 24), none, (.aeq true [.s, .i, .i, .i] (.t 19) (.t 23))⟩])
     (.cond (.t 24)
       (.seq (.region false [] [
          ⟨(some 4), none, (.mov (.v (.bool false)))⟩])
       .ret)
       .skip))))
    (.region false [] [
       ⟨(some 25), none, (.bin .add 3 (.t 13) (.v (.int .i64 1)))⟩,
       ⟨(some 13), none, (.mov (.t 25))⟩])))))))
  (.seq (.region false [] [
     ⟨(some 4), none, (.mov (.v (.bool true)))⟩])
  .ret))))
theorem k12 : FnIs Try.prog 12 26 [.t 4] a12 := ⟨_, _, Try.func12, rfl, by kernel_rfl, by kernel_rfl, rfl⟩
/- gridhall/gridhallkeep4.TelemetryOrder -/
def a4 : ACode :=
  (.seq (.region false [] [
     ⟨(some 4), none, (.mov (.v (.bool false)))⟩])
  (.seq (.region false [] [
     ⟨(some 14), none, (.mov (.t 0))⟩,
     ⟨(some 15), none, (.mov (.t 0))⟩,
     ⟨(some 16), none, (.len (.t 15))⟩,
     ⟨(some 17), none, (.mni (.t 16) (.v (.int .i64 12)))⟩,
     ⟨(some 18), none, (.slc 4 (.t 14) none (some (.t 17)) none)⟩,
     ⟨(some 19), none, (.call 11 [(.t 18)])⟩,
     ⟨(some 0), none, (.mov (.t 19))⟩])
  (.seq (.seq (.region false [] [
     ⟨(some 20), none, (.mov (.t 0))⟩,
     ⟨(some 21), none, (.len (.t 20))⟩,
     ⟨(some 22), none, (.mov (.v (.int .i64 0)))⟩])
  (.block 0 (.loop (.seq (.region false [] [
       ⟨(some 23), none, (.bin .lss 3 (.t 22) (.t 21))⟩])
    (.seq (.cond (.t 23)
      .skip
      (.exit 0))
    (.seq (.block 1 (.seq (.region false [] [
        ⟨(some 24), none, (.mov (.t 22))⟩,
        ⟨(some 5), none, (.mov (.t 24))⟩])
     (.seq (.region false [] [
        ⟨(some 25), none, (.mov (.t 0))⟩,
        ⟨(some 26), none, (.mov (.t 5))⟩,
        ⟨(some 27), none, (.mov (.t 0))⟩,
        ⟨(some 28), none, (.mov (.t 5))⟩,
        ⟨(some 29), none, (.idx 4 (.t 27) (.t 28))⟩,
        ⟨(some 30), none, (.fld 1 (.t 29))⟩,
        ⟨(some 31), none, (.load 1 false (.t 30))⟩,
        ⟨(some 32), none, (.call 8 [(.t 31), (.v (.int .i64 1)), (.v (.int .i64 1000))])⟩,
        ⟨(some 33), none, (.idx 4 (.t 25) (.t 26))⟩,
        ⟨(some 34), none, (.fld 1 (.t 33))⟩,
        ⟨none, none, (.store 1 (.t 34) (.t 32))⟩])
     (.seq (.region false [] [
        ⟨(some 35), none, (.mov (.t 0))⟩,
        ⟨(some 36), none, (.mov (.t 5))⟩,
        ⟨(some 37), none, (.mov (.t 0))⟩,
        ⟨(some 38), none, (.mov (.t 5))⟩,
        ⟨(some 39), none, (.idx 4 (.t 37) (.t 38))⟩,
        ⟨(some 40), none, (.fld 1 (.t 39))⟩,
        ⟨(some 41), none, (.load 1 false (.t 40))⟩,
        ⟨(some 42), none, (.bin .mul 3 (.v (.int .i64 10)) (.t 41))⟩,
        ⟨(some 43), none, (.idx 4 (.t 35) (.t 36))⟩,
        ⟨(some 44), none, (.fld 2 (.t 43))⟩,
        ⟨none, none, (.store 1 (.t 44) (.t 42))⟩])
     (.region false [] [
        ⟨(some 45), none, (.mov (.t 0))⟩,
        ⟨(some 46), none, (.mov (.t 5))⟩,
        ⟨(some 47), none, (.mov (.t 0))⟩,
        ⟨(some 48), none, (.mov (.t 5))⟩,
        ⟨(some 49), none, (.idx 4 (.t 47) (.t 48))⟩,
        ⟨(some 50), none, (.fld 1 (.t 49))⟩,
        ⟨(some 51), none, (.load 1 false (.t 50))⟩,
        ⟨(some 52), none, (.bin .rem 3 (.t 51) (.v (.int .i64 7)))⟩,
        ⟨(some 53), none, (.idx 4 (.t 45) (.t 46))⟩,
        ⟨(some 54), none, (.fld 3 (.t 53))⟩,
        ⟨none, none, (.store 1 (.t 54) (.t 52))⟩])))))
    (.region false [] [
       ⟨(some 55), none, (.bin .add 3 (.t 22) (.v (.int .i64 1)))⟩,
       ⟨(some 22), none, (.mov (.t 55))⟩])))))))
  (.seq (.region false [] [
     ⟨(some 57), none, (.call 5 [(.v (.int .i64 5))])⟩,
     ⟨(some 56), none, (.mov (.t 57))⟩,
     ⟨(some 58), none, (.ext 0 (.t 56))⟩,
     ⟨(some 59), none, (.ext 1 (.t 56))⟩,
     ⟨(some 6), none, (.mov (.t 58))⟩,
     ⟨(some 7), none, (.mov (.t 59))⟩])
  (.seq (.region false [] [
     ⟨(some 61), none, (.call 5 [(.v (.int .i64 5))])⟩,
     ⟨(some 60), none, (.mov (.t 61))⟩,
     ⟨(some 62), none, (.ext 0 (.t 60))⟩,
     ⟨(some 63), none, (.ext 1 (.t 60))⟩,
     ⟨(some 8), none, (.mov (.t 62))⟩,
     ⟨(some 9), none, (.mov (.t 63))⟩])
  (.seq (.seq (.region false [] [
     ⟨(some 64), none, (.mov (.t 7))⟩,
     ⟨(some 65), none, (.bin .neq 24 (.t 64) (.v (.int .i64 0)))⟩,
     ⟨(some 66), none, (.mov (.t 65))⟩,
     ⟨(some 67), (some (66, false)), (.mov (.t 9))⟩,
     ⟨(some 68), (some (66, false)), (.bin .neq 24 (.t 67) (.v (.int .i64 0)))⟩,
     ⟨(some 69), none, (.pick (.t 66) (.v (.bool true)) (.t 68))⟩,
     ⟨(some 70), none, (.mov (.t 69))⟩,
     ⟨(some 71), (some (70, false)), (.mov (.t 6))⟩,
     ⟨(some 72), (some (70, false)), (.nilP false (.t 71))⟩,
     ⟨(some 73), none, (.pick (.t 70) (.v (.bool true)) (.t 72))⟩,
     ⟨(some 74), none, (.mov (.t 73))⟩,
     ⟨(some 75), (some (74, false)), (.mov (.t 8))⟩,
     ⟨(some 76), (some (74, false)), (.nilP false (.t 75))⟩,
     ⟨(some 77), none, (.pick (.t 74) (.v (.bool true)) (.t 76))⟩])
  (.cond (.t 77)
    (.seq (.region false [] [
       ⟨(some 4), none, (.mov (.v (.bool false)))⟩])
    .ret)
    .skip))
  (.seq (.seq (.region false [] [
     ⟨(some 78), none, (.mov (.t 0))⟩,
     ⟨(some 79), none, (.len (.t 78))⟩,
     ⟨(some 80), none, (.mov (.v (.int .i64 0)))⟩])
  (.block 2 (.loop (.seq (.region false [] [
       ⟨(some 81), none, (.bin .lss 3 (.t 80) (.t 79))⟩])
    (.seq (.cond (.t 81)
      .skip
      (.exit 2))
    (.seq (.block 3 (.seq (.region false [] [
        ⟨(some 82), none, (.idx 4 (.t 78) (.t 80))⟩,
        ⟨(some 83), none, (.load 4 true (.t 82))⟩,
        ⟨(some 11), none, (.alloc 29 (.agg #[(.string ⟨#[]⟩), (.int .i64 0), (.int .i64 0), (.int .i64 0)]))⟩,
        ⟨none, none, (.store 4 (.t 11) (.t 83))⟩])
     (.region false [] [
        ⟨(some 84), none, (.mov (.t 6))⟩,
        ⟨(some 85), none, (.load 4 true (.t 11))⟩,
        ⟨(some 86), none, (.call 7 [(.t 84), (.t 85)])⟩])))
    (.region false [] [
       ⟨(some 87), none, (.bin .add 3 (.t 80) (.v (.int .i64 1)))⟩,
       ⟨(some 80), none, (.mov (.t 87))⟩])))))))
  (.seq (.seq (.region false [] [
     ⟨(some 88), none, (.mov (.t 0))⟩,
     ⟨(some 89), none, (.len (.t 88))⟩,
     ⟨(some 90), none, (.mov (.v (.int .i64 0)))⟩])
  (.block 4 (.loop (.seq (.region false [] [
       ⟨(some 91), none, (.bin .lss 3 (.t 90) (.t 89))⟩])
    (.seq (.cond (.t 91)
      .skip
      (.exit 4))
    (.seq (.block 5 (.seq (.region false [] [
        ⟨(some 92), none, (.mov (.t 90))⟩,
        ⟨(some 12), none, (.mov (.t 92))⟩])
     (.seq (.region false [] [
        ⟨(some 93), none, (.mov (.t 0))⟩,
        ⟨(some 94), none, (.mov (.t 12))⟩,
        ⟨(some 95), none, (.mov (.t 1))⟩,
        ⟨(some 96), none, (.mov (.t 0))⟩,
        ⟨(some 97), none, (.len (.t 96))⟩,
        ⟨(some 98), none, (.bin .sub 3 (.t 97) (.v (.int .i64 1)))⟩,
        ⟨(some 99), none, (.call 8 [(.t 95), (.v (.int .i64 0)), (.t 98)])⟩,
        ⟨(some 100), none, (.bin .add 3 (.t 94) (.t 99))⟩,
        ⟨(some 101), none, (.mov (.t 0))⟩,
        ⟨(some 102), none, (.len (.t 101))⟩,
        ⟨(some 103), none, (.bin .rem 3 (.t 100) (.t 102))⟩,
        ⟨(some 104), none, (.idx 4 (.t 93) (.t 103))⟩,
        ⟨(some 105), none, (.load 4 true (.t 104))⟩,
        ⟨(some 13), none, (.alloc 29 (.agg #[(.string ⟨#[]⟩), (.int .i64 0), (.int .i64 0), (.int .i64 0)]))⟩,
        ⟨none, none, (.store 4 (.t 13) (.t 105))⟩])
     (.seq (.region false [] [
        ⟨(some 106), none, (.mov (.t 8))⟩,
        ⟨(some 107), none, (.load 4 true (.t 13))⟩,
        ⟨(some 108), none, (.call 7 [(.t 106), (.t 107)])⟩])
     (.region false [] [
        ⟨(some 109), none, (.mov (.t 8))⟩,
        ⟨(some 110), none, (.load 4 true (.t 13))⟩,
        ⟨(some 111), none, (.call 7 [(.t 109), (.t 110)])⟩])))))
    (.region false [] [
       ⟨(some 112), none, (.bin .add 3 (.t 90) (.v (.int .i64 1)))⟩,
       ⟨(some 90), none, (.mov (.t 112))⟩])))))))
  (.seq (.region false [] [
     ⟨(some 113), none, (.call 6 [])⟩,
     ⟨(some 114), none, (.mov (.t 113))⟩,
     ⟨(some 115), (some (114, true)), (.mov (.t 6))⟩,
     ⟨(some 116), (some (114, true)), (.call 9 [(.t 115)])⟩,
     ⟨(some 117), (some (114, true)), (.mov (.t 8))⟩,
     ⟨(some 118), (some (114, true)), (.call 9 [(.t 117)])⟩,
     ⟨(some 119), (some (114, true)), (.call 12 [(.t 116), (.t 118)])⟩,
     ⟨(some 120), none, (.pick (.t 114) (.t 119) (.v (.bool false)))⟩,
     ⟨(some 4), none, (.mov (.t 120))⟩])
  .ret)))))))))
theorem k4 : FnIs Try.prog 4 121 [.t 4] a4 := ⟨_, _, Try.func4, rfl, by kernel_rfl, by kernel_rfl, rfl⟩

/-- A list is equal to itself. -/
theorem s12 (nl fl nm fm) (l : List Msg) (hl : l.length ≤ 1000) : Aw.Spec Try.prog 12 [] [.imm nl fl 4 (l.map mc), .imm nm fm 4 (l.map mc)] (Gives (· = B true)) := by
  refine Aw.Spec.givesD k12 mixed rfl rfl rfl fun E hn hnp hp => ?_
  unfold a12
  have e9 : ((l.length : Int) != (l.length : Int)) = false := by simp
  simp (config := { maxSteps := 2000000 }) only [go_sem, ↓reduceIte, Int.reduceToNat, Nat.reduceMul, Int.reduceBEq, Int.reduceBNe, Nat.reduceBEq, Nat.reduceAdd, Nat.reduceSub, Nat.reduceLeDiff, Nat.reduceEqDiff, Nat.reduceLT, reduceCtorEq, e9]
  refine AWp.loop (fun k s => ∃ i : Nat, i + k = l.length ∧ Weak E s ⟨[(0, .imm nl fl 4 (l.map mc)), (1, .imm nm fm 4 (l.map mc)), (12, I l.length), (13, I i)], []⟩) (n := l.length)
    ⟨0, by omega, weak_to [] hp hnp rfl (by simp (config := { maxSteps := 2000000 }) only [go_sem, ↓reduceIte, Int.reduceToNat, Nat.reduceMul, Int.reduceBEq, Int.reduceBNe, Nat.reduceBEq, Nat.reduceAdd, Nat.reduceSub, Nat.reduceLeDiff, Nat.reduceEqDiff, Nat.reduceLT, reduceCtorEq, Int.natCast_zero]) rfl⟩ ?_
  rintro k s ⟨i, hi, hw⟩
  refine AWp.weak hw (AWp.ofD [] [] hn mixed rfl ?_)
  rcases Nat.lt_or_ge i l.length with hlt | hge
  · have e0 : decide ((i : Int) < (l.length : Int)) = true := by simp; omega
    have e1 := getD_map mc hlt
    have e2 : IntKind.i64.wrap ((i : Int) + 1) = ((i + 1 : Nat) : Int) := by rw [w64 (by omega) (by omega)]; omega
    simp (config := { maxSteps := 2000000 }) only [go_sem, ↓reduceIte, Int.reduceToNat, Nat.reduceMul, Int.reduceBEq, Int.reduceBNe, Nat.reduceBEq, Nat.reduceAdd, Nat.reduceSub, Nat.reduceLeDiff, Nat.reduceEqDiff, Nat.reduceLT, reduceCtorEq, e0, e1, e2]
    (repeat (refine And.intro (by first | omega | (refine ⟨by omega, by omega⟩) | (refine ⟨by omega, by omega, by omega⟩) | (simp only [List.length_map, List.length_range, List.length_append, List.length_cons, List.length_nil, List.length_replicate, List.length_set]; omega) | (simp; omega) | (intro hgd; cases hgd) | (intro hgd; refine ⟨hgd, ?_⟩; first | omega | (refine ⟨by omega, by omega⟩) | (simp; omega))) ?_))
    exact ⟨k - 1, by omega, i + 1, by omega, weak_to [] hp hnp rfl (by simp (config := { maxSteps := 2000000 }) only [go_sem, ↓reduceIte, Int.reduceToNat, Nat.reduceMul, Int.reduceBEq, Int.reduceBNe, Nat.reduceBEq, Nat.reduceAdd, Nat.reduceSub, Nat.reduceLeDiff, Nat.reduceEqDiff, Nat.reduceLT, reduceCtorEq]) rfl⟩
  · have e0 : decide ((i : Int) < (l.length : Int)) = false := by simp; omega
    simp (config := { maxSteps := 2000000 }) only [go_sem, ↓reduceIte, Int.reduceToNat, Nat.reduceMul, Int.reduceBEq, Int.reduceBNe, Nat.reduceBEq, Nat.reduceAdd, Nat.reduceSub, Nat.reduceLeDiff, Nat.reduceEqDiff, Nat.reduceLT, reduceCtorEq, e0]
/-- The points of the second desk. -/
abbrev tkR3 (d : Tk) : List Reg := [.box 42 [I d.age, .hnd 4 0 d.ps.length d.ps.length false, .hnd 5 0 d.sk.length d.sk.length false], .arr 29 4 (d.ps.map mc), .arr 3 1 (d.sk.map ic)]
set_option maxRecDepth 20000 in
set_option maxHeartbeats 2000000 in
theorem s4 (nl fl) (l : List Msg) (turn : Int) (hs : ∀ m ∈ l, m.pt.size ≤ 9223372036854775807) (hl63 : l.length ≤ 9223372036854775807) :
    Aw.Spec Try.prog 4 [] [.imm nl fl 4 (l.map mc), I turn] (Gives (· = B true)) := by
  refine Aw.Spec.givesD k4 mixed rfl rfl rfl fun E hn hnp hp => ?_
  unfold a4
  have pin : ∀ r, E.pin r = none := fun r => hp.none hnp (Nat.zero_le _)
  have hmin : ((l.map mc).take (min (l.length : Int) 12).toNat) = (l.take 12).map mc := by
    rw [List.map_take]
    rcases Nat.le_total l.length 12 with h | h
    · rw [List.take_of_length_le (by simp; omega), List.take_of_length_le (by simp; omega)]
    · congr 1; omega
  simp (config := { maxSteps := 2000000 }) only [go_sem, ↓reduceIte, Int.reduceToNat, Nat.reduceMul, Int.reduceBEq, Int.reduceBNe, Nat.reduceBEq, Nat.reduceAdd, Nat.reduceSub, Nat.reduceLeDiff, Nat.reduceEqDiff, Nat.reduceLT, reduceCtorEq, hmin]
  (repeat (refine And.intro (by first | omega | (refine ⟨by omega, by omega⟩) | (refine ⟨by omega, by omega, by omega⟩) | (simp only [List.length_map, List.length_range, List.length_append, List.length_cons, List.length_nil, List.length_replicate, List.length_set]; omega) | (simp; omega) | (intro hgd; cases hgd) | (intro hgd; refine ⟨hgd, ?_⟩; first | omega | (refine ⟨by omega, by omega⟩) | (simp; omega))) ?_))
  generalize hH : l.take 12 = M0 at *
  have hM12 : M0.length ≤ 12 := by rw [← hH]; simp; omega
  have hMs : ∀ m ∈ M0, m.pt.size ≤ 9223372036854775807 := fun m hm => hs m (List.mem_of_mem_take (by rw [hH]; exact hm))
  refine AWpL.calleB (o11 nl false M0 (by omega)) (by simp (config := { maxSteps := 2000000 }) only [go_sem, ↓reduceIte, Int.reduceToNat, Nat.reduceMul, Int.reduceBEq, Int.reduceBNe, Nat.reduceBEq, Nat.reduceAdd, Nat.reduceSub, Nat.reduceLeDiff, Nat.reduceEqDiff, Nat.reduceLT, reduceCtorEq]) (by rw [hn]; rfl) (by simp (config := { maxSteps := 2000000 }) only [go_sem, ↓reduceIte, Int.reduceToNat, Nat.reduceMul, Int.reduceBEq, Int.reduceBNe, Nat.reduceBEq, Nat.reduceAdd, Nat.reduceSub, Nat.reduceLeDiff, Nat.reduceEqDiff, Nat.reduceLT, reduceCtorEq]) fun rg v hv => ?_
  obtain ⟨rfl, rfl⟩ := hv
  refine ⟨⟨by unfold NI; trivial, fun g hg => by rw [List.mem_singleton.1 hg]; exact niM M0⟩, AWpL.ofM hn rfl ?_⟩
  simp (config := { maxSteps := 2000000 }) only [go_sem, ↓reduceIte, Int.reduceToNat, Nat.reduceMul, Int.reduceBEq, Int.reduceBNe, Nat.reduceBEq, Nat.reduceAdd, Nat.reduceSub, Nat.reduceLeDiff, Nat.reduceEqDiff, Nat.reduceLT, reduceCtorEq, Aw.retS, Aw.retRg, Aw.kpM, Aw.bkM, Aw.pos, Aw.isBox, List.getElem?_nil]
  refine AWp.loop (fun k s => ∃ i : Nat, i + k = M0.length ∧ Weak E s ⟨[(0, .hnd 0 0 M0.length M0.length false), (1, I turn), (21, I M0.length), (22, I i)], [.arr 29 4 ((mixL M0 i).map mc)]⟩) (n := M0.length)
    ⟨0, by omega, weak_to [0] hp hnp rfl (by simp (config := { maxSteps := 2000000 }) only [go_sem, ↓reduceIte, Int.reduceToNat, Nat.reduceMul, Int.reduceBEq, Int.reduceBNe, Nat.reduceBEq, Nat.reduceAdd, Nat.reduceSub, Nat.reduceLeDiff, Nat.reduceEqDiff, Nat.reduceLT, reduceCtorEq, Aw.pos, Int.natCast_zero]) (by simp (config := { maxSteps := 2000000 }) only [go_sem, ↓reduceIte, Int.reduceToNat, Nat.reduceMul, Int.reduceBEq, Int.reduceBNe, Nat.reduceBEq, Nat.reduceAdd, Nat.reduceSub, Nat.reduceLeDiff, Nat.reduceEqDiff, Nat.reduceLT, reduceCtorEq, Aw.renR, Aw.pos]; rfl)⟩ ?_
  rintro k s ⟨i, hik, hw⟩
  refine AWp.weak hw (AWp.ofD [] [] hn mixed rfl ?_)
  rcases Nat.lt_or_ge i M0.length with hlt | hge
  · have e0 : decide ((i : Int) < (M0.length : Int)) = true := decide_eq_true (by omega)
    have e2 : IntKind.i64.wrap ((i : Int) + 1) = ((i + 1 : Nat) : Int) := by rw [w64 (by omega) (by omega)]; omega
    have hml := mixL_len M0 i
    have e1 : ((mixL M0 i).map mc).getD i [] = mc M0[i] := by rw [getD_map mc (by omega), mixL_get hlt]
    have hsu := mixL_succ hlt
    have e3 : ∀ y, (((mixL M0 i).map mc).set i y).getD i [] = y := fun y => by
      rw [List.getD_eq_getElem?_getD, List.getElem?_set_self (by rw [List.length_map]; omega)]; rfl
    have hc := cut_range M0[i].num 1 1000 (by decide)
    have e4 : IntKind.i64.wrap (10 * cut M0[i].num 1 1000) = 10 * cut M0[i].num 1 1000 := w64 (by omega) (by omega)
    have hnm : normM M0[i] = ⟨M0[i].pt, cut M0[i].num 1 1000, 10 * cut M0[i].num 1 1000, (cut M0[i].num 1 1000).tmod 7⟩ := rfl
    have hsm : ∀ y, ((mixL M0 i).map mc).set i (mc y) = ((mixL M0 i).set i y).map mc := fun y => List.map_set.symm
    generalize M0[i] = m at *
    generalize mixL M0 i = X at *
    simp (config := { maxSteps := 2000000 }) only [go_sem, ↓reduceIte, Int.reduceToNat, Nat.reduceMul, Int.reduceBEq, Int.reduceBNe, Nat.reduceBEq, Nat.reduceAdd, Nat.reduceSub, Nat.reduceLeDiff, Nat.reduceEqDiff, Nat.reduceLT, reduceCtorEq, e0, e1, List.length_map, hml]
    (repeat (refine And.intro (by first | omega | (refine ⟨by omega, by omega⟩) | (refine ⟨by omega, by omega, by omega⟩) | (simp only [List.length_map, List.length_range, List.length_append, List.length_cons, List.length_nil, List.length_replicate, List.length_set]; omega) | (simp; omega) | (intro hgd; cases hgd) | (intro hgd; refine ⟨hgd, ?_⟩; first | omega | (refine ⟨by omega, by omega⟩) | (simp; omega))) ?_))
    (refine AWpL.calle (s8 m.num 1 1000 (by decide) (by decide) (by decide)) rfl (by rw [hn]; rfl) (by simp (config := { maxSteps := 2000000 }) only [go_sem, ↓reduceIte, Int.reduceToNat, Nat.reduceMul, Int.reduceBEq, Int.reduceBNe, Nat.reduceBEq, Nat.reduceAdd, Nat.reduceSub, Nat.reduceLeDiff, Nat.reduceEqDiff, Nat.reduceLT, reduceCtorEq]) (AWpL.ofM hn rfl ?_); simp (config := { maxSteps := 2000000 }) only [go_sem, ↓reduceIte, Int.reduceToNat, Nat.reduceMul, Int.reduceBEq, Int.reduceBNe, Nat.reduceBEq, Nat.reduceAdd, Nat.reduceSub, Nat.reduceLeDiff, Nat.reduceEqDiff, Nat.reduceLT, reduceCtorEq])
    generalize cut m.num 1 1000 = c at *
    simp (config := { maxSteps := 2000000 }) only [go_sem, ↓reduceIte, Int.reduceToNat, Nat.reduceMul, Int.reduceBEq, Int.reduceBNe, Nat.reduceBEq, Nat.reduceAdd, Nat.reduceSub, Nat.reduceLeDiff, Nat.reduceEqDiff, Nat.reduceLT, reduceCtorEq, e1, e3, List.length_set, List.length_map, hml, List.set_set, e4]
    (repeat (refine And.intro (by first | omega | (refine ⟨by omega, by omega⟩) | (refine ⟨by omega, by omega, by omega⟩) | (simp only [List.length_map, List.length_range, List.length_append, List.length_cons, List.length_nil, List.length_replicate, List.length_set]; omega) | (simp; omega) | (intro hgd; cases hgd) | (intro hgd; refine ⟨hgd, ?_⟩; first | omega | (refine ⟨by omega, by omega⟩) | (simp; omega))) ?_))
    exact ⟨k - 1, by omega, i + 1, by omega, weak_to [0] hp hnp rfl (by simp (config := { maxSteps := 2000000 }) only [go_sem, ↓reduceIte, Int.reduceToNat, Nat.reduceMul, Int.reduceBEq, Int.reduceBNe, Nat.reduceBEq, Nat.reduceAdd, Nat.reduceSub, Nat.reduceLeDiff, Nat.reduceEqDiff, Nat.reduceLT, reduceCtorEq, e2, Aw.pos]) (by rw [hsu, ← hsm, hnm]; simp (config := { maxSteps := 2000000 }) only [go_sem, ↓reduceIte, Int.reduceToNat, Nat.reduceMul, Int.reduceBEq, Int.reduceBNe, Nat.reduceBEq, Nat.reduceAdd, Nat.reduceSub, Nat.reduceLeDiff, Nat.reduceEqDiff, Nat.reduceLT, reduceCtorEq, Aw.renR, Aw.pos])⟩
  have e0 : decide ((i : Int) < (M0.length : Int)) = false := decide_eq_false (by omega)
  obtain rfl : i = M0.length := by omega
  have hmx := mixL_all M0
  have hl0 : M0.length = (M0.map normM).length := by simp
  have hMs2 : ∀ m ∈ M0.map normM, m.pt.size ≤ 9223372036854775807 := fun m hm => by
    obtain ⟨x, hx, rfl⟩ := List.mem_map.1 hm
    exact hMs x hx
  have hreg : ∀ m ∈ M0.map normM, Reg1 m := fun m hm => by
    obtain ⟨x, hx, rfl⟩ := List.mem_map.1 hm
    exact normM_reg x
  simp (config := { maxSteps := 2000000 }) only [go_sem, ↓reduceIte, Int.reduceToNat, Nat.reduceMul, Int.reduceBEq, Int.reduceBNe, Nat.reduceBEq, Nat.reduceAdd, Nat.reduceSub, Nat.reduceLeDiff, Nat.reduceEqDiff, Nat.reduceLT, reduceCtorEq, e0, hmx]
  rw [hl0] at hM12 ⊢
  generalize M0.map normM = M at *
  clear hw
  have htkM : (M.map mc).take M.length = M.map mc := List.take_of_length_le (by simp)
  refine AWpL.weak (weak_freeze 0 rfl (pin 0) (by simp (config := { maxSteps := 2000000 }) only [go_sem, ↓reduceIte, Int.reduceToNat, Nat.reduceMul, Int.reduceBEq, Int.reduceBNe, Nat.reduceBEq, Nat.reduceAdd, Nat.reduceSub, Nat.reduceLeDiff, Nat.reduceEqDiff, Nat.reduceLT, reduceCtorEq, List.length_map, Nat.le_refl])) (AWpL.ofM hn rfl ?_)
  simp (config := { maxSteps := 2000000 }) only [go_sem, ↓reduceIte, Int.reduceToNat, Nat.reduceMul, Int.reduceBEq, Int.reduceBNe, Nat.reduceBEq, Nat.reduceAdd, Nat.reduceSub, Nat.reduceLeDiff, Nat.reduceEqDiff, Nat.reduceLT, reduceCtorEq, htkM]
  refine AWpL.weak (weak_ent 0 (by rfl) (Ent.plain _ _ _ _)) (AWpL.ofM hn rfl ?_)
  simp (config := { maxSteps := 2000000 }) only [go_sem, ↓reduceIte, Int.reduceToNat, Nat.reduceMul, Int.reduceBEq, Int.reduceBNe, Nat.reduceBEq, Nat.reduceAdd, Nat.reduceSub, Nat.reduceLeDiff, Nat.reduceEqDiff, Nat.reduceLT, reduceCtorEq]
  refine AWpL.callA [] (s5 5 (by decide)) rfl rfl (by rw [hn]; rfl) rfl (fun r hr => by cases hr) fun rg v hv => ?_
  obtain ⟨rfl, rfl⟩ := hv.2 (by decide)
  refine ⟨Nat.zero_le _, AWpL.ofM hn rfl ?_⟩
  simp (config := { maxSteps := 2000000 }) only [go_sem, ↓reduceIte, Int.reduceToNat, Nat.reduceMul, Int.reduceBEq, Int.reduceBNe, Nat.reduceBEq, Nat.reduceAdd, Nat.reduceSub, Nat.reduceLeDiff, Nat.reduceEqDiff, Nat.reduceLT, reduceCtorEq, Aw.retS, Aw.retRg, Aw.kpM, Aw.bkM, Aw.pos, Aw.isBox, List.getElem?_nil]
  refine AWpL.callA [] (s5 5 (by decide)) rfl rfl (by rw [hn]; rfl) rfl (fun r hr => by cases hr) fun rg v hv => ?_
  obtain ⟨rfl, rfl⟩ := hv.2 (by decide)
  refine ⟨Nat.zero_le _, AWpL.ofM hn rfl ?_⟩
  simp (config := { maxSteps := 2000000 }) only [go_sem, ↓reduceIte, Int.reduceToNat, Nat.reduceMul, Int.reduceBEq, Int.reduceBNe, Nat.reduceBEq, Nat.reduceAdd, Nat.reduceSub, Nat.reduceLeDiff, Nat.reduceEqDiff, Nat.reduceLT, reduceCtorEq, Aw.retS, Aw.retRg, Aw.kpM, Aw.bkM, Aw.pos, Aw.isBox, List.getElem?_nil]
  refine AWp.weak ((weak_nilbox 1 1 29 4 rfl rfl).trans ((weak_nilbox 1 2 3 1 rfl rfl).trans ((weak_nilbox 2 1 29 4 rfl rfl).trans (weak_nilbox 2 2 3 1 rfl rfl)))) ?_
  simp (config := { maxSteps := 2000000 }) only [go_sem, ↓reduceIte, Int.reduceToNat, Nat.reduceMul, Int.reduceBEq, Int.reduceBNe, Nat.reduceBEq, Nat.reduceAdd, Nat.reduceSub, Nat.reduceLeDiff, Nat.reduceEqDiff, Nat.reduceLT, reduceCtorEq]
  refine AWp.loop (fun k s => ∃ i : Nat, i + k = M.length ∧ Weak E s ⟨[(0, .imm none false 4 (M.map mc)), (1, I turn), (6, .ptr 0 0 0), (8, .ptr 3 0 0), (78, .imm none false 4 (M.map mc)), (79, I M.length), (80, I i)], tkR (stT 5 (M.take i)) ++ tkR3 (stT 5 [])⟩) (n := M.length)
    ⟨0, by omega, weak_to [1, 3, 4, 2, 5, 6] hp hnp rfl (by simp (config := { maxSteps := 2000000 }) only [go_sem, ↓reduceIte, Int.reduceToNat, Nat.reduceMul, Int.reduceBEq, Int.reduceBNe, Nat.reduceBEq, Nat.reduceAdd, Nat.reduceSub, Nat.reduceLeDiff, Nat.reduceEqDiff, Nat.reduceLT, reduceCtorEq, Aw.pos, Int.natCast_zero]) (by simp (config := { maxSteps := 2000000 }) only [go_sem, ↓reduceIte, Int.reduceToNat, Nat.reduceMul, Int.reduceBEq, Int.reduceBNe, Nat.reduceBEq, Nat.reduceAdd, Nat.reduceSub, Nat.reduceLeDiff, Nat.reduceEqDiff, Nat.reduceLT, reduceCtorEq, Aw.renR, Aw.pos]; rfl)⟩ ?_
  rintro k s ⟨i, hik, hw⟩
  refine AWp.weak hw (AWp.ofD [] [] hn mixed rfl ?_)
  have hok := stT_ok 5 (M.take i)
  rcases Nat.lt_or_ge i M.length with hlt | hge
  · have e0 : decide ((i : Int) < (M.length : Int)) = true := decide_eq_true (by omega)
    have e1 := getD_map mc hlt
    have e2 : IntKind.i64.wrap ((i : Int) + 1) = ((i + 1 : Nat) : Int) := by rw [w64 (by omega) (by omega)]; omega
    have hsu := stT_succ 5 M hlt
    have hx := hMs2 _ (List.getElem_mem hlt)
    generalize M[i] = m at *
    generalize stT 5 (M.take i) = d at *
    simp (config := { maxSteps := 2000000 }) only [go_sem, ↓reduceIte, Int.reduceToNat, Nat.reduceMul, Int.reduceBEq, Int.reduceBNe, Nat.reduceBEq, Nat.reduceAdd, Nat.reduceSub, Nat.reduceLeDiff, Nat.reduceEqDiff, Nat.reduceLT, reduceCtorEq, e0, e1, tkR, tkR3]
    (repeat (refine And.intro (by first | omega | (refine ⟨by omega, by omega⟩) | (refine ⟨by omega, by omega, by omega⟩) | (simp only [List.length_map, List.length_range, List.length_append, List.length_cons, List.length_nil, List.length_replicate, List.length_set]; omega) | (simp; omega) | (intro hgd; cases hgd) | (intro hgd; refine ⟨hgd, ?_⟩; first | omega | (refine ⟨by omega, by omega⟩) | (simp; omega))) ?_))
    (refine AWpL.callA [0, 1, 2] (s7 d m hok.ok hx) rfl rfl (by rw [hn]; rfl) rfl (fun r hr => .inr (pin r)) fun rg v hv => ?_; obtain ⟨rfl, rfl⟩ := hv; refine ⟨Nat.le_refl _, AWpL.ofM hn rfl ?_⟩)
    simp (config := { maxSteps := 2000000 }) only [go_sem, ↓reduceIte, Int.reduceToNat, Nat.reduceMul, Int.reduceBEq, Int.reduceBNe, Nat.reduceBEq, Nat.reduceAdd, Nat.reduceSub, Nat.reduceLeDiff, Nat.reduceEqDiff, Nat.reduceLT, reduceCtorEq, Aw.retS, Aw.retRg, Aw.kpM, Aw.bkM, Aw.pos, Aw.isBox, e2]
    exact ⟨k - 1, by omega, i + 1, by omega, weak_to [0, 1, 2, 3, 4, 5] hp hnp rfl (by simp (config := { maxSteps := 2000000 }) only [go_sem, ↓reduceIte, Int.reduceToNat, Nat.reduceMul, Int.reduceBEq, Int.reduceBNe, Nat.reduceBEq, Nat.reduceAdd, Nat.reduceSub, Nat.reduceLeDiff, Nat.reduceEqDiff, Nat.reduceLT, reduceCtorEq, Aw.pos]) (by rw [hsu]; simp (config := { maxSteps := 2000000 }) only [go_sem, ↓reduceIte, Int.reduceToNat, Nat.reduceMul, Int.reduceBEq, Int.reduceBNe, Nat.reduceBEq, Nat.reduceAdd, Nat.reduceSub, Nat.reduceLeDiff, Nat.reduceEqDiff, Nat.reduceLT, reduceCtorEq, Aw.renR, Aw.pos, tkR, tkR3])⟩
  have e0 : decide ((i : Int) < (M.length : Int)) = false := decide_eq_false (by omega)
  have ht : M.take i = M := List.take_of_length_le hge
  rw [ht] at hok ⊢
  simp (config := { maxSteps := 2000000 }) only [go_sem, ↓reduceIte, Int.reduceToNat, Nat.reduceMul, Int.reduceBEq, Int.reduceBNe, Nat.reduceBEq, Nat.reduceAdd, Nat.reduceSub, Nat.reduceLeDiff, Nat.reduceEqDiff, Nat.reduceLT, reduceCtorEq, e0, tkR, tkR3]
  clear hw
  have hc := cut_range turn 0 ((M.length : Int) - 1)
  obtain ⟨c, hcc⟩ : ∃ c : Nat, 0 < M.length → cut turn 0 ((M.length : Int) - 1) = c ∧ c < M.length := ⟨(cut turn 0 ((M.length : Int) - 1)).toNat, fun h => by omega⟩
  have hst := turnL_succ M c
  refine AWp.loop (fun k s => ∃ i : Nat, i + k = M.length ∧ Weak E s ⟨[(0, .imm none false 4 (M.map mc)), (1, I turn), (6, .ptr 0 0 0), (8, .ptr 3 0 0), (89, I M.length), (90, I i)], tkR (stT 5 M) ++ tkR3 (stT 5 (turnL M c i))⟩) (n := M.length)
    ⟨0, by omega, weak_to [0, 1, 2, 3, 4, 5] hp hnp rfl (by simp (config := { maxSteps := 2000000 }) only [go_sem, ↓reduceIte, Int.reduceToNat, Nat.reduceMul, Int.reduceBEq, Int.reduceBNe, Nat.reduceBEq, Nat.reduceAdd, Nat.reduceSub, Nat.reduceLeDiff, Nat.reduceEqDiff, Nat.reduceLT, reduceCtorEq, Aw.pos, Int.natCast_zero]) (by simp (config := { maxSteps := 2000000 }) only [go_sem, ↓reduceIte, Int.reduceToNat, Nat.reduceMul, Int.reduceBEq, Int.reduceBNe, Nat.reduceBEq, Nat.reduceAdd, Nat.reduceSub, Nat.reduceLeDiff, Nat.reduceEqDiff, Nat.reduceLT, reduceCtorEq, Aw.renR, Aw.pos]; rfl)⟩ ?_
  clear hik
  rintro k s ⟨i, hik, hw⟩
  refine AWp.weak hw (AWp.ofD [] [] hn mixed rfl ?_)
  have hok2 := stT_ok 5 (turnL M c i)
  rcases Nat.lt_or_ge i M.length with hlt | hge2
  · have e0 : decide ((i : Int) < (M.length : Int)) = true := decide_eq_true (by omega)
    have e2 : IntKind.i64.wrap ((i : Int) + 1) = ((i + 1 : Nat) : Int) := by rw [w64 (by omega) (by omega)]; omega
    obtain ⟨hcc1, hcc2⟩ := hcc (by omega)
    have e3 : IntKind.i64.wrap ((M.length : Int) - 1) = (M.length : Int) - 1 := w64 (by omega) (by omega)
    have e4 : IntKind.i64.wrap ((i : Int) + (c : Int)) = ((i + c : Nat) : Int) := by rw [w64 (by omega) (by omega)]; omega
    have e5 : ((i + c : Nat) : Int).tmod (M.length : Int) = (((i + c) % M.length : Nat) : Int) := by rw [Int.tmod_eq_emod_of_nonneg (by omega)]; rfl
    have hj : (i + c) % M.length < M.length := Nat.mod_lt _ (by omega)
    have e1 := getD_mapD default mc hj
    have hx := hMs2 (M.getD ((i + c) % M.length) default) (by rw [getD_elem hj]; exact List.getElem_mem hj)
    have hsi := hst i
    have htm : turnM M c i = M.getD ((i + c) % M.length) default := rfl
    rw [htm] at hsi
    generalize (i + c) % M.length = j at *
    generalize M.getD j default = m at *
    generalize stT 5 (turnL M c i) = d at *
    generalize stT 5 M = da at *
    simp (config := { maxSteps := 2000000 }) only [go_sem, ↓reduceIte, Int.reduceToNat, Nat.reduceMul, Int.reduceBEq, Int.reduceBNe, Nat.reduceBEq, Nat.reduceAdd, Nat.reduceSub, Nat.reduceLeDiff, Nat.reduceEqDiff, Nat.reduceLT, reduceCtorEq, e0, e3, tkR, tkR3]
    (refine AWpL.calle (s8 turn 0 ((M.length : Int) - 1) (by decide) (by omega) (by omega)) rfl (by rw [hn]; rfl) (by simp (config := { maxSteps := 2000000 }) only [go_sem, ↓reduceIte, Int.reduceToNat, Nat.reduceMul, Int.reduceBEq, Int.reduceBNe, Nat.reduceBEq, Nat.reduceAdd, Nat.reduceSub, Nat.reduceLeDiff, Nat.reduceEqDiff, Nat.reduceLT, reduceCtorEq]) (AWpL.ofM hn rfl ?_); simp (config := { maxSteps := 2000000 }) only [go_sem, ↓reduceIte, Int.reduceToNat, Nat.reduceMul, Int.reduceBEq, Int.reduceBNe, Nat.reduceBEq, Nat.reduceAdd, Nat.reduceSub, Nat.reduceLeDiff, Nat.reduceEqDiff, Nat.reduceLT, reduceCtorEq])
    rw [hcc1]
    simp (config := { maxSteps := 2000000 }) only [go_sem, ↓reduceIte, Int.reduceToNat, Nat.reduceMul, Int.reduceBEq, Int.reduceBNe, Nat.reduceBEq, Nat.reduceAdd, Nat.reduceSub, Nat.reduceLeDiff, Nat.reduceEqDiff, Nat.reduceLT, reduceCtorEq, e4, e5, e1]
    refine ⟨by omega, ?_⟩
    (repeat (refine And.intro (by first | omega | (refine ⟨by omega, by omega⟩) | (refine ⟨by omega, by omega, by omega⟩) | (simp only [List.length_map, List.length_range, List.length_append, List.length_cons, List.length_nil, List.length_replicate, List.length_set]; omega) | (simp; omega) | (intro hgd; cases hgd) | (intro hgd; refine ⟨hgd, ?_⟩; first | omega | (refine ⟨by omega, by omega⟩) | (simp; omega))) ?_))
    (refine AWpL.callA [3, 4, 5] (s7 d m hok2.ok hx) rfl rfl (by rw [hn]; rfl) rfl (fun r hr => .inr (pin r)) fun rg v hv => ?_; obtain ⟨rfl, rfl⟩ := hv; refine ⟨Nat.le_refl _, AWpL.ofM hn rfl ?_⟩)
    simp (config := { maxSteps := 2000000 }) only [go_sem, ↓reduceIte, Int.reduceToNat, Nat.reduceMul, Int.reduceBEq, Int.reduceBNe, Nat.reduceBEq, Nat.reduceAdd, Nat.reduceSub, Nat.reduceLeDiff, Nat.reduceEqDiff, Nat.reduceLT, reduceCtorEq, Aw.retS, Aw.retRg, Aw.kpM, Aw.bkM, Aw.pos, Aw.isBox]
    (refine AWpL.callA [3, 4, 5] (s7 (takD d m) m (hok2.ok.take m) hx) rfl rfl (by rw [hn]; rfl) rfl (fun r hr => .inr (pin r)) fun rg v hv => ?_; obtain ⟨rfl, rfl⟩ := hv; refine ⟨Nat.le_refl _, AWpL.ofM hn rfl ?_⟩)
    simp (config := { maxSteps := 2000000 }) only [go_sem, ↓reduceIte, Int.reduceToNat, Nat.reduceMul, Int.reduceBEq, Int.reduceBNe, Nat.reduceBEq, Nat.reduceAdd, Nat.reduceSub, Nat.reduceLeDiff, Nat.reduceEqDiff, Nat.reduceLT, reduceCtorEq, Aw.retS, Aw.retRg, Aw.kpM, Aw.bkM, Aw.pos, Aw.isBox, e2]
    exact ⟨k - 1, by omega, i + 1, by omega, weak_to [0, 1, 2, 3, 4, 5] hp hnp rfl (by simp (config := { maxSteps := 2000000 }) only [go_sem, ↓reduceIte, Int.reduceToNat, Nat.reduceMul, Int.reduceBEq, Int.reduceBNe, Nat.reduceBEq, Nat.reduceAdd, Nat.reduceSub, Nat.reduceLeDiff, Nat.reduceEqDiff, Nat.reduceLT, reduceCtorEq, Aw.pos]) (by rw [hsi]; simp (config := { maxSteps := 2000000 }) only [go_sem, ↓reduceIte, Int.reduceToNat, Nat.reduceMul, Int.reduceBEq, Int.reduceBNe, Nat.reduceBEq, Nat.reduceAdd, Nat.reduceSub, Nat.reduceLeDiff, Nat.reduceEqDiff, Nat.reduceLT, reduceCtorEq, Aw.renR, Aw.pos, tkR, tkR3])⟩
  have e0 : decide ((i : Int) < (M.length : Int)) = false := decide_eq_false (by omega)
  obtain rfl : i = M.length := by omega
  have hsame : (stT 5 (turnL M c M.length)).ps = (stT 5 M).ps := by
    rcases Nat.eq_zero_or_pos M.length with h0 | h0
    · have : M = [] := List.eq_nil_of_length_eq_zero h0
      subst this; rfl
    · exact stT_same (M := M) (by omega) hreg (turn_mem (hcc h0).2) (fun m => Iff.rfl)
  generalize stT 5 (turnL M c M.length) = d2 at *
  generalize stT 5 M = d1 at *
  simp (config := { maxSteps := 2000000 }) only [go_sem, ↓reduceIte, Int.reduceToNat, Nat.reduceMul, Int.reduceBEq, Int.reduceBNe, Nat.reduceBEq, Nat.reduceAdd, Nat.reduceSub, Nat.reduceLeDiff, Nat.reduceEqDiff, Nat.reduceLT, reduceCtorEq, e0, tkR, tkR3]
  (refine AWpL.calle (s6) rfl (by rw [hn]; rfl) (by simp (config := { maxSteps := 2000000 }) only [go_sem, ↓reduceIte, Int.reduceToNat, Nat.reduceMul, Int.reduceBEq, Int.reduceBNe, Nat.reduceBEq, Nat.reduceAdd, Nat.reduceSub, Nat.reduceLeDiff, Nat.reduceEqDiff, Nat.reduceLT, reduceCtorEq]) (AWpL.ofM hn rfl ?_); simp (config := { maxSteps := 2000000 }) only [go_sem, ↓reduceIte, Int.reduceToNat, Nat.reduceMul, Int.reduceBEq, Int.reduceBNe, Nat.reduceBEq, Nat.reduceAdd, Nat.reduceSub, Nat.reduceLeDiff, Nat.reduceEqDiff, Nat.reduceLT, reduceCtorEq])
  refine AWpL.guardT rfl (AWpL.weak (weak_opt 115 rfl) ?_)
  (refine AWpL.callA [0, 1, 2] (s9 d1 hok.ok.few) rfl rfl (by rw [hn]; rfl) rfl (fun r hr => .inr (pin r)) fun rg v hv => ?_; obtain ⟨rfl, rfl⟩ := hv; refine ⟨Nat.le_refl _, AWpL.ofM hn rfl ?_⟩)
  simp (config := { maxSteps := 2000000 }) only [go_sem, ↓reduceIte, Int.reduceToNat, Nat.reduceMul, Int.reduceBEq, Int.reduceBNe, Nat.reduceBEq, Nat.reduceAdd, Nat.reduceSub, Nat.reduceLeDiff, Nat.reduceEqDiff, Nat.reduceLT, reduceCtorEq, Aw.retS, Aw.retRg, Aw.kpM, Aw.bkM, Aw.pos, Aw.isBox, tkR]
  refine AWpL.guardT rfl (AWpL.weak (weak_opt 117 rfl) ?_)
  (refine AWpL.callA [3, 4, 5] (s9 d2 hok2.ok.few) rfl rfl (by rw [hn]; rfl) rfl (fun r hr => .inr (pin r)) fun rg v hv => ?_; obtain ⟨rfl, rfl⟩ := hv; refine ⟨Nat.le_refl _, AWpL.ofM hn rfl ?_⟩)
  simp (config := { maxSteps := 2000000 }) only [go_sem, ↓reduceIte, Int.reduceToNat, Nat.reduceMul, Int.reduceBEq, Int.reduceBNe, Nat.reduceBEq, Nat.reduceAdd, Nat.reduceSub, Nat.reduceLeDiff, Nat.reduceEqDiff, Nat.reduceLT, reduceCtorEq, Aw.retS, Aw.retRg, Aw.kpM, Aw.bkM, Aw.pos, Aw.isBox, tkR, hsame]
  have h24 := hok.ok.few
  (refine AWpL.gcalle (b := true) rfl (fun _ => (s12 none false none false d1.ps (by omega))) rfl (by rw [hn]; rfl) (fun _ => by simp (config := { maxSteps := 2000000 }) only [go_sem, ↓reduceIte, Int.reduceToNat, Nat.reduceMul, Int.reduceBEq, Int.reduceBNe, Nat.reduceBEq, Nat.reduceAdd, Nat.reduceSub, Nat.reduceLeDiff, Nat.reduceEqDiff, Nat.reduceLT, reduceCtorEq]) (AWpL.ofM hn rfl ?_); simp (config := { maxSteps := 2000000 }) only [go_sem, ↓reduceIte, Int.reduceToNat, Nat.reduceMul, Int.reduceBEq, Int.reduceBNe, Nat.reduceBEq, Nat.reduceAdd, Nat.reduceSub, Nat.reduceLeDiff, Nat.reduceEqDiff, Nat.reduceLT, reduceCtorEq])
end Go.Proofs.Ytfbddidlipeegaa
