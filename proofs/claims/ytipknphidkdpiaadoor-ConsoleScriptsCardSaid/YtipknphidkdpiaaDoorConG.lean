/- The console: the law of scripts. -/
import Derived.Test.YtipknphidkdpiaaDoorAwZl
import Derived.Test.YtipknphidkdpiaaDoorAwZm
import Derived.Test.YtipknphidkdpiaaDoorConF
set_option linter.unusedVariables false
set_option linter.unusedSimpArgs false
namespace Go.Proofs.YtipknphidkdpiaaDoor
open Go.Proofs.YtipknphidkdpiaaDoor.Aw
attribute [local go_sem] Int.natCast_zero Int.natCast_one bne_self_eq_false beq_self_eq_true Bool.not_true Bool.not_false Option.isSome_none Option.isSome_some Aw.bkM_nil Option.getD_some Option.getD_none Nat.sub_zero Int.toNat_zero Aw.frzS Aw.frzT Aw.frzA Aw.frzL Aw.frzR Aw.frzO Aw.frzOL Aw.frzOT Aw.frzOR Aw.killS Aw.mapT Aw.mapR Aw.killM Aw.resAVs Aw.resAV Aw.quietOps Aw.wpP Aw.wpT Aw.wpS Aw.AOp.mild List.getElem?_cons_zero List.getElem?_cons_succ Bool.and_false Bool.and_self Bool.false_and Aw.opOb Aw.gdB Aw.Rnd Aw.subTm List.length_map Int.toNat_natCast and_self Aw.SeqC Aw.stops Aw.Ends Aw.looks Aw.renA Aw.renL Aw.renT Aw.renS Aw.wpO Aw.aop Aw.putTm Aw.St.ev Aw.St.put Aw.St.putO Aw.binAV Aw.intBin Aw.strBin Aw.pickAV Aw.optInt Aw.AV.strip Aw.AV.guard Aw.AV.cells Aw.gdOb Aw.AOp.opds Aw.AOp.still Aw.ptrCells Aw.St.reg Aw.fillAV Aw.fillOb Aw.elsOb Aw.splice Aw.firm Aw.cellish Aw.AV.shut Aw.shutAll Aw.Seq Aw.Blk Aw.retS_nil Aw.mapA Aw.mapL Aw.borA Aw.borOb Aw.allOb Aw.tupOf Aw.params Aw.Opd.of Array.toList Value.cells List.map_cons List.map_nil List.getD_cons_zero List.getD_cons_succ List.getD_nil List.length_cons List.length_nil List.take_succ_cons List.take_zero List.take_nil List.drop_zero List.drop_succ_cons List.drop_nil List.set_cons_zero List.set_cons_succ List.append_nil List.nil_append List.cons_append List.all_cons List.all_nil cond_false cond_true if_true if_false true_and and_true Bool.and_true Bool.true_and Option.map_some Option.map_none false_implies forall_const implies_true forall_eq imp_self Bool.cond_false_right Bool.cond_true_left beq_true beq_false Bool.not_eq_true' Bool.false_eq_true Nat.zero_add Nat.add_zero Aw.eqCells Aw.stopDraw Aw.skipS Aw.exactCap Aw.revealS Aw.srcEls Aw.srcSz
attribute [local go_sem ↓] Aw.look_nil Aw.look_ite Aw.wpL_nil Aw.wpL_op Aw.wpL_gd Aw.wpQ_nil Aw.wpQ_op Aw.wpQ_gd Aw.wpC_draw Aw.wpC_reg Aw.wpC_skip Aw.wpC_ret Aw.wpC_exit Aw.wpC_seq Aw.wpC_block Aw.wpC_loop Aw.wpC_cond Aw.stopAt_nil Aw.stopAt_cons Aw.wpD_skip Aw.wpD_ret Aw.wpD_exit Aw.wpD_region Aw.wpD_draw Aw.wpM_nil Aw.wpM_op Aw.wpM_gd Aw.wpD_seq Aw.wpD_block Aw.wpD_loop Aw.wpD_cond
/- slices.Equal[[]gridhall/api.Event,gridhall/api.Event] -/
def a11 : ACode :=
  (.seq (.region false [] [
     ⟨(some 4), none, (.mov (.v (.bool false)))⟩])
  (.seq (.seq (.region false [] [
     ⟨(some 6), none, (.mov (.t 0))⟩,
     ⟨(some 7), none, (.len (.t 6))⟩,
     ⟨(some 8), none, (.mov (.t 1))⟩,
     ⟨(some 9), none, (.len (.t 8))⟩,
     ⟨(some 10), none, (.bin .neq 3 (.t 7) (.t 9))⟩])
  (.cond (.t 10)
    (.seq (.region false [] [
       ⟨(some 4), none, (.mov (.v (.bool false)))⟩])
    .ret)
    .skip))
  (.seq (.seq (.region false [] [
     ⟨(some 11), none, (.mov (.t 0))⟩,
     ⟨(some 12), none, (.len (.t 11))⟩,
     ⟨(some 13), none, (.mov (.v (.int .i64 0)))⟩])
  (.block 0 (.loop (.seq (.region false [] [
       ⟨(some 14), none, (.bin .lss 3 (.t 13) (.t 12))⟩])
    (.seq (.cond (.t 14)
      .skip
      (.exit 0))
    (.seq (.block 1 (.seq (.region false [] [
        ⟨(some 15), none, (.mov (.t 13))⟩,
        ⟨(some 5), none, (.mov (.t 15))⟩])
     (.seq (.region true [[], [], [0, 1], [2], [], [], [4, 5], [6], [3, 7]] [
        ⟨(some 16), none, (.mov (.t 0))⟩,
        ⟨(some 17), none, (.mov (.t 5))⟩,
        ⟨(some 18), none, (.idx 4 (.t 16) (.t 17))⟩,
        ⟨(some 19), none, (.load 4 true (.t 18))⟩,
        ⟨(some 20), none, (.mov (.t 1))⟩,
        ⟨(some 21), none, (.mov (.t 5))⟩,
        ⟨(some 22), none, (.idx 4 (.t 20) (.t 21))⟩,
        ⟨(some 23), none, (.load 4 true (.t 22))⟩,
        ⟨(some 24), none, (.aeq true [.i, .s, .s, .i] (.t 19) (.t 23))⟩])
     (.cond (.t 24)
       (.seq (.region false [] [
          ⟨(some 4), none, (.mov (.v (.bool false)))⟩])
       .ret)
       .skip))))
    (.region false [] [
       ⟨(some 25), none, (.bin .add 3 (.t 13) (.v (.int .i64 1)))⟩,
       ⟨(some 13), none, (.mov (.t 25))⟩])))))))
  (.seq (.region false [] [
     ⟨(some 4), none, (.mov (.v (.bool true)))⟩])
  .ret))))
theorem k11 : FnIs Tryd.prog 11 26 [.t 4] a11 := ⟨_, _, Tryd.func11, rfl, by kernel_rfl, by kernel_rfl, rfl⟩
/- gridhall/gridhallkeep4.ConsoleScripts -/
def a4 : ACode :=
  (.seq (.region false [] [
     ⟨(some 4), none, (.mov (.v (.bool false)))⟩])
  (.seq (.region false [] [
     ⟨(some 18), none, (.mov (.t 1))⟩,
     ⟨(some 19), none, (.call 9 [(.t 18), (.v (.int .i64 0)), (.v (.int .i64 1000))])⟩,
     ⟨(some 1), none, (.mov (.t 19))⟩])
  (.seq (.region false [] [
     ⟨(some 20), none, (.mov (.t 1))⟩,
     ⟨(some 5), none, (.mov (.v (.string ⟨#[]⟩)))⟩,
     ⟨(some 6), none, (.mov (.t 20))⟩])
  (.seq (.region false [] [
     ⟨(some 7), none, (.mov (.v (.slice none 0 0)))⟩])
  (.seq (.seq (.region false [] [
     ⟨(some 21), none, (.mov (.t 0))⟩,
     ⟨(some 22), none, (.mov (.t 0))⟩,
     ⟨(some 23), none, (.len (.t 22))⟩,
     ⟨(some 24), none, (.mni (.t 23) (.v (.int .i64 10)))⟩,
     ⟨(some 25), none, (.slc 3 (.t 21) none (some (.t 24)) none)⟩,
     ⟨(some 26), none, (.len (.t 25))⟩,
     ⟨(some 27), none, (.mov (.v (.int .i64 0)))⟩])
  (.block 0 (.loop (.seq (.region false [] [
       ⟨(some 28), none, (.bin .lss 3 (.t 27) (.t 26))⟩])
    (.seq (.cond (.t 28)
      .skip
      (.exit 0))
    (.seq (.block 1 (.seq (.region false [] [
        ⟨(some 29), none, (.idx 3 (.t 25) (.t 27))⟩,
        ⟨(some 30), none, (.load 3 true (.t 29))⟩,
        ⟨(some 9), none, (.alloc 23 (.agg #[(.string ⟨#[]⟩), (.string ⟨#[]⟩), (.int .i64 0)]))⟩,
        ⟨none, none, (.store 3 (.t 9) (.t 30))⟩])
     (.seq (.region false [] [
        ⟨(some 32), none, (.load 3 true (.t 9))⟩,
        ⟨(some 33), none, (.call 5 [(.t 32)])⟩,
        ⟨(some 31), none, (.mov (.t 33))⟩,
        ⟨(some 34), none, (.ext 0 (.t 31))⟩,
        ⟨(some 35), none, (.ext 1 (.t 31))⟩,
        ⟨(some 10), none, (.mov (.t 34))⟩,
        ⟨(some 11), none, (.mov (.t 35))⟩])
     (.seq (.seq (.region false [] [
        ⟨(some 36), none, (.mov (.t 11))⟩,
        ⟨(some 37), none, (.bin .neq 24 (.t 36) (.v (.int .i64 0)))⟩])
     (.cond (.t 37)
       (.exit 1)
       .skip))
     (.seq (.region false [] [
        ⟨(some 38), none, (.mov (.t 5))⟩,
        ⟨(some 39), none, (.mov (.t 10))⟩,
        ⟨(some 40), none, (.bin .add 9 (.t 39) (.v (.string ⟨#[10]⟩)))⟩,
        ⟨(some 41), none, (.bin .add 9 (.t 38) (.t 40))⟩,
        ⟨(some 5), none, (.mov (.t 41))⟩])
     (.seq (.region false [] [
        ⟨(some 42), none, (.fld 0 (.t 9))⟩,
        ⟨(some 43), none, (.load 1 false (.t 42))⟩])
     (.block 2 (.seq (.region false [] [
         ⟨(some 56), none, (.bin .eql 9 (.t 43) (.v (.string ⟨#[119, 97, 105, 116]⟩)))⟩,
         ⟨(some 55), none, (.mov (.t 56))⟩])
      (.cond (.t 55)
        (.region false [] [
           ⟨(some 57), none, (.mov (.t 6))⟩,
           ⟨(some 58), none, (.fld 2 (.t 9))⟩,
           ⟨(some 59), none, (.load 1 false (.t 58))⟩,
           ⟨(some 60), none, (.bin .add 3 (.t 57) (.t 59))⟩,
           ⟨(some 6), none, (.mov (.t 60))⟩])
        (.seq (.region false [] [
           ⟨(some 62), none, (.bin .eql 9 (.t 43) (.v (.string ⟨#[116, 101, 108, 108]⟩)))⟩,
           ⟨(some 61), none, (.mov (.t 62))⟩])
        (.cond (.t 61)
          .skip
          (.region false [] [
             ⟨(some 44), none, (.mov (.t 7))⟩,
             ⟨(some 45), none, (.mov (.t 6))⟩,
             ⟨(some 46), none, (.fld 0 (.t 9))⟩,
             ⟨(some 47), none, (.load 1 false (.t 46))⟩,
             ⟨(some 48), none, (.fld 1 (.t 9))⟩,
             ⟨(some 49), none, (.load 1 false (.t 48))⟩,
             ⟨(some 50), none, (.fld 2 (.t 9))⟩,
             ⟨(some 51), none, (.load 1 false (.t 50))⟩,
             ⟨(some 52), none, (.build (.agg #[(.int .i64 0), (.string ⟨#[]⟩), (.string ⟨#[]⟩), (.int .i64 0)]) [(0, (1, (.t 45))), (1, (1, (.t 47))), (2, (1, (.t 49))), (3, (1, (.t 51)))])⟩,
             ⟨(some 53), none, (.bsl 36 4 1 [(0, (.t 52))])⟩,
             ⟨(some 54), none, (.app 36 4 48 (.agg #[(.int .i64 0), (.string ⟨#[]⟩), (.string ⟨#[]⟩), (.int .i64 0)]) (.t 44) (.t 53))⟩,
             ⟨(some 7), none, (.mov (.t 54))⟩]))))))))))))
    (.region false [] [
       ⟨(some 63), none, (.bin .add 3 (.t 27) (.v (.int .i64 1)))⟩,
       ⟨(some 27), none, (.mov (.t 63))⟩])))))))
  (.seq (.region false [] [
     ⟨(some 65), none, (.mov (.t 5))⟩,
     ⟨(some 66), none, (.mov (.t 1))⟩,
     ⟨(some 67), none, (.call 10 [(.t 65), (.t 66)])⟩,
     ⟨(some 64), none, (.mov (.t 67))⟩,
     ⟨(some 68), none, (.ext 0 (.t 64))⟩,
     ⟨(some 69), none, (.ext 1 (.t 64))⟩,
     ⟨(some 70), none, (.ext 2 (.t 64))⟩,
     ⟨(some 12), none, (.mov (.t 68))⟩,
     ⟨(some 13), none, (.mov (.t 69))⟩,
     ⟨(some 14), none, (.mov (.t 70))⟩])
  (.seq (.region false [] [
     ⟨(some 72), none, (.mov (.t 5))⟩,
     ⟨(some 73), none, (.bin .add 9 (.t 72) (.v (.string ⟨#[116, 101, 108, 108]⟩)))⟩,
     ⟨(some 74), none, (.mov (.t 1))⟩,
     ⟨(some 75), none, (.call 10 [(.t 73), (.t 74)])⟩,
     ⟨(some 71), none, (.mov (.t 75))⟩,
     ⟨(some 76), none, (.ext 0 (.t 71))⟩,
     ⟨(some 77), none, (.ext 1 (.t 71))⟩,
     ⟨(some 78), none, (.ext 2 (.t 71))⟩,
     ⟨(some 15), none, (.mov (.t 76))⟩,
     ⟨(some 16), none, (.mov (.t 77))⟩,
     ⟨(some 17), none, (.mov (.t 78))⟩])
  (.seq (.region false [] [
     ⟨(some 79), none, (.call 7 [])⟩,
     ⟨(some 80), none, (.mov (.t 79))⟩,
     ⟨(some 81), (some (80, true)), (.mov (.t 14))⟩,
     ⟨(some 82), (some (80, true)), (.bin .eql 24 (.t 81) (.v (.int .i64 0)))⟩,
     ⟨(some 83), none, (.pick (.t 80) (.t 82) (.v (.bool false)))⟩,
     ⟨(some 84), none, (.mov (.t 83))⟩,
     ⟨(some 85), (some (84, true)), (.mov (.t 13))⟩,
     ⟨(some 86), (some (84, true)), (.bin .eql 3 (.t 85) (.v (.int .i64 0)))⟩,
     ⟨(some 87), none, (.pick (.t 84) (.t 86) (.v (.bool false)))⟩,
     ⟨(some 88), none, (.mov (.t 87))⟩,
     ⟨(some 89), (some (88, true)), (.mov (.t 12))⟩,
     ⟨(some 90), (some (88, true)), (.mov (.t 7))⟩,
     ⟨(some 91), (some (88, true)), (.call 11 [(.t 89), (.t 90)])⟩,
     ⟨(some 92), none, (.pick (.t 88) (.t 91) (.v (.bool false)))⟩,
     ⟨(some 93), none, (.mov (.t 92))⟩,
     ⟨(some 94), (some (93, true)), (.mov (.t 17))⟩,
     ⟨(some 95), (some (93, true)), (.bin .eql 24 (.t 94) (.v (.int .i64 5)))⟩,
     ⟨(some 96), none, (.pick (.t 93) (.t 95) (.v (.bool false)))⟩,
     ⟨(some 97), none, (.mov (.t 96))⟩,
     ⟨(some 98), (some (97, true)), (.mov (.t 16))⟩,
     ⟨(some 99), (some (97, true)), (.mov (.t 5))⟩,
     ⟨(some 100), (some (97, true)), (.call 12 [(.t 99), (.v (.string ⟨#[10]⟩))])⟩,
     ⟨(some 101), (some (97, true)), (.bin .eql 3 (.t 98) (.t 100))⟩,
     ⟨(some 102), none, (.pick (.t 97) (.t 101) (.v (.bool false)))⟩,
     ⟨(some 103), none, (.mov (.t 102))⟩,
     ⟨(some 104), (some (103, true)), (.mov (.t 15))⟩,
     ⟨(some 105), (some (103, true)), (.len (.t 104))⟩,
     ⟨(some 106), (some (103, true)), (.bin .eql 3 (.t 105) (.v (.int .i64 0)))⟩,
     ⟨(some 107), none, (.pick (.t 103) (.t 106) (.v (.bool false)))⟩,
     ⟨(some 4), none, (.mov (.t 107))⟩])
  .ret))))))))
theorem k4 : FnIs Tryd.prog 4 108 [.t 4] a4 := ⟨_, _, Tryd.func4, rfl, by kernel_rfl, by kernel_rfl, rfl⟩


/-- A list is equal to itself. -/
theorem s11 (nl fl nm' fm) (l : List (Ev)) (hl : l.length ≤ 1000) : Aw.Spec Tryd.prog 11 [] [.imm nl fl 4 (l.map ec), .imm nm' fm 4 (l.map ec)] (Gives (· = B true)) := by
  refine Aw.Spec.givesD k11 mixed rfl rfl rfl fun E hn hnp hp => ?_
  unfold a11
  have e9 : ((l.length : Int) != (l.length : Int)) = false := by simp
  simp (config := { maxSteps := 2000000 }) only [go_sem, ↓reduceIte, Int.reduceToNat, Nat.reduceMul, Int.reduceBEq, Int.reduceBNe, Nat.reduceBEq, Nat.reduceAdd, Nat.reduceSub, Nat.reduceLeDiff, Nat.reduceEqDiff, Nat.reduceLT, reduceCtorEq, e9]
  refine AWp.loop (fun k s => ∃ i : Nat, i + k = l.length ∧ Weak E s ⟨[(0, .imm nl fl 4 (l.map ec)), (1, .imm nm' fm 4 (l.map ec)), (12, I l.length), (13, I i)], []⟩) (n := l.length)
    ⟨0, by omega, weak_to [] hp hnp rfl (by simp (config := { maxSteps := 2000000 }) only [go_sem, ↓reduceIte, Int.reduceToNat, Nat.reduceMul, Int.reduceBEq, Int.reduceBNe, Nat.reduceBEq, Nat.reduceAdd, Nat.reduceSub, Nat.reduceLeDiff, Nat.reduceEqDiff, Nat.reduceLT, reduceCtorEq, Int.natCast_zero]) rfl⟩ ?_
  rintro k s ⟨i, hi, hw⟩
  refine AWp.weak hw (AWp.ofD [] [] hn mixed rfl ?_)
  rcases Nat.lt_or_ge i l.length with hlt | hge
  · have e0 : decide ((i : Int) < (l.length : Int)) = true := by simp; omega
    have e1 := getD_map ec hlt
    have e2 : IntKind.i64.wrap ((i : Int) + 1) = ((i + 1 : Nat) : Int) := by rw [w64 (by omega) (by omega)]; omega
    simp (config := { maxSteps := 2000000 }) only [go_sem, ↓reduceIte, Int.reduceToNat, Nat.reduceMul, Int.reduceBEq, Int.reduceBNe, Nat.reduceBEq, Nat.reduceAdd, Nat.reduceSub, Nat.reduceLeDiff, Nat.reduceEqDiff, Nat.reduceLT, reduceCtorEq, e0, e1, e2]
    (repeat (refine And.intro (by first | omega | (refine ⟨by omega, by omega⟩) | (refine ⟨by omega, by omega, by omega⟩) | (simp only [List.length_map, List.length_range, List.length_append, List.length_cons, List.length_nil, List.length_replicate, List.length_set]; omega) | (simp; omega) | (intro hgd; cases hgd) | (intro hgd; refine ⟨hgd, ?_⟩; first | omega | (refine ⟨by omega, by omega⟩) | (simp; omega))) ?_))
    exact ⟨k - 1, by omega, i + 1, by omega, weak_to [] hp hnp rfl (by simp (config := { maxSteps := 2000000 }) only [go_sem, ↓reduceIte, Int.reduceToNat, Nat.reduceMul, Int.reduceBEq, Int.reduceBNe, Nat.reduceBEq, Nat.reduceAdd, Nat.reduceSub, Nat.reduceLeDiff, Nat.reduceEqDiff, Nat.reduceLT, reduceCtorEq]) rfl⟩
  · have e0 : decide ((i : Int) < (l.length : Int)) = false := by simp; omega
    simp (config := { maxSteps := 2000000 }) only [go_sem, ↓reduceIte, Int.reduceToNat, Nat.reduceMul, Int.reduceBEq, Int.reduceBNe, Nat.reduceBEq, Nat.reduceAdd, Nat.reduceSub, Nat.reduceLeDiff, Nat.reduceEqDiff, Nat.reduceLT, reduceCtorEq, e0]

theorem cut_map {α β : Type} (f : α → β) (l : List α) (k : Nat) : List.take (min (l.length : Int) k).toNat (l.map f) = (l.take k).map f := by
  rw [List.map_take]
  rcases Nat.lt_or_ge l.length k with h | h
  · rw [List.take_of_length_le (by rw [List.length_map]; omega), List.take_of_length_le (by rw [List.length_map]; omega)]
  · rw [show (min (l.length : Int) k).toNat = k by omega]
def okC (c : Cmd) : Bool := decide (checkF c = 0)
def F (v : List Cmd) (i : Nat) : List Cmd := (v.take i).filter okC
theorem F_yes {v : List Cmd} {i : Nat} (h : i < v.length) (hc : checkF v[i] = 0) : F v (i + 1) = F v i ++ [v[i]] := by
  unfold F
  rw [take_get h, List.filter_append]
  congr 1
  rw [List.filter_cons_of_pos (by unfold okC; exact decide_eq_true hc)]; rfl
theorem F_no {v : List Cmd} {i : Nat} (h : i < v.length) (hc : checkF v[i] ≠ 0) : F v (i + 1) = F v i := by
  unfold F
  rw [take_get h, List.filter_append, List.filter_cons_of_neg (by unfold okC; rw [decide_eq_false hc]; decide)]
  exact List.append_nil _
theorem F_ok {v : List Cmd} {i : Nat} : ∀ c ∈ F v i, checkF c = 0 := fun c hc => by
  have := (List.mem_filter.1 hc).2
  exact of_decide_eq_true this
theorem F_len {v : List Cmd} {i : Nat} : (F v i).length ≤ i := Nat.le_trans (List.length_filter_le _ _) (by rw [List.length_take]; omega)
theorem evs_snoc (t0 : Int) (L : List Cmd) (c : Cmd) : evsF t0 (L ++ [c]) = stepS (evsF t0 L) c := by
  unfold evsF
  rw [List.foldl_append]; rfl
theorem evs_all (t0 : Int) {L : List Cmd} (h : ∀ c ∈ L, checkF c = 0) : (evsF t0 L).1.length ≤ L.length ∧ t0 ≤ (evsF t0 L).2 ∧ (evsF t0 L).2 ≤ t0 + 3600 * (L.length : Int) := by
  have := evs_bound t0 h L.length (Nat.le_refl _)
  rw [List.take_length] at this
  exact this
set_option maxRecDepth 20000 in
set_option maxHeartbeats 1000000 in
theorem s4 {Γ : List (Nat × Array Value)} {e1 e2 : Value} (hP : powT ∈ Γ) (hE : Errs Γ e1 e2) (nl' fl) (l : List Cmd) (n : Int) (hs : ∀ c ∈ l, c.name.size ≤ 9223372036854775807) (hl : l.length ≤ 9223372036854775807) :
    Aw.SpecG Γ Tryd.prog 4 [] [.imm nl' fl 3 (l.map cc), I n] (Gives (· = B true)) := by
  refine SpecG.shut (Post := fun rg v => v = B true) ?_ fun rg v h => by subst h; exact ⟨rfl, rfl, rfl⟩
  refine Aw.SpecG.regsW k4 rfl rfl fun E hn hnp hp hT => ?_
  unfold a4
  have pin : ∀ r, E.pin r = none := fun r => hp.none hnp (Nat.zero_le _)
  refine AWp.ofD [0, 999] [] hn mixed rfl ?_
  simp (config := { maxSteps := 2000000 }) only [go_sem, ↓reduceIte, Int.reduceToNat, Nat.reduceMul, Int.reduceBEq, Int.reduceBNe, Nat.reduceBEq, Nat.reduceAdd, Nat.reduceSub, Nat.reduceLeDiff, Nat.reduceEqDiff, Nat.reduceLT, reduceCtorEq]
  (refine AWpL.calle (s9 n 0 1000 (by decide) (by decide) (by decide)) rfl (by rw [hn]; rfl) (by simp (config := { maxSteps := 2000000 }) only [go_sem, ↓reduceIte, Int.reduceToNat, Nat.reduceMul, Int.reduceBEq, Int.reduceBNe, Nat.reduceBEq, Nat.reduceAdd, Nat.reduceSub, Nat.reduceLeDiff, Nat.reduceEqDiff, Nat.reduceLT, reduceCtorEq]) (AWpL.ofM hn rfl ?_); simp (config := { maxSteps := 2000000 }) only [go_sem, ↓reduceIte, Int.reduceToNat, Nat.reduceMul, Int.reduceBEq, Int.reduceBNe, Nat.reduceBEq, Nat.reduceAdd, Nat.reduceSub, Nat.reduceLeDiff, Nat.reduceEqDiff, Nat.reduceLT, reduceCtorEq])
  have hcr := cut_range n 0 1000 (by decide)
  generalize cut n 0 1000 = t0 at *
  have hcut : List.take (min (l.length : Int) 10).toNat (l.map cc) = (l.take 10).map cc := cut_map cc l 10
  have hv10 : (l.take 10).length ≤ 10 := by rw [List.length_take]; omega
  have hsv : ∀ c ∈ l.take 10, c.name.size ≤ 9223372036854775807 := fun c hc => hs c (List.mem_of_mem_take hc)
  simp (config := { maxSteps := 2000000 }) only [go_sem, ↓reduceIte, Int.reduceToNat, Nat.reduceMul, Int.reduceBEq, Int.reduceBNe, Nat.reduceBEq, Nat.reduceAdd, Nat.reduceSub, Nat.reduceLeDiff, Nat.reduceEqDiff, Nat.reduceLT, reduceCtorEq, hcut]
  generalize l.take 10 = v at *
  refine ⟨⟨by omega, by omega, by omega⟩, ?_⟩
  refine AWp.weak (weak_nil 7 36 4 rfl) ?_
  simp (config := { maxSteps := 2000000 }) only [go_sem, ↓reduceIte, Int.reduceToNat, Nat.reduceMul, Int.reduceBEq, Int.reduceBNe, Nat.reduceBEq, Nat.reduceAdd, Nat.reduceSub, Nat.reduceLeDiff, Nat.reduceEqDiff, Nat.reduceLT, reduceCtorEq]
  refine AWp.cut ⟨[(1, I t0), (5, S (linesR (F v v.length))), (7, .hnd 0 0 (evsF t0 (F v v.length)).1.length (evsF t0 (F v v.length)).1.length false)], [.arr 36 4 ((evsF t0 (F v v.length)).1.map ec)]⟩ (AWp.block ?_) ?_
  · refine AWp.loop (fun k st => ∃ i : Nat, i + k = v.length ∧
        Weak E st ⟨[(1, I t0), (5, S (linesR (F v i))), (6, I (evsF t0 (F v i)).2), (7, .hnd 0 0 (evsF t0 (F v i)).1.length (evsF t0 (F v i)).1.length false), (25, .imm nl' false 3 (v.map cc)), (26, I v.length), (27, I i)], [.arr 36 4 ((evsF t0 (F v i)).1.map ec)]⟩) (n := v.length)
      ⟨0, by omega, weak_to [0] hp hnp rfl (by simp (config := { maxSteps := 2000000 }) only [go_sem, ↓reduceIte, Int.reduceToNat, Nat.reduceMul, Int.reduceBEq, Int.reduceBNe, Nat.reduceBEq, Nat.reduceAdd, Nat.reduceSub, Nat.reduceLeDiff, Nat.reduceEqDiff, Nat.reduceLT, reduceCtorEq, Aw.pos] <;> exact ⟨rfl, rfl, rfl⟩) (by simp (config := { maxSteps := 2000000 }) only [go_sem, ↓reduceIte, Int.reduceToNat, Nat.reduceMul, Int.reduceBEq, Int.reduceBNe, Nat.reduceBEq, Nat.reduceAdd, Nat.reduceSub, Nat.reduceLeDiff, Nat.reduceEqDiff, Nat.reduceLT, reduceCtorEq, Aw.renR, Aw.pos] <;> rfl)⟩ ?_
    rintro k st ⟨i, hik, hw⟩
    refine AWp.weak hw (AWp.ofD [999] [] hn mixed rfl ?_)
    rcases Nat.lt_or_ge i v.length with hlt | hge
    · have d0 : decide ((i : Int) < (v.length : Int)) = true := decide_eq_true (by omega)
      have d1 := getD_map cc hlt
      have d2 : IntKind.i64.wrap ((i : Int) + 1) = ((i + 1 : Nat) : Int) := by rw [w64 (by omega) (by omega)]; rfl
      have hyes := F_yes hlt
      have hno := F_no hlt
      have hcs := hsv v[i] (List.getElem_mem hlt)
      have hFok := F_ok (v := v) (i := i)
      have hFl := F_len (v := v) (i := i)
      obtain ⟨b1, b2, b3⟩ := evs_all t0 hFok
      have hlz := lines_size hFok
      generalize hF' : F v (i + 1) = F' at *
      generalize F v i = Fi at *
      generalize v[i] = c at *
      simp (config := { maxSteps := 2000000 }) only [go_sem, ↓reduceIte, Int.reduceToNat, Nat.reduceMul, Int.reduceBEq, Int.reduceBNe, Nat.reduceBEq, Nat.reduceAdd, Nat.reduceSub, Nat.reduceLeDiff, Nat.reduceEqDiff, Nat.reduceLT, reduceCtorEq, d0, d1]
      refine ⟨⟨by omega, by omega⟩, ?_⟩
      refine AWpL.calleT (SpecG.at (s5 hP c hcs) hT) rfl (by rw [hn]; rfl) (by simp (config := { maxSteps := 2000000 }) only [go_sem, ↓reduceIte, Int.reduceToNat, Nat.reduceMul, Int.reduceBEq, Int.reduceBNe, Nat.reduceBEq, Nat.reduceAdd, Nat.reduceSub, Nat.reduceLeDiff, Nat.reduceEqDiff, Nat.reduceLT, reduceCtorEq]) (AWpL.ofM hn rfl ?_)
      by_cases hck : checkF c = 0
      · have hyes := hyes hck
        subst hyes
        have hpf : printF c = (txtC c, 0) := by unfold printF; rw [if_pos hck]; rfl
        have htz := text_size hck
        have hsn := lines_snoc Fi c
        have hX' := evs_snoc t0 Fi c
        have hwn := wait_n hck
        have htz : (txtC c).size ≤ 100 := htz
        rw [hpf]
        generalize txtC c = tx at *
        generalize hXX : evsF t0 (Fi ++ [c]) = X' at *
        generalize evsF t0 Fi = X at *
        obtain ⟨xs, tm⟩ := X
        dsimp only at b1 b2 b3 hX' ⊢
        generalize hLL : linesR (Fi ++ [c]) = LL at *
        generalize linesR Fi = LF at *
        subst hsn
        unfold stepS at hX'
        have z1 : (⟨#[10]⟩ : ByteArray).size = 1 := rfl
        have z2 : (#[10] : Array UInt8).size = 1 := rfl
        by_cases hwt : (c.verb.toList == waitB.toList) = true
        · rw [if_pos hwt] at hX'
          obtain ⟨n1, n2⟩ := hwn hwt
          subst hX'
          unfold waitB at hwt
          have d3 : IntKind.i64.wrap (tm + c.n) = tm + c.n := w64 (by omega) (by omega)
          simp (config := { maxSteps := 2000000 }) only [go_sem, ↓reduceIte, Int.reduceToNat, Nat.reduceMul, Int.reduceBEq, Int.reduceBNe, Nat.reduceBEq, Nat.reduceAdd, Nat.reduceSub, Nat.reduceLeDiff, Nat.reduceEqDiff, Nat.reduceLT, reduceCtorEq, hwt, d2, d3]
          refine ⟨by omega, by omega, k - 1, by omega, i + 1, by omega, ?_⟩
          rw [hF', hXX, hLL]
          exact weak_to [0] hp hnp rfl (by simp (config := { maxSteps := 2000000 }) only [go_sem, ↓reduceIte, Int.reduceToNat, Nat.reduceMul, Int.reduceBEq, Int.reduceBNe, Nat.reduceBEq, Nat.reduceAdd, Nat.reduceSub, Nat.reduceLeDiff, Nat.reduceEqDiff, Nat.reduceLT, reduceCtorEq, Aw.pos] <;> rfl) (by simp (config := { maxSteps := 2000000 }) only [go_sem, ↓reduceIte, Int.reduceToNat, Nat.reduceMul, Int.reduceBEq, Int.reduceBNe, Nat.reduceBEq, Nat.reduceAdd, Nat.reduceSub, Nat.reduceLeDiff, Nat.reduceEqDiff, Nat.reduceLT, reduceCtorEq, Aw.renR, Aw.pos] <;> rfl)
        · rw [if_neg hwt] at hX'
          have hwt : (c.verb.toList == waitB.toList) = false := by simpa using hwt
          by_cases htl : (c.verb.toList == tellB.toList) = true
          · rw [if_pos htl] at hX'
            subst hX'
            unfold waitB at hwt
            unfold tellB at htl
            simp (config := { maxSteps := 2000000 }) only [go_sem, ↓reduceIte, Int.reduceToNat, Nat.reduceMul, Int.reduceBEq, Int.reduceBNe, Nat.reduceBEq, Nat.reduceAdd, Nat.reduceSub, Nat.reduceLeDiff, Nat.reduceEqDiff, Nat.reduceLT, reduceCtorEq, hwt, htl, d2]
            refine ⟨by omega, by omega, k - 1, by omega, i + 1, by omega, ?_⟩
            rw [hF', hXX, hLL]
            exact weak_to [0] hp hnp rfl (by simp (config := { maxSteps := 2000000 }) only [go_sem, ↓reduceIte, Int.reduceToNat, Nat.reduceMul, Int.reduceBEq, Int.reduceBNe, Nat.reduceBEq, Nat.reduceAdd, Nat.reduceSub, Nat.reduceLeDiff, Nat.reduceEqDiff, Nat.reduceLT, reduceCtorEq, Aw.pos] <;> rfl) (by simp (config := { maxSteps := 2000000 }) only [go_sem, ↓reduceIte, Int.reduceToNat, Nat.reduceMul, Int.reduceBEq, Int.reduceBNe, Nat.reduceBEq, Nat.reduceAdd, Nat.reduceSub, Nat.reduceLeDiff, Nat.reduceEqDiff, Nat.reduceLT, reduceCtorEq, Aw.renR, Aw.pos] <;> rfl)
          · rw [if_neg htl] at hX'
            subst hX'
            have htl : (c.verb.toList == tellB.toList) = false := by simpa using htl
            unfold waitB at hwt
            unfold tellB at htl
            simp (config := { maxSteps := 2000000 }) only [go_sem, ↓reduceIte, Int.reduceToNat, Nat.reduceMul, Int.reduceBEq, Int.reduceBNe, Nat.reduceBEq, Nat.reduceAdd, Nat.reduceSub, Nat.reduceLeDiff, Nat.reduceEqDiff, Nat.reduceLT, reduceCtorEq, hwt, htl, d2]
            refine ⟨by omega, by omega, ?_⟩
            have hap : xs.map ec ++ [[I tm, S c.verb, S c.name, I c.n]] = (xs ++ [(⟨tm, c.verb, c.name, c.n⟩ : Ev)]).map ec := by rw [List.map_append]; rfl
            have hll : (xs ++ [(⟨tm, c.verb, c.name, c.n⟩ : Ev)]).length = xs.length + 1 := by rw [List.length_append]; rfl
            refine AWpL.app (r := 0) (els := xs.map ec) (ys := [[I tm, S c.verb, S c.name, I c.n]]) rfl rfl rfl rfl (by rw [hn]; rfl) (by rw [List.length_map]) (pin 0) (by simp (config := { maxSteps := 2000000 }) only [go_sem, ↓reduceIte, Int.reduceToNat, Nat.reduceMul, Int.reduceBEq, Int.reduceBNe, Nat.reduceBEq, Nat.reduceAdd, Nat.reduceSub, Nat.reduceLeDiff, Nat.reduceEqDiff, Nat.reduceLT, reduceCtorEq, Nat.le_refl]) (fun el hm y hy => by
              rw [List.mem_singleton.1 hm] at hy
              simp only [List.mem_cons, List.not_mem_nil, or_false] at hy
              rcases hy with rfl | rfl | rfl | rfl <;> rfl) (by simp only [List.length_cons, List.length_nil]; omega) (by simp only [List.length_cons, List.length_nil]; omega) (AWpL.ofM hn rfl ?_)
            simp (config := { maxSteps := 2000000 }) only [go_sem, ↓reduceIte, Int.reduceToNat, Nat.reduceMul, Int.reduceBEq, Int.reduceBNe, Nat.reduceBEq, Nat.reduceAdd, Nat.reduceSub, Nat.reduceLeDiff, Nat.reduceEqDiff, Nat.reduceLT, reduceCtorEq, hap, d2]
            refine ⟨k - 1, by omega, i + 1, by omega, ?_⟩
            rw [hF', hXX, hLL]
            exact weak_to [0] hp hnp rfl (by simp (config := { maxSteps := 2000000 }) only [go_sem, ↓reduceIte, Int.reduceToNat, Nat.reduceMul, Int.reduceBEq, Int.reduceBNe, Nat.reduceBEq, Nat.reduceAdd, Nat.reduceSub, Nat.reduceLeDiff, Nat.reduceEqDiff, Nat.reduceLT, reduceCtorEq, Aw.pos, hll] <;> rfl) (by simp (config := { maxSteps := 2000000 }) only [go_sem, ↓reduceIte, Int.reduceToNat, Nat.reduceMul, Int.reduceBEq, Int.reduceBNe, Nat.reduceBEq, Nat.reduceAdd, Nat.reduceSub, Nat.reduceLeDiff, Nat.reduceEqDiff, Nat.reduceLT, reduceCtorEq, Aw.renR, Aw.pos] <;> rfl)
      · have hno := hno hck
        subst hno
        have hpf : printF c = (⟨#[]⟩, checkF c) := by unfold printF; rw [if_neg hck]
        have hne0 : (checkF c != 0) = true := by rw [bne_iff_ne]; exact hck
        rw [hpf]
        simp (config := { maxSteps := 2000000 }) only [go_sem, ↓reduceIte, Int.reduceToNat, Nat.reduceMul, Int.reduceBEq, Int.reduceBNe, Nat.reduceBEq, Nat.reduceAdd, Nat.reduceSub, Nat.reduceLeDiff, Nat.reduceEqDiff, Nat.reduceLT, reduceCtorEq, hne0, d2]
        refine ⟨k - 1, by omega, i + 1, by omega, ?_⟩
        rw [hF']
        exact weak_to [0] hp hnp rfl (by simp (config := { maxSteps := 2000000 }) only [go_sem, ↓reduceIte, Int.reduceToNat, Nat.reduceMul, Int.reduceBEq, Int.reduceBNe, Nat.reduceBEq, Nat.reduceAdd, Nat.reduceSub, Nat.reduceLeDiff, Nat.reduceEqDiff, Nat.reduceLT, reduceCtorEq, Aw.pos] <;> rfl) (by simp (config := { maxSteps := 2000000 }) only [go_sem, ↓reduceIte, Int.reduceToNat, Nat.reduceMul, Int.reduceBEq, Int.reduceBNe, Nat.reduceBEq, Nat.reduceAdd, Nat.reduceSub, Nat.reduceLeDiff, Nat.reduceEqDiff, Nat.reduceLT, reduceCtorEq, Aw.renR, Aw.pos] <;> rfl)
    · have d0 : decide ((i : Int) < (v.length : Int)) = false := decide_eq_false (by omega)
      have hii : i = v.length := by omega
      subst hii
      simp (config := { maxSteps := 2000000 }) only [go_sem, ↓reduceIte, Int.reduceToNat, Nat.reduceMul, Int.reduceBEq, Int.reduceBNe, Nat.reduceBEq, Nat.reduceAdd, Nat.reduceSub, Nat.reduceLeDiff, Nat.reduceEqDiff, Nat.reduceLT, reduceCtorEq, d0]
      exact weak_to [0] hp hnp rfl (by simp (config := { maxSteps := 2000000 }) only [go_sem, ↓reduceIte, Int.reduceToNat, Nat.reduceMul, Int.reduceBEq, Int.reduceBNe, Nat.reduceBEq, Nat.reduceAdd, Nat.reduceSub, Nat.reduceLeDiff, Nat.reduceEqDiff, Nat.reduceLT, reduceCtorEq, Aw.pos] <;> rfl) (by simp (config := { maxSteps := 2000000 }) only [go_sem, ↓reduceIte, Int.reduceToNat, Nat.reduceMul, Int.reduceBEq, Int.reduceBNe, Nat.reduceBEq, Nat.reduceAdd, Nat.reduceSub, Nat.reduceLeDiff, Nat.reduceEqDiff, Nat.reduceLT, reduceCtorEq, Aw.renR, Aw.pos] <;> rfl)
  · simp (config := { maxSteps := 2000000 }) only [go_sem, ↓reduceIte, Int.reduceToNat, Nat.reduceMul, Int.reduceBEq, Int.reduceBNe, Nat.reduceBEq, Nat.reduceAdd, Nat.reduceSub, Nat.reduceLeDiff, Nat.reduceEqDiff, Nat.reduceLT, reduceCtorEq]
    have hFok := F_ok (v := v) (i := v.length)
    have hFl := F_len (v := v) (i := v.length)
    obtain ⟨b1, b2, b3⟩ := evs_all t0 hFok
    have hlz := lines_size hFok
    have hlc := lines_count hFok
    generalize F v v.length = L at *
    have hsc := s10 (Γ := Γ) hP hE L hFok (by omega) t0 (by omega) (by omega)
    have hsb := b10 (Γ := Γ) L hFok (by omega) t0 (by omega) (by omega)
    generalize (evsF t0 L).1 = X at *
    generalize linesR L = T at *
    have htk : (X.map ec).take X.length = X.map ec := List.take_of_length_le (by rw [List.length_map]; exact Nat.le_refl _)
    refine AWpL.weak (weak_freeze 0 rfl (pin 0) (by simp (config := { maxSteps := 2000000 }) only [go_sem, ↓reduceIte, Int.reduceToNat, Nat.reduceMul, Int.reduceBEq, Int.reduceBNe, Nat.reduceBEq, Nat.reduceAdd, Nat.reduceSub, Nat.reduceLeDiff, Nat.reduceEqDiff, Nat.reduceLT, reduceCtorEq, Nat.le_refl, List.length_map])) ?_
    simp (config := { maxSteps := 2000000 }) only [go_sem, ↓reduceIte, Int.reduceToNat, Nat.reduceMul, Int.reduceBEq, Int.reduceBNe, Nat.reduceBEq, Nat.reduceAdd, Nat.reduceSub, Nat.reduceLeDiff, Nat.reduceEqDiff, Nat.reduceLT, reduceCtorEq, htk]
    refine AWpL.callAT [] (SpecG.at hsc hT) rfl rfl (by rw [hn]; rfl) rfl (fun r hr => by cases hr) fun rg v' hv => ?_
    obtain ⟨rfl, rfl⟩ := hv
    refine ⟨Nat.zero_le _, ?_⟩
    rw [retS_nil]
    refine AWpL.ofM hn rfl ?_
    unfold tellB at hsb
    simp (config := { maxSteps := 2000000 }) only [go_sem, ↓reduceIte, Int.reduceToNat, Nat.reduceMul, Int.reduceBEq, Int.reduceBNe, Nat.reduceBEq, Nat.reduceAdd, Nat.reduceSub, Nat.reduceLeDiff, Nat.reduceEqDiff, Nat.reduceLT, reduceCtorEq]
    have z4 : (#[116, 101, 108, 108] : Array UInt8).size = 4 := rfl
    refine ⟨by omega, ?_⟩
    refine AWpL.calleT (SpecG.at hsb hT) rfl (by rw [hn]; rfl) (by simp (config := { maxSteps := 2000000 }) only [go_sem, ↓reduceIte, Int.reduceToNat, Nat.reduceMul, Int.reduceBEq, Int.reduceBNe, Nat.reduceBEq, Nat.reduceAdd, Nat.reduceSub, Nat.reduceLeDiff, Nat.reduceEqDiff, Nat.reduceLT, reduceCtorEq]) (AWpL.ofM hn rfl ?_)
    simp (config := { maxSteps := 2000000 }) only [go_sem, ↓reduceIte, Int.reduceToNat, Nat.reduceMul, Int.reduceBEq, Int.reduceBNe, Nat.reduceBEq, Nat.reduceAdd, Nat.reduceSub, Nat.reduceLeDiff, Nat.reduceEqDiff, Nat.reduceLT, reduceCtorEq]
    (refine AWpL.calleT (SpecG.at (s7 hP hE) hT) rfl (by rw [hn]; rfl) (by simp (config := { maxSteps := 2000000 }) only [go_sem, ↓reduceIte, Int.reduceToNat, Nat.reduceMul, Int.reduceBEq, Int.reduceBNe, Nat.reduceBEq, Nat.reduceAdd, Nat.reduceSub, Nat.reduceLeDiff, Nat.reduceEqDiff, Nat.reduceLT, reduceCtorEq]) (AWpL.ofM hn rfl ?_); simp (config := { maxSteps := 2000000 }) only [go_sem, ↓reduceIte, Int.reduceToNat, Nat.reduceMul, Int.reduceBEq, Int.reduceBNe, Nat.reduceBEq, Nat.reduceAdd, Nat.reduceSub, Nat.reduceLeDiff, Nat.reduceEqDiff, Nat.reduceLT, reduceCtorEq])
    refine AWpL.gcalle (y := B true) rfl (fun _ => by simp (config := { maxSteps := 2000000 }) only [go_sem, ↓reduceIte, Int.reduceToNat, Nat.reduceMul, Int.reduceBEq, Int.reduceBNe, Nat.reduceBEq, Nat.reduceAdd, Nat.reduceSub, Nat.reduceLeDiff, Nat.reduceEqDiff, Nat.reduceLT, reduceCtorEq]; exact s11 none false none false X (by omega)) rfl (by rw [hn]; rfl) (fun _ => by simp (config := { maxSteps := 2000000 }) only [go_sem, ↓reduceIte, Int.reduceToNat, Nat.reduceMul, Int.reduceBEq, Int.reduceBNe, Nat.reduceBEq, Nat.reduceAdd, Nat.reduceSub, Nat.reduceLeDiff, Nat.reduceEqDiff, Nat.reduceLT, reduceCtorEq]) (AWpL.ofM hn rfl ?_)
    simp (config := { maxSteps := 2000000 }) only [go_sem, ↓reduceIte, Int.reduceToNat, Nat.reduceMul, Int.reduceBEq, Int.reduceBNe, Nat.reduceBEq, Nat.reduceAdd, Nat.reduceSub, Nat.reduceLeDiff, Nat.reduceEqDiff, Nat.reduceLT, reduceCtorEq]
    have hcn := s12 T 10
    rw [hlc] at hcn
    refine AWpL.gcalle (y := I L.length) rfl (fun _ => by simp (config := { maxSteps := 2000000 }) only [go_sem, ↓reduceIte, Int.reduceToNat, Nat.reduceMul, Int.reduceBEq, Int.reduceBNe, Nat.reduceBEq, Nat.reduceAdd, Nat.reduceSub, Nat.reduceLeDiff, Nat.reduceEqDiff, Nat.reduceLT, reduceCtorEq]; exact hcn) rfl (by rw [hn]; rfl) (fun _ => by simp (config := { maxSteps := 2000000 }) only [go_sem, ↓reduceIte, Int.reduceToNat, Nat.reduceMul, Int.reduceBEq, Int.reduceBNe, Nat.reduceBEq, Nat.reduceAdd, Nat.reduceSub, Nat.reduceLeDiff, Nat.reduceEqDiff, Nat.reduceLT, reduceCtorEq]) (AWpL.ofM hn rfl ?_)
    simp (config := { maxSteps := 2000000 }) only [go_sem, ↓reduceIte, Int.reduceToNat, Nat.reduceMul, Int.reduceBEq, Int.reduceBNe, Nat.reduceBEq, Nat.reduceAdd, Nat.reduceSub, Nat.reduceLeDiff, Nat.reduceEqDiff, Nat.reduceLT, reduceCtorEq, beq_self_eq_true]
    refine Retn.ret (π := []) hp hnp ⟨rfl, ?_⟩
    simp (config := { maxSteps := 2000000 }) only [go_sem, ↓reduceIte, Int.reduceToNat, Nat.reduceMul, Int.reduceBEq, Int.reduceBNe, Nat.reduceBEq, Nat.reduceAdd, Nat.reduceSub, Nat.reduceLeDiff, Nat.reduceEqDiff, Nat.reduceLT, reduceCtorEq, Aw.renR, Aw.pos]
end Go.Proofs.YtipknphidkdpiaaDoor
