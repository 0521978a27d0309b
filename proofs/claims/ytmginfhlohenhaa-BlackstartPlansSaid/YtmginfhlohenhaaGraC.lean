/- Graphs: Parts. -/
import Derived.Test.YtmginfhlohenhaaAwZk
import Derived.Test.YtmginfhlohenhaaGraB
set_option linter.unusedVariables false
set_option linter.unusedSimpArgs false
namespace Go.Proofs.Ytmginfhlohenhaa
open Go.Proofs.Ytmginfhlohenhaa.Aw
attribute [local go_sem] Int.natCast_zero Int.natCast_one bne_self_eq_false beq_self_eq_true Bool.not_true Bool.not_false Option.isSome_none Option.isSome_some Aw.bkM_nil Option.getD_some Option.getD_none Nat.sub_zero Int.toNat_zero Aw.frzS Aw.frzT Aw.frzA Aw.frzL Aw.frzR Aw.frzO Aw.frzOL Aw.frzOT Aw.frzOR Aw.killS Aw.mapT Aw.mapR Aw.killM Aw.resAVs Aw.resAV Aw.quietOps Aw.wpP Aw.wpT Aw.wpS Aw.AOp.mild List.getElem?_cons_zero List.getElem?_cons_succ Bool.and_false Bool.and_self Bool.false_and Aw.opOb Aw.gdB Aw.Rnd Aw.subTm List.length_map Int.toNat_natCast and_self Aw.SeqC Aw.stops Aw.Ends Aw.looks Aw.renA Aw.renL Aw.renT Aw.renS Aw.wpO Aw.aop Aw.putTm Aw.St.ev Aw.St.put Aw.St.putO Aw.binAV Aw.intBin Aw.strBin Aw.pickAV Aw.optInt Aw.AV.strip Aw.AV.guard Aw.AV.cells Aw.gdOb Aw.AOp.opds Aw.AOp.still Aw.ptrCells Aw.St.reg Aw.fillAV Aw.fillOb Aw.elsOb Aw.splice Aw.firm Aw.cellish Aw.AV.shut Aw.shutAll Aw.Seq Aw.Blk Aw.retS_nil Aw.mapA Aw.mapL Aw.borA Aw.borOb Aw.allOb Aw.tupOf Aw.params Aw.Opd.of Array.toList Value.cells List.map_cons List.map_nil List.getD_cons_zero List.getD_cons_succ List.getD_nil List.length_cons List.length_nil List.take_succ_cons List.take_zero List.take_nil List.drop_zero List.drop_succ_cons List.drop_nil List.set_cons_zero List.set_cons_succ List.append_nil List.nil_append List.cons_append List.all_cons List.all_nil cond_false cond_true if_true if_false true_and and_true Bool.and_true Bool.true_and Option.map_some Option.map_none false_implies forall_const implies_true forall_eq imp_self Bool.cond_false_right Bool.cond_true_left beq_true beq_false Bool.not_eq_true' Bool.false_eq_true Nat.zero_add Nat.add_zero Aw.eqCells Aw.stopDraw Aw.skipS Aw.exactCap Aw.revealS Aw.srcEls Aw.srcSz
attribute [local go_sem ↓] Aw.look_nil Aw.look_ite Aw.wpL_nil Aw.wpL_op Aw.wpL_gd Aw.wpQ_nil Aw.wpQ_op Aw.wpQ_gd Aw.wpC_draw Aw.wpC_reg Aw.wpC_skip Aw.wpC_ret Aw.wpC_exit Aw.wpC_seq Aw.wpC_block Aw.wpC_loop Aw.wpC_cond Aw.stopAt_nil Aw.stopAt_cons Aw.wpD_skip Aw.wpD_ret Aw.wpD_exit Aw.wpD_region Aw.wpD_draw Aw.wpM_nil Aw.wpM_op Aw.wpM_gd Aw.wpD_seq Aw.wpD_block Aw.wpD_loop Aw.wpD_cond
/- gridhall/graph.Parts -/
def a69 : ACode :=
  (.seq (.region false [] [
     ⟨(some 6), none, (.mov (.v (.slice none 0 0)))⟩])
  (.seq (.region false [] [
     ⟨(some 15), none, (.bsl 3 1 1 [(0, (.v (.int .i64 (-1))))])⟩,
     ⟨(some 16), none, (.mov (.t 0))⟩,
     ⟨(some 17), none, (.call 67 [(.t 15), (.t 16)])⟩,
     ⟨(some 7), none, (.mov (.t 17))⟩])
  (.seq (.region false [] [
     ⟨(some 8), none, (.mov (.v (.int .i64 0)))⟩])
  (.seq (.seq (.region false [] [
     ⟨(some 18), none, (.mov (.t 0))⟩,
     ⟨(some 19), none, (.mov (.v (.int .i64 0)))⟩])
  (.block 0 (.loop (.seq (.region false [] [
       ⟨(some 20), none, (.bin .lss 3 (.t 19) (.t 18))⟩])
    (.seq (.cond (.t 20)
      .skip
      (.exit 0))
    (.seq (.block 1 (.seq (.region false [] [
        ⟨(some 21), none, (.mov (.t 19))⟩,
        ⟨(some 9), none, (.mov (.t 21))⟩])
     (.seq (.seq (.region false [] [
        ⟨(some 22), none, (.mov (.t 7))⟩,
        ⟨(some 23), none, (.mov (.t 9))⟩,
        ⟨(some 24), none, (.idx 1 (.t 22) (.t 23))⟩,
        ⟨(some 25), none, (.load 1 false (.t 24))⟩,
        ⟨(some 26), none, (.bin .geq 3 (.t 25) (.v (.int .i64 0)))⟩])
     (.cond (.t 26)
       (.exit 1)
       .skip))
     (.seq (.region false [] [
        ⟨(some 27), none, (.mov (.t 7))⟩,
        ⟨(some 28), none, (.mov (.t 9))⟩,
        ⟨(some 29), none, (.mov (.t 8))⟩,
        ⟨(some 30), none, (.idx 1 (.t 27) (.t 28))⟩,
        ⟨none, none, (.store 1 (.t 30) (.t 29))⟩])
     (.seq (.seq (.region false [] [
        ⟨(some 10), none, (.mov (.v (.bool true)))⟩])
     (.block 2 (.loop (.seq (.seq (.region false [] [
          ⟨(some 31), none, (.mov (.t 10))⟩])
       (.cond (.t 31)
         .skip
         (.exit 2)))
       (.block 3 (.seq (.region false [] [
           ⟨(some 10), none, (.mov (.v (.bool false)))⟩])
        (.seq (.region false [] [
           ⟨(some 32), none, (.mov (.t 1))⟩,
           ⟨(some 33), none, (.len (.t 32))⟩,
           ⟨(some 34), none, (.mov (.v (.int .i64 0)))⟩])
        (.block 4 (.loop (.seq (.region false [] [
             ⟨(some 35), none, (.bin .lss 3 (.t 34) (.t 33))⟩])
          (.seq (.cond (.t 35)
            .skip
            (.exit 4))
          (.seq (.block 5 (.seq (.region false [] [
              ⟨(some 36), none, (.mov (.t 34))⟩,
              ⟨(some 37), none, (.idx 2 (.t 32) (.t 34))⟩,
              ⟨(some 38), none, (.load 2 true (.t 37))⟩,
              ⟨(some 12), none, (.alloc 96 (.agg #[(.int .i64 0), (.int .i64 0)]))⟩,
              ⟨(some 11), none, (.mov (.t 36))⟩,
              ⟨none, none, (.store 2 (.t 12) (.t 38))⟩])
           (.seq (.region true [[], [], [1], [0, 2], [3], [], [4, 5], [], [], [8], [7, 9], [10], [], [11, 12], [6, 0, 1, 2, 3, 4, 5, 6], [13, 14, 0, 1, 2, 3, 4, 5, 6, 7, 8, 9, 10, 11, 12, 13, 14]] [
              ⟨(some 39), none, (.mov (.t 7))⟩,
              ⟨(some 40), none, (.idxa 2 1 (.t 12) (.v (.int .i64 0)))⟩,
              ⟨(some 41), none, (.load 1 false (.t 40))⟩,
              ⟨(some 42), none, (.idx 1 (.t 39) (.t 41))⟩,
              ⟨(some 43), none, (.load 1 false (.t 42))⟩,
              ⟨(some 44), none, (.mov (.t 8))⟩,
              ⟨(some 45), none, (.bin .eql 3 (.t 43) (.t 44))⟩,
              ⟨(some 46), none, (.mov (.t 7))⟩,
              ⟨(some 47), none, (.idxa 2 1 (.t 12) (.v (.int .i64 1)))⟩,
              ⟨(some 48), none, (.load 1 false (.t 47))⟩,
              ⟨(some 49), none, (.idx 1 (.t 46) (.t 48))⟩,
              ⟨(some 50), none, (.load 1 false (.t 49))⟩,
              ⟨(some 51), none, (.mov (.t 8))⟩,
              ⟨(some 52), none, (.bin .eql 3 (.t 50) (.t 51))⟩,
              ⟨(some 13), none, (.mov (.t 45))⟩,
              ⟨(some 14), none, (.mov (.t 52))⟩])
           (.seq (.region false [] [
              ⟨(some 53), none, (.mov (.t 13))⟩,
              ⟨(some 54), none, (.mov (.t 14))⟩,
              ⟨(some 55), none, (.beq true (.t 53) (.t 54))⟩,
              ⟨(some 56), none, (.mov (.t 55))⟩,
              ⟨(some 57), (some (56, true)), (.mov (.t 2))⟩,
              ⟨(some 58), (some (56, true)), (.mov (.t 11))⟩,
              ⟨(some 59), (some (56, true)), (.callv (.t 57) [(.t 58)])⟩,
              ⟨(some 60), none, (.pick (.t 56) (.t 59) (.v (.bool false)))⟩])
           (.cond (.t 60)
             (.region true [[], [], [1], [], [], [4], [], [], [0, 2, 0, 1, 2, 6], [8, 6, 0, 1, 2, 6], [3, 5, 0, 1, 2, 3, 4, 5, 6, 7, 8, 9], [10, 7, 9, 0, 1, 2, 3, 4, 5, 6, 7, 8, 9], [11, 0, 1, 2, 3, 4, 5, 6, 7, 8, 9, 10, 11]] [
                ⟨(some 61), none, (.mov (.t 7))⟩,
                ⟨(some 62), none, (.idxa 2 1 (.t 12) (.v (.int .i64 0)))⟩,
                ⟨(some 63), none, (.load 1 false (.t 62))⟩,
                ⟨(some 64), none, (.mov (.t 7))⟩,
                ⟨(some 65), none, (.idxa 2 1 (.t 12) (.v (.int .i64 1)))⟩,
                ⟨(some 66), none, (.load 1 false (.t 65))⟩,
                ⟨(some 67), none, (.mov (.t 8))⟩,
                ⟨(some 68), none, (.mov (.t 8))⟩,
                ⟨(some 69), none, (.idx 1 (.t 61) (.t 63))⟩,
                ⟨none, none, (.store 1 (.t 69) (.t 67))⟩,
                ⟨(some 70), none, (.idx 1 (.t 64) (.t 66))⟩,
                ⟨none, none, (.store 1 (.t 70) (.t 68))⟩,
                ⟨(some 10), none, (.mov (.v (.bool true)))⟩])
             .skip)))))
          (.region false [] [
             ⟨(some 71), none, (.bin .add 3 (.t 34) (.v (.int .i64 1)))⟩,
             ⟨(some 34), none, (.mov (.t 71))⟩])))))))))))))
     (.region false [] [
        ⟨(some 72), none, (.mov (.t 8))⟩,
        ⟨(some 73), none, (.bin .add 3 (.t 72) (.v (.int .i64 1)))⟩,
        ⟨(some 8), none, (.mov (.t 73))⟩]))))))
    (.region false [] [
       ⟨(some 74), none, (.bin .add 3 (.t 19) (.v (.int .i64 1)))⟩,
       ⟨(some 19), none, (.mov (.t 74))⟩])))))))
  (.seq (.region false [] [
     ⟨(some 75), none, (.mov (.t 7))⟩,
     ⟨(some 6), none, (.mov (.t 75))⟩])
  .ret)))))
theorem k69 : FnIs Try.prog 69 76 [.t 6] a69 := ⟨_, _, Try.func69, rfl, by kernel_rfl, by kernel_rfl, rfl⟩

set_option maxRecDepth 20000 in
set_option maxHeartbeats 4000000 in
theorem s69 (N : Nat) (nl fl) (l : List (Nat × Nat)) (g : FuncId) (caps : List AV) (u : Nat → Bool) (hg : fnOk Try.prog g = true) (hcl : caps.all leafA = true) (hu : ∀ i, i < l.length → Aw.Spec Try.prog g [] (I i :: caps) (Gives (· = B (u i))))
    (hN : N ≤ 24) (hl : EdgesIn N l) (hll : l.length ≤ 1000) :
    Aw.Spec Try.prog 69 [] [I N, .imm nl fl 2 (l.map pc2), .fn g caps] (fun rg v => rg = [.arr 3 1 ((partsF N l u).map ic)] ∧ v = .hnd 0 0 N N true ∧ (partsF N l u).length = N) := by
  refine Aw.Spec.regsD k69 mixed rfl rfl rfl fun E hn hnp hp => ?_
  unfold a69
  have pin : ∀ r, E.pin r = none := fun r => hp.none hnp (Nat.zero_le _)
  simp (config := { maxSteps := 2000000 }) only [go_sem, ↓reduceIte, Int.reduceToNat, Nat.reduceMul, Int.reduceBEq, Int.reduceBNe, Nat.reduceBEq, Nat.reduceAdd, Nat.reduceSub, Nat.reduceLeDiff, Nat.reduceEqDiff, Nat.reduceLT, reduceCtorEq]
  refine AWpL.weak (weak_freeze 0 rfl (pin 0) (by simp (config := { maxSteps := 2000000 }) only [go_sem, ↓reduceIte, Int.reduceToNat, Nat.reduceMul, Int.reduceBEq, Int.reduceBNe, Nat.reduceBEq, Nat.reduceAdd, Nat.reduceSub, Nat.reduceLeDiff, Nat.reduceEqDiff, Nat.reduceLT, reduceCtorEq, Nat.le_refl, frzOL_leaf hcl])) (AWpL.ofM hn rfl ?_)
  simp (config := { maxSteps := 2000000 }) only [go_sem, ↓reduceIte, Int.reduceToNat, Nat.reduceMul, Int.reduceBEq, Int.reduceBNe, Nat.reduceBEq, Nat.reduceAdd, Nat.reduceSub, Nat.reduceLeDiff, Nat.reduceEqDiff, Nat.reduceLT, reduceCtorEq, frzL_leaf hcl]
  refine AWpL.callA [] (s67 none true N hN) rfl rfl (by rw [hn]; rfl) rfl (fun r hr => by cases hr) fun rg v hv => ?_
  obtain ⟨rfl, rfl⟩ := hv
  refine ⟨Nat.zero_le _, ?_⟩
  rw [retS_new]
  refine AWpL.ofM hn rfl ?_
  simp (config := { maxSteps := 2000000 }) only [go_sem, ↓reduceIte, Int.reduceToNat, Nat.reduceMul, Int.reduceBEq, Int.reduceBNe, Nat.reduceBEq, Nat.reduceAdd, Nat.reduceSub, Nat.reduceLeDiff, Nat.reduceEqDiff, Nat.reduceLT, reduceCtorEq, mapL_leaf hcl]
  have hrep : (List.replicate N [I (-1)]) = (List.replicate N (-1 : Int)).map ic := by rw [List.map_replicate]
  refine AWp.loop (fun k s => ∃ i : Nat, i + k = N ∧ (partsN N l u i).1.length = N ∧ (∃ m : Nat, (partsN N l u i).2 = m ∧ m ≤ i) ∧ Weak E s ⟨[(1, .imm nl fl 2 (l.map pc2)), (2, .fn g caps), (7, .hnd 0 0 N N true), (8, I (partsN N l u i).2), (18, I N), (19, I i)], [.arr 3 1 ((partsN N l u i).1.map ic)]⟩) (n := N)
    ⟨0, by omega, List.length_replicate, ⟨0, rfl, Nat.le_refl _⟩, weak_to [1] hp hnp rfl (by simp (config := { maxSteps := 2000000 }) only [go_sem, ↓reduceIte, Int.reduceToNat, Nat.reduceMul, Int.reduceBEq, Int.reduceBNe, Nat.reduceBEq, Nat.reduceAdd, Nat.reduceSub, Nat.reduceLeDiff, Nat.reduceEqDiff, Nat.reduceLT, reduceCtorEq, Int.natCast_zero, Aw.pos, renL_leaf hcl] <;> rfl) (by simp (config := { maxSteps := 2000000 }) only [go_sem, ↓reduceIte, Int.reduceToNat, Nat.reduceMul, Int.reduceBEq, Int.reduceBNe, Nat.reduceBEq, Nat.reduceAdd, Nat.reduceSub, Nat.reduceLeDiff, Nat.reduceEqDiff, Nat.reduceLT, reduceCtorEq, Aw.renR, Aw.pos] <;> first | rfl | (rw [hrep]; rfl))⟩ ?_
  rintro k s ⟨i, hik, hlen, ⟨m, hm, hmi⟩, hw⟩
  refine AWp.weak hw (AWp.ofD [] [] hn mixed rfl ?_)
  rcases Nat.lt_or_ge i N with hlt | hge
  · have e0 : decide ((i : Int) < (N : Int)) = true := decide_eq_true (by omega)
    have e2 : IntKind.i64.wrap ((i : Int) + 1) = ((i + 1 : Nat) : Int) := by rw [w64 (by omega) (by omega)]; omega
    have hP := partsN_succ N l u i
    generalize partsN N l u i = st at *
    have e1 := getD_mapD 0 ic (l := st.1) (i := i) (by omega)
    simp (config := { maxSteps := 2000000 }) only [go_sem, ↓reduceIte, Int.reduceToNat, Nat.reduceMul, Int.reduceBEq, Int.reduceBNe, Nat.reduceBEq, Nat.reduceAdd, Nat.reduceSub, Nat.reduceLeDiff, Nat.reduceEqDiff, Nat.reduceLT, reduceCtorEq, e0, e1, e2]
    refine ⟨⟨by omega, by omega⟩, by omega, fun h => ?_, fun h => ⟨⟨by omega, by omega⟩, by omega, ?_⟩⟩
    · have hP2 : partsN N l u (i + 1) = st := by rw [hP]; exact if_pos (of_decide_eq_true h)
      exact ⟨k - 1, by omega, i + 1, by omega, by rw [hP2]; exact hlen, by rw [hP2]; exact ⟨m, hm, by omega⟩, weak_to [0] hp hnp rfl (by simp (config := { maxSteps := 2000000 }) only [go_sem, ↓reduceIte, Int.reduceToNat, Nat.reduceMul, Int.reduceBEq, Int.reduceBNe, Nat.reduceBEq, Nat.reduceAdd, Nat.reduceSub, Nat.reduceLeDiff, Nat.reduceEqDiff, Nat.reduceLT, reduceCtorEq, Aw.pos, renL_leaf hcl, hP2]) (by simp (config := { maxSteps := 2000000 }) only [go_sem, ↓reduceIte, Int.reduceToNat, Nat.reduceMul, Int.reduceBEq, Int.reduceBNe, Nat.reduceBEq, Nat.reduceAdd, Nat.reduceSub, Nat.reduceLeDiff, Nat.reduceEqDiff, Nat.reduceLT, reduceCtorEq, Aw.renR, Aw.pos, hP2])⟩
    have hP2 : partsN N l u (i + 1) = (growP l u st.2 (N + 1) (st.1.set i st.2), st.2 + 1) := by rw [hP]; exact if_neg (of_decide_eq_false h)
    have hlen0 : (st.1.set i st.2).length = N := by rw [List.length_set]; exact hlen
    have hoth := others_le st.2 (st.1.set i st.2)
    have hmap0 : (st.1.map ic).set i [I st.2] = (st.1.set i st.2).map ic := by rw [List.map_set]
    generalize hT : growP l u st.2 (N + 1) (st.1.set i st.2) = T at hP2
    have hTlen : T.length = N → (partsN N l u (i + 1)).1.length = N := fun h => by rw [hP2]; exact h
    refine AWp.loop (fun k2 s => ∃ (out : List Int) (gr : Bool), out.length = N ∧ (gr = true → others st.2 out < k2 ∧ growP l u st.2 k2 out = T) ∧ (gr = false → out = T) ∧
        Weak E s ⟨[(1, .imm nl fl 2 (l.map pc2)), (2, .fn g caps), (7, .hnd 0 0 N N true), (8, I st.2), (10, B gr), (18, I N), (19, I i)], [.arr 3 1 (out.map ic)]⟩) (n := N + 1)
      ⟨st.1.set i st.2, true, hlen0, fun _ => ⟨by omega, hT⟩, (fun h => by cases h), weak_to [0] hp hnp rfl (by simp (config := { maxSteps := 2000000 }) only [go_sem, ↓reduceIte, Int.reduceToNat, Nat.reduceMul, Int.reduceBEq, Int.reduceBNe, Nat.reduceBEq, Nat.reduceAdd, Nat.reduceSub, Nat.reduceLeDiff, Nat.reduceEqDiff, Nat.reduceLT, reduceCtorEq, Aw.pos, renL_leaf hcl]) (by simp (config := { maxSteps := 2000000 }) only [go_sem, ↓reduceIte, Int.reduceToNat, Nat.reduceMul, Int.reduceBEq, Int.reduceBNe, Nat.reduceBEq, Nat.reduceAdd, Nat.reduceSub, Nat.reduceLeDiff, Nat.reduceEqDiff, Nat.reduceLT, reduceCtorEq, Aw.renR, Aw.pos] <;> rw [hmap0])⟩ ?_
    rintro k2 s2 ⟨out, gr, hol, hgt, hgf, hw2⟩
    refine AWp.weak hw2 (AWp.ofD [] [] hn mixed rfl ?_)
    cases gr with
    | false =>
      obtain rfl := hgf rfl
      have e3 : IntKind.i64.wrap (st.2 + 1) = st.2 + 1 := w64 (by omega) (by omega)
      simp (config := { maxSteps := 2000000 }) only [go_sem, ↓reduceIte, Int.reduceToNat, Nat.reduceMul, Int.reduceBEq, Int.reduceBNe, Nat.reduceBEq, Nat.reduceAdd, Nat.reduceSub, Nat.reduceLeDiff, Nat.reduceEqDiff, Nat.reduceLT, reduceCtorEq, e2, e3]
      exact ⟨k - 1, by omega, i + 1, by omega, by rw [hP2]; exact hol, ⟨m + 1, by rw [hP2]; show st.2 + 1 = _; omega, by omega⟩, weak_to [0] hp hnp rfl (by simp (config := { maxSteps := 2000000 }) only [go_sem, ↓reduceIte, Int.reduceToNat, Nat.reduceMul, Int.reduceBEq, Int.reduceBNe, Nat.reduceBEq, Nat.reduceAdd, Nat.reduceSub, Nat.reduceLeDiff, Nat.reduceEqDiff, Nat.reduceLT, reduceCtorEq, Aw.pos, renL_leaf hcl, hP2]) (by simp (config := { maxSteps := 2000000 }) only [go_sem, ↓reduceIte, Int.reduceToNat, Nat.reduceMul, Int.reduceBEq, Int.reduceBNe, Nat.reduceBEq, Nat.reduceAdd, Nat.reduceSub, Nat.reduceLeDiff, Nat.reduceEqDiff, Nat.reduceLT, reduceCtorEq, Aw.renR, Aw.pos, hP2])⟩
    | true =>
      obtain ⟨ho1, ho2⟩ := hgt rfl
      obtain ⟨k2, rfl⟩ : ∃ q, k2 = q + 1 := ⟨k2 - 1, by omega⟩
      have hG : growP l u st.2 (k2 + 1) out = if (passP l u st.2 out l.length).2 = true then growP l u st.2 k2 (passP l u st.2 out l.length).1 else (passP l u st.2 out l.length).1 := rfl
      simp (config := { maxSteps := 2000000 }) only [go_sem, ↓reduceIte, Int.reduceToNat, Nat.reduceMul, Int.reduceBEq, Int.reduceBNe, Nat.reduceBEq, Nat.reduceAdd, Nat.reduceSub, Nat.reduceLeDiff, Nat.reduceEqDiff, Nat.reduceLT, reduceCtorEq]
      refine AWp.loop (fun k3 s => ∃ j : Nat, j + k3 = l.length ∧ Weak E s ⟨[(1, .imm nl fl 2 (l.map pc2)), (2, .fn g caps), (7, .hnd 0 0 N N true), (8, I st.2), (10, B (passP l u st.2 out j).2), (18, I N), (19, I i), (32, .imm nl fl 2 (l.map pc2)), (33, I l.length), (34, I j)], [.arr 3 1 ((passP l u st.2 out j).1.map ic)]⟩) (n := l.length)
        ⟨0, by omega, weak_to [0] hp hnp rfl (by simp (config := { maxSteps := 2000000 }) only [go_sem, ↓reduceIte, Int.reduceToNat, Nat.reduceMul, Int.reduceBEq, Int.reduceBNe, Nat.reduceBEq, Nat.reduceAdd, Nat.reduceSub, Nat.reduceLeDiff, Nat.reduceEqDiff, Nat.reduceLT, reduceCtorEq, Int.natCast_zero, Aw.pos, renL_leaf hcl]; rfl) (by simp (config := { maxSteps := 2000000 }) only [go_sem, ↓reduceIte, Int.reduceToNat, Nat.reduceMul, Int.reduceBEq, Int.reduceBNe, Nat.reduceBEq, Nat.reduceAdd, Nat.reduceSub, Nat.reduceLeDiff, Nat.reduceEqDiff, Nat.reduceLT, reduceCtorEq, Aw.renR, Aw.pos]; rfl)⟩ ?_
      rintro k3 s3 ⟨j, hjk, hw3⟩
      refine AWp.weak hw3 (AWp.ofD [] [] hn mixed rfl ?_)
      obtain ⟨q1, q2, q3⟩ := passP_ok (u := u) (m := st.2) hl hol j (by omega)
      rcases Nat.lt_or_ge j l.length with hlt3 | hge3
      · have f0 : decide ((j : Int) < (l.length : Int)) = true := decide_eq_true (by omega)
        have f1 := getD_mapD (0, 0) pc2 hlt3
        have f2 : IntKind.i64.wrap ((j : Int) + 1) = ((j + 1 : Nat) : Int) := by rw [w64 (by omega) (by omega)]; omega
        have hS : passP l u st.2 out (j + 1) = if (touch (passP l u st.2 out j).1 st.2 (l.getD j (0, 0)) && u j) = true then (((passP l u st.2 out j).1.set (l.getD j (0, 0)).1 st.2).set (l.getD j (0, 0)).2 st.2, true) else passP l u st.2 out j := passP_succ l u st.2 out j
        obtain ⟨x1, x2⟩ := hl j hlt3
        have hu3 := hu j hlt3
        generalize passP l u st.2 out j = pq at *
        generalize l.getD j (0, 0) = x at *
        have f3 := getD_mapD 0 ic (l := pq.1) (i := x.1) (by omega)
        have f4 := getD_mapD 0 ic (l := pq.1) (i := x.2) (by omega)
        simp (config := { maxSteps := 2000000 }) only [go_sem, ↓reduceIte, Int.reduceToNat, Nat.reduceMul, Int.reduceBEq, Int.reduceBNe, Nat.reduceBEq, Nat.reduceAdd, Nat.reduceSub, Nat.reduceLeDiff, Nat.reduceEqDiff, Nat.reduceLT, reduceCtorEq, f0, f1, f3, f4]
        (repeat (refine And.intro (by first | omega | (refine ⟨by omega, by omega⟩) | (refine ⟨by omega, by omega, by omega⟩) | (simp only [List.length_map, List.length_range, List.length_append, List.length_cons, List.length_nil, List.length_replicate, List.length_set]; omega) | (simp; omega) | (intro hgd; cases hgd) | (intro hgd; refine ⟨hgd, ?_⟩; first | omega | (refine ⟨by omega, by omega⟩) | (simp; omega))) ?_))
        have ht : (!((pq.1.getD x.1 0 == st.2) == (pq.1.getD x.2 0 == st.2))) = touch pq.1 st.2 x := rfl
        simp only [ht]
        cases hT2 : touch pq.1 st.2 x with
        | false =>
          rw [hT2, Bool.false_and, if_neg (by decide)] at hS
          refine AWpL.guardF (by rw [hn]; rfl) rfl (AWpL.weak (weak_ent 59 (y := .opt false (B false)) (by rfl) Ent.off) (AWpL.ofM hn rfl ?_))
          simp (config := { maxSteps := 2000000 }) only [go_sem, ↓reduceIte, Int.reduceToNat, Nat.reduceMul, Int.reduceBEq, Int.reduceBNe, Nat.reduceBEq, Nat.reduceAdd, Nat.reduceSub, Nat.reduceLeDiff, Nat.reduceEqDiff, Nat.reduceLT, reduceCtorEq, f2]
          exact ⟨k3 - 1, by omega, j + 1, by omega, weak_to [0] hp hnp rfl (by simp (config := { maxSteps := 2000000 }) only [go_sem, ↓reduceIte, Int.reduceToNat, Nat.reduceMul, Int.reduceBEq, Int.reduceBNe, Nat.reduceBEq, Nat.reduceAdd, Nat.reduceSub, Nat.reduceLeDiff, Nat.reduceEqDiff, Nat.reduceLT, reduceCtorEq, Aw.pos, renL_leaf hcl, hS]) (by simp (config := { maxSteps := 2000000 }) only [go_sem, ↓reduceIte, Int.reduceToNat, Nat.reduceMul, Int.reduceBEq, Int.reduceBNe, Nat.reduceBEq, Nat.reduceAdd, Nat.reduceSub, Nat.reduceLeDiff, Nat.reduceEqDiff, Nat.reduceLT, reduceCtorEq, Aw.renR, Aw.pos, hS])⟩
        | true =>
          rw [hT2, Bool.true_and] at hS
          refine AWpL.guardT rfl (AWpL.weak (weak_opt 57 rfl) (AWpL.weak (weak_opt 58 rfl) ?_))
          refine AWpL.callv rfl hg (by rw [renL_leaf hcl]; exact hu3) (by rw [hn]; rfl) fun rg v hv => ?_
          obtain ⟨rfl, rfl⟩ := hv
          rw [retS_nil]
          refine AWpL.ofM hn rfl ?_
          simp (config := { maxSteps := 2000000 }) only [go_sem, ↓reduceIte, Int.reduceToNat, Nat.reduceMul, Int.reduceBEq, Int.reduceBNe, Nat.reduceBEq, Nat.reduceAdd, Nat.reduceSub, Nat.reduceLeDiff, Nat.reduceEqDiff, Nat.reduceLT, reduceCtorEq]
          refine ⟨fun h4 => ?_, fun h4 => ?_⟩
          · rw [if_pos h4] at hS
            have hs1 : (pq.1.map ic).set x.1 (I st.2 :: List.drop 1 ((pq.1.map ic).getD x.1 [])) = (pq.1.set x.1 st.2).map ic := by
              rw [f3, List.map_set]; rfl
            have f5 := getD_mapD 0 ic (l := pq.1.set x.1 st.2) (i := x.2) (by rw [List.length_set]; omega)
            have hs2 : ((pq.1.set x.1 st.2).map ic).set x.2 (I st.2 :: List.drop 1 (((pq.1.set x.1 st.2).map ic).getD x.2 [])) = ((pq.1.set x.1 st.2).set x.2 st.2).map ic := by
              rw [f5, show (I st.2 :: List.drop 1 (ic ((pq.1.set x.1 st.2).getD x.2 0))) = ic st.2 from rfl, ← List.map_set]
            refine AWp.plan (.take 0 [false, true, true, true, true, true, true, true, false, false, false, false, false] (.take 1 [true, false, false, true, true, true, true, true, false, false, false, false, false] (.take 2 [true, true, false, true, true, true, true, true, false, false, false, false, false] (.take 6 [true, true, true, true, true, true, false, true, false, false, false, false, false] (.take 8 [true, true, true, true, true, true, true, true, false, false, false, false, false] (.four 3 (.three 4 (.three 5 (.two 7 (.one 9 (.take 10 [true, true, true, true, true, true, true, true, true, true, false, false, false] (.one 11 (.take 12 [true, true, true, true, true, true, true, true, true, true, true, true, false] .done)))) 9 (.take 7 [true, true, true, true, true, true, true, false, true, true, false, false, false] (.take 10 [true, true, true, true, true, true, true, true, true, true, false, false, false] (.one 11 (.take 12 [true, true, true, true, true, true, true, true, true, true, true, true, false] .done))))) 7 (.two 5 (.one 9 (.take 10 [true, true, true, true, true, true, true, true, true, true, false, false, false] (.one 11 (.take 12 [true, true, true, true, true, true, true, true, true, true, true, true, false] .done)))) 9 (.take 5 [true, true, true, true, true, false, true, true, true, true, false, false, false] (.take 10 [true, true, true, true, true, true, true, true, true, true, false, false, false] (.one 11 (.take 12 [true, true, true, true, true, true, true, true, true, true, true, true, false] .done))))) 9 (.take 5 [true, true, true, true, true, false, true, true, true, true, false, false, false] (.take 7 [true, true, true, true, true, true, true, false, true, true, false, false, false] (.take 10 [true, true, true, true, true, true, true, true, true, true, false, false, false] (.one 11 (.take 12 [true, true, true, true, true, true, true, true, true, true, true, true, false] .done)))))) 7 (.two 4 (.two 5 (.one 9 (.take 10 [true, true, true, true, true, true, true, true, true, true, false, false, false] (.one 11 (.take 12 [true, true, true, true, true, true, true, true, true, true, true, true, false] .done)))) 9 (.take 5 [true, true, true, true, true, false, true, true, true, true, false, false, false] (.take 10 [true, true, true, true, true, true, true, true, true, true, false, false, false] (.one 11 (.take 12 [true, true, true, true, true, true, true, true, true, true, true, true, false] .done))))) 9 (.take 4 [true, true, true, true, false, false, true, true, true, true, false, false, false] (.take 5 [true, true, true, true, true, false, true, true, true, true, false, false, false] (.take 10 [true, true, true, true, true, true, true, true, true, true, false, false, false] (.one 11 (.take 12 [true, true, true, true, true, true, true, true, true, true, true, true, false] .done)))))) 9 (.take 4 [true, true, true, true, false, false, true, true, true, true, false, false, false] (.take 5 [true, true, true, true, true, false, true, true, true, true, false, false, false] (.take 7 [true, true, true, true, true, true, true, false, true, true, false, false, false] (.take 10 [true, true, true, true, true, true, true, true, true, true, false, false, false] (.one 11 (.take 12 [true, true, true, true, true, true, true, true, true, true, true, true, false] .done))))))) 4 (.four 3 (.three 5 (.two 7 (.one 9 (.take 10 [true, true, true, true, true, true, true, true, true, true, false, false, false] (.one 11 (.take 12 [true, true, true, true, true, true, true, true, true, true, true, true, false] .done)))) 9 (.take 7 [true, true, true, true, true, true, true, false, true, true, false, false, false] (.take 10 [true, true, true, true, true, true, true, true, true, true, false, false, false] (.one 11 (.take 12 [true, true, true, true, true, true, true, true, true, true, true, true, false] .done))))) 7 (.two 5 (.one 9 (.take 10 [true, true, true, true, true, true, true, true, true, true, false, false, false] (.one 11 (.take 12 [true, true, true, true, true, true, true, true, true, true, true, true, false] .done)))) 9 (.take 5 [true, true, true, true, true, false, true, true, true, true, false, false, false] (.take 10 [true, true, true, true, true, true, true, true, true, true, false, false, false] (.one 11 (.take 12 [true, true, true, true, true, true, true, true, true, true, true, true, false] .done))))) 9 (.take 5 [true, true, true, true, true, false, true, true, true, true, false, false, false] (.take 7 [true, true, true, true, true, true, true, false, true, true, false, false, false] (.take 10 [true, true, true, true, true, true, true, true, true, true, false, false, false] (.one 11 (.take 12 [true, true, true, true, true, true, true, true, true, true, true, true, false] .done)))))) 5 (.three 3 (.two 7 (.one 9 (.take 10 [true, true, true, true, true, true, true, true, true, true, false, false, false] (.one 11 (.take 12 [true, true, true, true, true, true, true, true, true, true, true, true, false] .done)))) 9 (.take 7 [true, true, true, true, true, true, true, false, true, true, false, false, false] (.take 10 [true, true, true, true, true, true, true, true, true, true, false, false, false] (.one 11 (.take 12 [true, true, true, true, true, true, true, true, true, true, true, true, false] .done))))) 7 (.two 3 (.one 9 (.take 10 [true, true, true, true, true, true, true, true, true, true, false, false, false] (.one 11 (.take 12 [true, true, true, true, true, true, true, true, true, true, true, true, false] .done)))) 9 (.take 3 [true, true, true, false, true, true, true, true, true, true, false, false, false] (.take 10 [true, true, true, true, true, true, true, true, true, true, false, false, false] (.one 11 (.take 12 [true, true, true, true, true, true, true, true, true, true, true, true, false] .done))))) 9 (.take 3 [true, true, true, false, true, true, true, true, true, true, false, false, false] (.take 7 [true, true, true, true, true, true, true, false, true, true, false, false, false] (.take 10 [true, true, true, true, true, true, true, true, true, true, false, false, false] (.one 11 (.take 12 [true, true, true, true, true, true, true, true, true, true, true, true, false] .done)))))) 7 (.three 3 (.two 5 (.one 9 (.take 10 [true, true, true, true, true, true, true, true, true, true, false, false, false] (.one 11 (.take 12 [true, true, true, true, true, true, true, true, true, true, true, true, false] .done)))) 9 (.take 5 [true, true, true, true, true, false, true, true, true, true, false, false, false] (.take 10 [true, true, true, true, true, true, true, true, true, true, false, false, false] (.one 11 (.take 12 [true, true, true, true, true, true, true, true, true, true, true, true, false] .done))))) 5 (.two 3 (.one 9 (.take 10 [true, true, true, true, true, true, true, true, true, true, false, false, false] (.one 11 (.take 12 [true, true, true, true, true, true, true, true, true, true, true, true, false] .done)))) 9 (.take 3 [true, true, true, false, true, true, true, true, true, true, false, false, false] (.take 10 [true, true, true, true, true, true, true, true, true, true, false, false, false] (.one 11 (.take 12 [true, true, true, true, true, true, true, true, true, true, true, true, false] .done))))) 9 (.take 3 [true, true, true, false, true, true, true, true, true, true, false, false, false] (.take 5 [true, true, true, true, true, false, true, true, true, true, false, false, false] (.take 10 [true, true, true, true, true, true, true, true, true, true, false, false, false] (.one 11 (.take 12 [true, true, true, true, true, true, true, true, true, true, true, true, false] .done)))))) 9 (.take 3 [true, true, true, false, true, true, true, true, true, true, false, false, false] (.take 5 [true, true, true, true, true, false, true, true, true, true, false, false, false] (.take 7 [true, true, true, true, true, true, true, false, true, true, false, false, false] (.take 10 [true, true, true, true, true, true, true, true, true, true, false, false, false] (.one 11 (.take 12 [true, true, true, true, true, true, true, true, true, true, true, true, false] .done))))))) 7 (.three 3 (.two 4 (.two 5 (.one 9 (.take 10 [true, true, true, true, true, true, true, true, true, true, false, false, false] (.one 11 (.take 12 [true, true, true, true, true, true, true, true, true, true, true, true, false] .done)))) 9 (.take 5 [true, true, true, true, true, false, true, true, true, true, false, false, false] (.take 10 [true, true, true, true, true, true, true, true, true, true, false, false, false] (.one 11 (.take 12 [true, true, true, true, true, true, true, true, true, true, true, true, false] .done))))) 9 (.take 4 [true, true, true, true, false, false, true, true, true, true, false, false, false] (.take 5 [true, true, true, true, true, false, true, true, true, true, false, false, false] (.take 10 [true, true, true, true, true, true, true, true, true, true, false, false, false] (.one 11 (.take 12 [true, true, true, true, true, true, true, true, true, true, true, true, false] .done)))))) 4 (.three 3 (.two 5 (.one 9 (.take 10 [true, true, true, true, true, true, true, true, true, true, false, false, false] (.one 11 (.take 12 [true, true, true, true, true, true, true, true, true, true, true, true, false] .done)))) 9 (.take 5 [true, true, true, true, true, false, true, true, true, true, false, false, false] (.take 10 [true, true, true, true, true, true, true, true, true, true, false, false, false] (.one 11 (.take 12 [true, true, true, true, true, true, true, true, true, true, true, true, false] .done))))) 5 (.two 3 (.one 9 (.take 10 [true, true, true, true, true, true, true, true, true, true, false, false, false] (.one 11 (.take 12 [true, true, true, true, true, true, true, true, true, true, true, true, false] .done)))) 9 (.take 3 [true, true, true, false, true, true, true, true, true, true, false, false, false] (.take 10 [true, true, true, true, true, true, true, true, true, true, false, false, false] (.one 11 (.take 12 [true, true, true, true, true, true, true, true, true, true, true, true, false] .done))))) 9 (.take 3 [true, true, true, false, true, true, true, true, true, true, false, false, false] (.take 5 [true, true, true, true, true, false, true, true, true, true, false, false, false] (.take 10 [true, true, true, true, true, true, true, true, true, true, false, false, false] (.one 11 (.take 12 [true, true, true, true, true, true, true, true, true, true, true, true, false] .done)))))) 9 (.take 3 [true, true, true, false, true, true, true, true, true, true, false, false, false] (.take 4 [true, true, true, true, false, false, true, true, true, true, false, false, false] (.take 5 [true, true, true, true, true, false, true, true, true, true, false, false, false] (.take 10 [true, true, true, true, true, true, true, true, true, true, false, false, false] (.one 11 (.take 12 [true, true, true, true, true, true, true, true, true, true, true, true, false] .done))))))) 9 (.take 3 [true, true, true, false, true, true, true, true, true, true, false, false, false] (.take 4 [true, true, true, true, false, false, true, true, true, true, false, false, false] (.take 5 [true, true, true, true, true, false, true, true, true, true, false, false, false] (.take 7 [true, true, true, true, true, true, true, false, true, true, false, false, false] (.take 10 [true, true, true, true, true, true, true, true, true, true, false, false, false] (.one 11 (.take 12 [true, true, true, true, true, true, true, true, true, true, true, true, false] .done))))))))))))) [true, true, true, true, true, true, true, true, true, false, true, false, true] mixed hn rfl rfl ?_
            simp (config := { maxSteps := 2000000 }) only [go_sem, ↓reduceIte, Int.reduceToNat, Nat.reduceMul, Int.reduceBEq, Int.reduceBNe, Nat.reduceBEq, Nat.reduceAdd, Nat.reduceSub, Nat.reduceLeDiff, Nat.reduceEqDiff, Nat.reduceLT, reduceCtorEq, hs1, hs2, f2, List.length_set]
            repeat' refine And.intro ?_ ?_
            all_goals first
              | omega
              | exact ⟨k3 - 1, by omega, j + 1, by omega, weak_to [0] hp hnp rfl (by simp (config := { maxSteps := 2000000 }) only [go_sem, ↓reduceIte, Int.reduceToNat, Nat.reduceMul, Int.reduceBEq, Int.reduceBNe, Nat.reduceBEq, Nat.reduceAdd, Nat.reduceSub, Nat.reduceLeDiff, Nat.reduceEqDiff, Nat.reduceLT, reduceCtorEq, Aw.pos, renL_leaf hcl, hS]) (by simp (config := { maxSteps := 2000000 }) only [go_sem, ↓reduceIte, Int.reduceToNat, Nat.reduceMul, Int.reduceBEq, Int.reduceBNe, Nat.reduceBEq, Nat.reduceAdd, Nat.reduceSub, Nat.reduceLeDiff, Nat.reduceEqDiff, Nat.reduceLT, reduceCtorEq, Aw.renR, Aw.pos, hS])⟩
          · rw [if_neg (by rw [h4]; decide)] at hS
            simp (config := { maxSteps := 2000000 }) only [go_sem, ↓reduceIte, Int.reduceToNat, Nat.reduceMul, Int.reduceBEq, Int.reduceBNe, Nat.reduceBEq, Nat.reduceAdd, Nat.reduceSub, Nat.reduceLeDiff, Nat.reduceEqDiff, Nat.reduceLT, reduceCtorEq, f2]
            exact ⟨k3 - 1, by omega, j + 1, by omega, weak_to [0] hp hnp rfl (by simp (config := { maxSteps := 2000000 }) only [go_sem, ↓reduceIte, Int.reduceToNat, Nat.reduceMul, Int.reduceBEq, Int.reduceBNe, Nat.reduceBEq, Nat.reduceAdd, Nat.reduceSub, Nat.reduceLeDiff, Nat.reduceEqDiff, Nat.reduceLT, reduceCtorEq, Aw.pos, renL_leaf hcl, hS]) (by simp (config := { maxSteps := 2000000 }) only [go_sem, ↓reduceIte, Int.reduceToNat, Nat.reduceMul, Int.reduceBEq, Int.reduceBNe, Nat.reduceBEq, Nat.reduceAdd, Nat.reduceSub, Nat.reduceLeDiff, Nat.reduceEqDiff, Nat.reduceLT, reduceCtorEq, Aw.renR, Aw.pos, hS])⟩
      · have f0 : decide ((j : Int) < (l.length : Int)) = false := decide_eq_false (by omega)
        obtain rfl : j = l.length := by omega
        simp (config := { maxSteps := 2000000 }) only [go_sem, ↓reduceIte, Int.reduceToNat, Nat.reduceMul, Int.reduceBEq, Int.reduceBNe, Nat.reduceBEq, Nat.reduceAdd, Nat.reduceSub, Nat.reduceLeDiff, Nat.reduceEqDiff, Nat.reduceLT, reduceCtorEq, f0]
        cases hr2 : (passP l u st.2 out l.length).2 with
        | false =>
          rw [hr2, if_neg (by decide), ho2] at hG
          exact ⟨k2, by omega, (passP l u st.2 out l.length).1, false, q1, (fun h => by cases h), (fun _ => hG.symm), weak_to [0] hp hnp rfl (by simp (config := { maxSteps := 2000000 }) only [go_sem, ↓reduceIte, Int.reduceToNat, Nat.reduceMul, Int.reduceBEq, Int.reduceBNe, Nat.reduceBEq, Nat.reduceAdd, Nat.reduceSub, Nat.reduceLeDiff, Nat.reduceEqDiff, Nat.reduceLT, reduceCtorEq, Aw.pos, renL_leaf hcl]) (by simp (config := { maxSteps := 2000000 }) only [go_sem, ↓reduceIte, Int.reduceToNat, Nat.reduceMul, Int.reduceBEq, Int.reduceBNe, Nat.reduceBEq, Nat.reduceAdd, Nat.reduceSub, Nat.reduceLeDiff, Nat.reduceEqDiff, Nat.reduceLT, reduceCtorEq, Aw.renR, Aw.pos])⟩
        | true =>
          rw [hr2, if_pos rfl, ho2] at hG
          have q4 := q3 hr2
          exact ⟨k2, by omega, (passP l u st.2 out l.length).1, true, q1, (fun _ => ⟨by omega, hG.symm⟩), (fun h => by cases h), weak_to [0] hp hnp rfl (by simp (config := { maxSteps := 2000000 }) only [go_sem, ↓reduceIte, Int.reduceToNat, Nat.reduceMul, Int.reduceBEq, Int.reduceBNe, Nat.reduceBEq, Nat.reduceAdd, Nat.reduceSub, Nat.reduceLeDiff, Nat.reduceEqDiff, Nat.reduceLT, reduceCtorEq, Aw.pos, renL_leaf hcl]) (by simp (config := { maxSteps := 2000000 }) only [go_sem, ↓reduceIte, Int.reduceToNat, Nat.reduceMul, Int.reduceBEq, Int.reduceBNe, Nat.reduceBEq, Nat.reduceAdd, Nat.reduceSub, Nat.reduceLeDiff, Nat.reduceEqDiff, Nat.reduceLT, reduceCtorEq, Aw.renR, Aw.pos])⟩
  · have e0 : decide ((i : Int) < (N : Int)) = false := decide_eq_false (by omega)
    obtain rfl : i = N := by omega
    simp (config := { maxSteps := 2000000 }) only [go_sem, ↓reduceIte, Int.reduceToNat, Nat.reduceMul, Int.reduceBEq, Int.reduceBNe, Nat.reduceBEq, Nat.reduceAdd, Nat.reduceSub, Nat.reduceLeDiff, Nat.reduceEqDiff, Nat.reduceLT, reduceCtorEq, e0]
    refine Retn.ret (π := [0]) hp hnp ⟨rfl, ?_⟩
    simp (config := { maxSteps := 2000000 }) only [go_sem, ↓reduceIte, Int.reduceToNat, Nat.reduceMul, Int.reduceBEq, Int.reduceBNe, Nat.reduceBEq, Nat.reduceAdd, Nat.reduceSub, Nat.reduceLeDiff, Nat.reduceEqDiff, Nat.reduceLT, reduceCtorEq, Aw.renR, Aw.pos]
    exact ⟨rfl, hlen⟩
end Go.Proofs.Ytmginfhlohenhaa
