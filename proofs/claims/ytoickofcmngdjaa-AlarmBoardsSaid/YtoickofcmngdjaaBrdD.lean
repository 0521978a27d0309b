/- Alarms: entries sorted. -/
import Derived.Test.YtoickofcmngdjaaAwZl
import Derived.Test.YtoickofcmngdjaaBrdC
import Derived.Test.YtoickofcmngdjaaBlaK
set_option linter.unusedVariables false
set_option linter.unusedSimpArgs false
namespace Go.Proofs.Ytoickofcmngdjaa
open Go.Proofs.Ytoickofcmngdjaa.Aw
attribute [local go_sem] Int.natCast_zero Int.natCast_one bne_self_eq_false beq_self_eq_true Bool.not_true Bool.not_false Option.isSome_none Option.isSome_some Aw.bkM_nil Option.getD_some Option.getD_none Nat.sub_zero Int.toNat_zero Aw.frzS Aw.frzT Aw.frzA Aw.frzL Aw.frzR Aw.frzO Aw.frzOL Aw.frzOT Aw.frzOR Aw.killS Aw.mapT Aw.mapR Aw.killM Aw.resAVs Aw.resAV Aw.quietOps Aw.wpP Aw.wpT Aw.wpS Aw.AOp.mild List.getElem?_cons_zero List.getElem?_cons_succ Bool.and_false Bool.and_self Bool.false_and Aw.opOb Aw.gdB Aw.Rnd Aw.subTm List.length_map Int.toNat_natCast and_self Aw.SeqC Aw.stops Aw.Ends Aw.looks Aw.renA Aw.renL Aw.renT Aw.renS Aw.wpO Aw.aop Aw.putTm Aw.St.ev Aw.St.put Aw.St.putO Aw.binAV Aw.intBin Aw.strBin Aw.pickAV Aw.optInt Aw.AV.strip Aw.AV.guard Aw.AV.cells Aw.gdOb Aw.AOp.opds Aw.AOp.still Aw.ptrCells Aw.St.reg Aw.fillAV Aw.fillOb Aw.elsOb Aw.splice Aw.firm Aw.cellish Aw.AV.shut Aw.shutAll Aw.Seq Aw.Blk Aw.retS_nil Aw.mapA Aw.mapL Aw.borA Aw.borOb Aw.allOb Aw.tupOf Aw.params Aw.Opd.of Array.toList Value.cells List.map_cons List.map_nil List.getD_cons_zero List.getD_cons_succ List.getD_nil List.length_cons List.length_nil List.take_succ_cons List.take_zero List.take_nil List.drop_zero List.drop_succ_cons List.drop_nil List.set_cons_zero List.set_cons_succ List.append_nil List.nil_append List.cons_append List.all_cons List.all_nil cond_false cond_true if_true if_false true_and and_true Bool.and_true Bool.true_and Option.map_some Option.map_none false_implies forall_const implies_true forall_eq imp_self Bool.cond_false_right Bool.cond_true_left beq_true beq_false Bool.not_eq_true' Bool.false_eq_true Nat.zero_add Nat.add_zero Aw.eqCells Aw.stopDraw Aw.skipS Aw.exactCap Aw.revealS Aw.srcEls Aw.srcSz
attribute [local go_sem ↓] Aw.look_nil Aw.look_ite Aw.wpL_nil Aw.wpL_op Aw.wpL_gd Aw.wpQ_nil Aw.wpQ_op Aw.wpQ_gd Aw.wpC_draw Aw.wpC_reg Aw.wpC_skip Aw.wpC_ret Aw.wpC_exit Aw.wpC_seq Aw.wpC_block Aw.wpC_loop Aw.wpC_cond Aw.stopAt_nil Aw.stopAt_cons Aw.wpD_skip Aw.wpD_ret Aw.wpD_exit Aw.wpD_region Aw.wpD_draw Aw.wpM_nil Aw.wpM_op Aw.wpM_gd Aw.wpD_seq Aw.wpD_block Aw.wpD_loop Aw.wpD_cond
/- slices.insertionSortCmpFunc[gridhall/api.AlarmEntry] -/
def a62 : ACode :=
  (.seq (.region false [] [
     ⟨(some 10), none, (.mov (.t 1))⟩,
     ⟨(some 11), none, (.bin .add 3 (.t 10) (.v (.int .i64 1)))⟩,
     ⟨(some 8), none, (.mov (.t 11))⟩])
  (.block 0 (.loop (.seq (.seq (.region false [] [
       ⟨(some 12), none, (.mov (.t 8))⟩,
       ⟨(some 13), none, (.mov (.t 2))⟩,
       ⟨(some 14), none, (.bin .lss 3 (.t 12) (.t 13))⟩])
    (.cond (.t 14)
      .skip
      (.exit 0)))
    (.seq (.block 1 (.seq (.region false [] [
        ⟨(some 17), none, (.mov (.t 8))⟩,
        ⟨(some 9), none, (.mov (.t 17))⟩])
     (.block 2 (.loop (.seq (.seq (.region true [[], [], [0, 1], [2], [3], [3], [3], [5, 6, 3], [7, 3], [3], [3], [10, 3], [9, 11, 3], [12, 3], [4, 8, 13, 3, 3], [14, 3], [3, 15]] [
          ⟨(some 18), none, (.mov (.t 9))⟩,
          ⟨(some 19), none, (.mov (.t 1))⟩,
          ⟨(some 20), none, (.bin .gtr 3 (.t 18) (.t 19))⟩,
          ⟨(some 21), none, (.mov (.t 20))⟩,
          ⟨(some 22), (some (21, true)), (.mov (.t 3))⟩,
          ⟨(some 23), (some (21, true)), (.mov (.t 0))⟩,
          ⟨(some 24), (some (21, true)), (.mov (.t 9))⟩,
          ⟨(some 25), (some (21, true)), (.idx 3 (.t 23) (.t 24))⟩,
          ⟨(some 26), (some (21, true)), (.load 3 true (.t 25))⟩,
          ⟨(some 27), (some (21, true)), (.mov (.t 0))⟩,
          ⟨(some 28), (some (21, true)), (.mov (.t 9))⟩,
          ⟨(some 29), (some (21, true)), (.bin .sub 3 (.t 28) (.v (.int .i64 1)))⟩,
          ⟨(some 30), (some (21, true)), (.idx 3 (.t 27) (.t 29))⟩,
          ⟨(some 31), (some (21, true)), (.load 3 true (.t 30))⟩,
          ⟨(some 32), (some (21, true)), (.callv (.t 22) [(.t 26), (.t 31)])⟩,
          ⟨(some 33), (some (21, true)), (.bin .lss 3 (.t 32) (.v (.int .i64 0)))⟩,
          ⟨(some 34), none, (.pick (.t 21) (.t 33) (.v (.bool false)))⟩])
       (.cond (.t 34)
         .skip
         (.exit 2)))
       (.seq (.block 3 (.region true [[], [], [], [], [3], [], [], [6], [5, 7], [8], [], [], [10, 11], [12], [0, 1, 0, 1, 5, 6, 7, 8, 9, 13], [14, 9, 0, 1, 5, 6, 7, 8, 9, 13], [2, 4, 0, 1, 2, 3, 4, 5, 6, 7, 8, 9, 10, 11, 12, 13, 14, 15], [16, 13, 15, 0, 1, 2, 3, 4, 5, 6, 7, 8, 9, 10, 11, 12, 13, 14, 15]] [
           ⟨(some 37), none, (.mov (.t 0))⟩,
           ⟨(some 38), none, (.mov (.t 9))⟩,
           ⟨(some 39), none, (.mov (.t 0))⟩,
           ⟨(some 40), none, (.mov (.t 9))⟩,
           ⟨(some 41), none, (.bin .sub 3 (.t 40) (.v (.int .i64 1)))⟩,
           ⟨(some 42), none, (.mov (.t 0))⟩,
           ⟨(some 43), none, (.mov (.t 9))⟩,
           ⟨(some 44), none, (.bin .sub 3 (.t 43) (.v (.int .i64 1)))⟩,
           ⟨(some 45), none, (.idx 3 (.t 42) (.t 44))⟩,
           ⟨(some 46), none, (.load 3 true (.t 45))⟩,
           ⟨(some 47), none, (.mov (.t 0))⟩,
           ⟨(some 48), none, (.mov (.t 9))⟩,
           ⟨(some 49), none, (.idx 3 (.t 47) (.t 48))⟩,
           ⟨(some 50), none, (.load 3 true (.t 49))⟩,
           ⟨(some 51), none, (.idx 3 (.t 37) (.t 38))⟩,
           ⟨none, none, (.store 3 (.t 51) (.t 46))⟩,
           ⟨(some 52), none, (.idx 3 (.t 39) (.t 41))⟩,
           ⟨none, none, (.store 3 (.t 52) (.t 50))⟩]))
       (.region false [] [
          ⟨(some 35), none, (.mov (.t 9))⟩,
          ⟨(some 36), none, (.bin .sub 3 (.t 35) (.v (.int .i64 1)))⟩,
          ⟨(some 9), none, (.mov (.t 36))⟩])))))))
    (.region false [] [
       ⟨(some 15), none, (.mov (.t 8))⟩,
       ⟨(some 16), none, (.bin .add 3 (.t 15) (.v (.int .i64 1)))⟩,
       ⟨(some 8), none, (.mov (.t 16))⟩]))))))
theorem k62 : FnIs Try.prog 62 53 [] a62 := ⟨_, _, Try.func62, rfl, by kernel_rfl, by kernel_rfl, rfl⟩

/-- The same entries, with the same times at each place. -/
def Srt (l l' : List Ale) : Prop := l'.Perm l ∧ l'.map Ale.time = l.map Ale.time
theorem Srt.len {l l' : List Ale} (h : Srt l l') : l'.length = l.length := h.1.length_eq
def Tim (l : List Ale) : Prop := (l.map Ale.time).Pairwise (· ≤ ·)
theorem Srt.tim {l l' : List Ale} (h : Srt l l') (ht : Tim l) : Tim l' := by unfold Tim; rw [h.2]; exact ht
theorem cmpA_neg {x y : Ale} (h : cmpA x y < 0) : x.time ≤ y.time := by
  unfold cmpA orI at h
  by_cases h1 : x.time ≤ y.time
  · exact h1
  · have : cmpI x.time y.time = 1 := by unfold cmpI; rw [if_neg (by omega), if_pos (by omega)]
    rw [this, if_pos (by decide)] at h
    omega
theorem Srt.swap {l l' : List Ale} (h : Srt l l') (ht : Tim l) {j : Nat} (h1 : j + 1 < l'.length) (hc : cmpA l'[j + 1] l'[j] < 0) : Srt l ((l'.set (j + 1) l'[j]).set j l'[j + 1]) := by
  have hle := cmpA_neg hc
  have hge : l'[j].time ≤ l'[j + 1].time := by
    have := h.tim ht
    unfold Tim at this
    rw [List.pairwise_map, List.pairwise_iff_getElem] at this
    exact this j (j + 1) (by omega) h1 (by omega)
  have he : l'[j].time = l'[j + 1].time := by omega
  refine ⟨(List.set_set_perm _ _).trans h.1, ?_⟩
  rw [← h.2, List.map_set, List.map_set]
  apply List.ext_getElem
  · simp
  · intro i hi1 hi2
    rw [List.getElem_set, List.getElem_set]
    simp only [List.getElem_map]
    split
    · rename_i e; subst e; exact he.symm
    · split
      · rename_i e; subst e; exact he
      · rfl
theorem AOne.weak {P : Program} {E : Env} {m : Bool} {g : GOp} {s s' : St} {K : St → Prop} (hw : Weak E s s') (h : AOne P E m g s' K) : AOne P E m g s K := fun ops o hg a w hrel => h ops o hg a w (hw a w hrel)
set_option maxRecDepth 100000 in
set_option maxHeartbeats 4000000 in
theorem s62 (l : List Ale) (hl : l.length ≤ 12) (ht : Tim l) : SpecK Try.prog 62 [.arr 48 3 (l.map alc)] [.hnd 0 0 l.length l.length false, I 0, I l.length, .fn 36 []]
    (fun rg v => ∃ l', Srt l l' ∧ rg = [.arr 48 3 (l'.map alc)] ∧ v = .tup []) := by
  refine SpecK.regsW k62 rfl rfl fun E hn hnp hp => ?_
  unfold a62
  have e1 : IntKind.i64.wrap ((0 : Int) + 1) = 1 := by decide
  refine AWp.ofD [] [] hn mixed rfl ?_
  simp (config := { maxSteps := 2000000 }) only [go_sem, ↓reduceIte, Int.reduceToNat, Nat.reduceMul, Int.reduceBEq, Int.reduceBNe, Nat.reduceBEq, Nat.reduceAdd, Nat.reduceSub, Nat.reduceLeDiff, Nat.reduceEqDiff, Nat.reduceLT, reduceCtorEq, e1]
  refine AWp.loop (fun k s => ∃ (i : Nat) (l' : List Ale), i + k = l.length + 1 ∧ 1 ≤ i ∧ Srt l l' ∧ Weak E s ⟨[(0, .hnd 0 0 l.length l.length false), (1, I 0), (2, I l.length), (3, .fn 36 []), (8, I i)], [.arr 48 3 (l'.map alc)]⟩) (n := l.length)
    ⟨1, l, by omega, Nat.le_refl _, ⟨.refl _, rfl⟩, weak_to [0] hp hnp rfl (by simp (config := { maxSteps := 2000000 }) only [go_sem, ↓reduceIte, Int.reduceToNat, Nat.reduceMul, Int.reduceBEq, Int.reduceBNe, Nat.reduceBEq, Nat.reduceAdd, Nat.reduceSub, Nat.reduceLeDiff, Nat.reduceEqDiff, Nat.reduceLT, reduceCtorEq, Int.natCast_one, Aw.pos]) (by simp (config := { maxSteps := 2000000 }) only [go_sem, ↓reduceIte, Int.reduceToNat, Nat.reduceMul, Int.reduceBEq, Int.reduceBNe, Nat.reduceBEq, Nat.reduceAdd, Nat.reduceSub, Nat.reduceLeDiff, Nat.reduceEqDiff, Nat.reduceLT, reduceCtorEq, Aw.renR, Aw.pos])⟩ ?_
  rintro k s ⟨i, l', hik, hi1, hs, hw⟩
  refine AWp.weak hw (AWp.ofD [] [] hn mixed rfl ?_)
  have hll := hs.len
  by_cases hi : i < l.length
  · have e0 : decide ((i : Int) < (l.length : Int)) = true := decide_eq_true (by omega)
    simp (config := { maxSteps := 2000000 }) only [go_sem, ↓reduceIte, Int.reduceToNat, Nat.reduceMul, Int.reduceBEq, Int.reduceBNe, Nat.reduceBEq, Nat.reduceAdd, Nat.reduceSub, Nat.reduceLeDiff, Nat.reduceEqDiff, Nat.reduceLT, reduceCtorEq, e0]
    refine AWp.loop (fun k2 s => ∃ l' : List Ale, k2 ≤ i ∧ Srt l l' ∧ Weak E s ⟨[(0, .hnd 0 0 l.length l.length false), (1, I 0), (2, I l.length), (3, .fn 36 []), (8, I i), (9, I k2)], [.arr 48 3 (l'.map alc)]⟩) (n := i)
      ⟨l', Nat.le_refl _, hs, weak_to [0] hp hnp rfl (by simp (config := { maxSteps := 2000000 }) only [go_sem, ↓reduceIte, Int.reduceToNat, Nat.reduceMul, Int.reduceBEq, Int.reduceBNe, Nat.reduceBEq, Nat.reduceAdd, Nat.reduceSub, Nat.reduceLeDiff, Nat.reduceEqDiff, Nat.reduceLT, reduceCtorEq, Aw.pos]) (by simp (config := { maxSteps := 2000000 }) only [go_sem, ↓reduceIte, Int.reduceToNat, Nat.reduceMul, Int.reduceBEq, Int.reduceBNe, Nat.reduceBEq, Nat.reduceAdd, Nat.reduceSub, Nat.reduceLeDiff, Nat.reduceEqDiff, Nat.reduceLT, reduceCtorEq, Aw.renR, Aw.pos])⟩ ?_
    rintro j s2 ⟨l2, hji, hs2, hw2⟩
    refine AWp.weak hw2 (AWp.ofD [999] [] hn mixed rfl ?_)
    have hl2 := hs2.len
    have e9 : IntKind.i64.wrap ((i : Int) + 1) = ((i + 1 : Nat) : Int) := by rw [w64 (by omega) (by omega)]; omega
    simp (config := { maxSteps := 2000000 }) only [go_sem, ↓reduceIte, Int.reduceToNat, Nat.reduceMul, Int.reduceBEq, Int.reduceBNe, Nat.reduceBEq, Nat.reduceAdd, Nat.reduceSub, Nat.reduceLeDiff, Nat.reduceEqDiff, Nat.reduceLT, reduceCtorEq]
    cases j with
    | zero =>
      have e2 : decide ((0 : Int) > 0) = false := by decide
      refine AWp.plan (.take 0 [false, true, false, false, false, false, false, false, false, false, false, false, false, false, false, false, false] (.take 1 [true, false, false, false, false, false, false, false, false, false, false, false, false, false, false, false, false] (.take 2 [true, true, false, false, false, false, false, false, false, false, false, false, false, false, false, false, false] (.take 3 [true, true, true, false, false, false, false, false, false, false, false, false, false, false, false, false, false] (.take 4 [true, true, true, true, false, true, true, true, true, true, true, true, true, true, false, false, false] (.take 5 [true, true, true, true, true, false, true, false, false, true, true, true, true, true, false, false, false] (.take 6 [true, true, true, true, true, true, false, false, false, true, true, true, true, true, false, false, false] (.take 7 [true, true, true, true, true, true, true, false, false, true, true, true, true, true, false, false, false] (.take 8 [true, true, true, true, true, true, true, true, false, true, true, true, true, true, false, false, false] (.take 9 [true, true, true, true, true, true, true, true, true, false, true, true, false, false, false, false, false] (.take 10 [true, true, true, true, true, true, true, true, true, true, false, false, false, false, false, false, false] (.take 11 [true, true, true, true, true, true, true, true, true, true, true, false, false, false, false, false, false] (.take 12 [true, true, true, true, true, true, true, true, true, true, true, true, false, false, false, false, false] (.take 13 [true, true, true, true, true, true, true, true, true, true, true, true, true, false, false, false, false] (.one 14 (.take 15 [true, true, true, true, true, true, true, true, true, true, true, true, true, true, true, false, false] (.take 16 [true, true, true, true, true, true, true, true, true, true, true, true, true, true, true, true, false] .done))))))))))))))))) [true, true, true, true, true, true, true, true, true, true, true, true, true, true, true, true, true] mixed hn rfl rfl ?_
      simp (config := { maxSteps := 2000000 }) only [go_sem, ↓reduceIte, Int.reduceToNat, Nat.reduceMul, Int.reduceBEq, Int.reduceBNe, Nat.reduceBEq, Nat.reduceAdd, Nat.reduceSub, Nat.reduceLeDiff, Nat.reduceEqDiff, Nat.reduceLT, reduceCtorEq, Int.natCast_zero, e2]
      refine AOne.weakK (AOne.guardF (by rw [hn]; rfl) rfl ⟨_, weak_ent 32 (y := .opt false (I 0)) (by rfl) Ent.off, ?_⟩)
      simp (config := { maxSteps := 2000000 }) only [go_sem, ↓reduceIte, Int.reduceToNat, Nat.reduceMul, Int.reduceBEq, Int.reduceBNe, Nat.reduceBEq, Nat.reduceAdd, Nat.reduceSub, Nat.reduceLeDiff, Nat.reduceEqDiff, Nat.reduceLT, reduceCtorEq]
      exact ⟨k - 1, by omega, i + 1, l2, by omega, by omega, hs2, weak_to [0] hp hnp rfl (by simp (config := { maxSteps := 2000000 }) only [go_sem, ↓reduceIte, Int.reduceToNat, Nat.reduceMul, Int.reduceBEq, Int.reduceBNe, Nat.reduceBEq, Nat.reduceAdd, Nat.reduceSub, Nat.reduceLeDiff, Nat.reduceEqDiff, Nat.reduceLT, reduceCtorEq, e9, Aw.pos]) (by simp (config := { maxSteps := 2000000 }) only [go_sem, ↓reduceIte, Int.reduceToNat, Nat.reduceMul, Int.reduceBEq, Int.reduceBNe, Nat.reduceBEq, Nat.reduceAdd, Nat.reduceSub, Nat.reduceLeDiff, Nat.reduceEqDiff, Nat.reduceLT, reduceCtorEq, Aw.renR, Aw.pos])⟩
    | succ j =>
      have hj1 : j + 1 < l2.length := by omega
      have e2 : decide (((j + 1 : Nat) : Int) > 0) = true := decide_eq_true (by omega)
      have e3 : IntKind.i64.wrap (((j + 1 : Nat) : Int) - 1) = j := by rw [w64 (by omega) (by omega)]; omega
      have e4 := getD_map alc hj1
      have e5 := getD_map alc (show j < l2.length by omega)
      refine AWp.plan (.take 0 [false, true, false, false, false, false, false, false, false, false, false, false, false, false, false, false, false] (.take 1 [true, false, false, false, false, false, false, false, false, false, false, false, false, false, false, false, false] (.take 2 [true, true, false, false, false, false, false, false, false, false, false, false, false, false, false, false, false] (.take 3 [true, true, true, false, false, false, false, false, false, false, false, false, false, false, false, false, false] (.take 4 [true, true, true, true, false, true, true, true, true, true, true, true, true, true, false, false, false] (.take 5 [true, true, true, true, true, false, true, false, false, true, true, true, true, true, false, false, false] (.take 6 [true, true, true, true, true, true, false, false, false, true, true, true, true, true, false, false, false] (.take 7 [true, true, true, true, true, true, true, false, false, true, true, true, true, true, false, false, false] (.take 8 [true, true, true, true, true, true, true, true, false, true, true, true, true, true, false, false, false] (.take 9 [true, true, true, true, true, true, true, true, true, false, true, true, false, false, false, false, false] (.take 10 [true, true, true, true, true, true, true, true, true, true, false, false, false, false, false, false, false] (.take 11 [true, true, true, true, true, true, true, true, true, true, true, false, false, false, false, false, false] (.take 12 [true, true, true, true, true, true, true, true, true, true, true, true, false, false, false, false, false] (.take 13 [true, true, true, true, true, true, true, true, true, true, true, true, true, false, false, false, false] (.one 14 (.take 15 [true, true, true, true, true, true, true, true, true, true, true, true, true, true, true, false, false] (.take 16 [true, true, true, true, true, true, true, true, true, true, true, true, true, true, true, true, false] .done))))))))))))))))) [true, true, true, true, true, true, true, true, true, true, true, true, true, true, true, true, true] mixed hn rfl rfl ?_
      simp (config := { maxSteps := 2000000 }) only [go_sem, ↓reduceIte, Int.reduceToNat, Nat.reduceMul, Int.reduceBEq, Int.reduceBNe, Nat.reduceBEq, Nat.reduceAdd, Nat.reduceSub, Nat.reduceLeDiff, Nat.reduceEqDiff, Nat.reduceLT, reduceCtorEq, e2, e3, e4, e5]
      refine ⟨⟨by omega, by omega⟩, hj1, ⟨by omega, by omega⟩, by omega, ?_⟩
      refine AOne.guardT rfl (AOne.weak (weak_opt 22 rfl) (AOne.weak (weak_opt 26 rfl) (AOne.weak (weak_opt 31 rfl) ?_)))
      refine AOne_callve (caps := []) rfl (by kernel_rfl) (s36 l2[j + 1] l2[j]) rfl (by rw [hn]; rfl) (by simp (config := { maxSteps := 2000000 }) only [go_sem, ↓reduceIte, Int.reduceToNat, Nat.reduceMul, Int.reduceBEq, Int.reduceBNe, Nat.reduceBEq, Nat.reduceAdd, Nat.reduceSub, Nat.reduceLeDiff, Nat.reduceEqDiff, Nat.reduceLT, reduceCtorEq]) (by simp (config := { maxSteps := 2000000 }) only [go_sem, ↓reduceIte, Int.reduceToNat, Nat.reduceMul, Int.reduceBEq, Int.reduceBNe, Nat.reduceBEq, Nat.reduceAdd, Nat.reduceSub, Nat.reduceLeDiff, Nat.reduceEqDiff, Nat.reduceLT, reduceCtorEq]) ?_
      by_cases hc : cmpA l2[j + 1] l2[j] < 0
      · have e6 : decide (cmpA l2[j + 1] l2[j] < 0) = true := decide_eq_true hc
        simp (config := { maxSteps := 2000000 }) only [go_sem, ↓reduceIte, Int.reduceToNat, Nat.reduceMul, Int.reduceBEq, Int.reduceBNe, Nat.reduceBEq, Nat.reduceAdd, Nat.reduceSub, Nat.reduceLeDiff, Nat.reduceEqDiff, Nat.reduceLT, reduceCtorEq, e6]
        refine AWp.plan (.take 0 [false, true, true, true, true, true, true, true, true, true, true, true, true, true, false, false, false, false] (.take 1 [true, false, true, true, true, true, true, true, true, true, true, true, true, true, false, false, false, false] (.take 5 [true, true, true, true, true, false, true, true, false, false, true, true, true, true, false, false, false, false] (.take 6 [true, true, true, true, true, true, false, false, false, false, true, true, true, true, false, false, false, false] (.take 7 [true, true, true, true, true, true, true, false, false, false, true, true, true, true, false, false, false, false] (.take 8 [true, true, true, true, true, true, true, true, false, false, true, true, true, true, false, false, false, false] (.take 9 [true, true, true, true, true, true, true, true, true, false, true, true, true, true, false, false, false, false] (.take 10 [true, true, true, true, true, true, true, true, true, true, false, true, false, false, false, false, false, false] (.take 11 [true, true, true, true, true, true, true, true, true, true, true, false, false, false, false, false, false, false] (.take 12 [true, true, true, true, true, true, true, true, true, true, true, true, false, false, false, false, false, false] (.take 13 [true, true, true, true, true, true, true, true, true, true, true, true, true, false, false, false, false, false] (.take 14 [true, true, true, true, true, true, true, true, true, true, true, true, true, true, false, false, false, false] (.three 2 (.two 3 (.two 4 (.one 15 (.take 16 [true, true, true, true, true, true, true, true, true, true, true, true, true, true, true, true, false, false] (.one 17 .done))) 15 (.take 4 [true, true, true, true, false, true, true, true, true, true, true, true, true, true, true, true, false, false] (.take 16 [true, true, true, true, true, true, true, true, true, true, true, true, true, true, true, true, false, false] (.one 17 .done)))) 15 (.take 3 [true, true, true, false, false, true, true, true, true, true, true, true, true, true, true, true, false, false] (.take 4 [true, true, true, true, false, true, true, true, true, true, true, true, true, true, true, true, false, false] (.take 16 [true, true, true, true, true, true, true, true, true, true, true, true, true, true, true, true, false, false] (.one 17 .done))))) 3 (.three 2 (.two 4 (.one 15 (.take 16 [true, true, true, true, true, true, true, true, true, true, true, true, true, true, true, true, false, false] (.one 17 .done))) 15 (.take 4 [true, true, true, true, false, true, true, true, true, true, true, true, true, true, true, true, false, false] (.take 16 [true, true, true, true, true, true, true, true, true, true, true, true, true, true, true, true, false, false] (.one 17 .done)))) 4 (.two 2 (.one 15 (.take 16 [true, true, true, true, true, true, true, true, true, true, true, true, true, true, true, true, false, false] (.one 17 .done))) 15 (.take 2 [true, true, false, true, true, true, true, true, true, true, true, true, true, true, true, true, false, false] (.take 16 [true, true, true, true, true, true, true, true, true, true, true, true, true, true, true, true, false, false] (.one 17 .done)))) 15 (.take 2 [true, true, false, true, true, true, true, true, true, true, true, true, true, true, true, true, false, false] (.take 4 [true, true, true, true, false, true, true, true, true, true, true, true, true, true, true, true, false, false] (.take 16 [true, true, true, true, true, true, true, true, true, true, true, true, true, true, true, true, false, false] (.one 17 .done))))) 15 (.take 2 [true, true, false, true, true, true, true, true, true, true, true, true, true, true, true, true, false, false] (.take 3 [true, true, true, false, false, true, true, true, true, true, true, true, true, true, true, true, false, false] (.take 4 [true, true, true, true, false, true, true, true, true, true, true, true, true, true, true, true, false, false] (.take 16 [true, true, true, true, true, true, true, true, true, true, true, true, true, true, true, true, false, false] (.one 17 .done)))))))))))))))))) [true, true, true, true, true, true, true, true, true, true, true, true, true, true, true, false, true, false] mixed hn rfl rfl ?_
        simp (config := { maxSteps := 2000000 }) only [go_sem, ↓reduceIte, Int.reduceToNat, Nat.reduceMul, Int.reduceBEq, Int.reduceBNe, Nat.reduceBEq, Nat.reduceAdd, Nat.reduceSub, Nat.reduceLeDiff, Nat.reduceEqDiff, Nat.reduceLT, reduceCtorEq, e3, e4, e5]
        have hsw := hs2.swap ht hj1 hc
        have g1 := e4
        have g2 := e5
        have hlm : (l2.map alc).length = l2.length := List.length_map ..
        have e7 : ((l2.map alc).set (j + 1) [S l2[j].name, I l2[j].time, B l2[j].ack]).getD j [] = [S l2[j].name, I l2[j].time, B l2[j].ack] := by
          rw [List.getD_eq_getElem?_getD, List.getElem?_set_ne (by omega), ← List.getD_eq_getElem?_getD]; exact e5
        have e8 : ((l2.map alc).set j [S l2[j + 1].name, I l2[j + 1].time, B l2[j + 1].ack]).getD (j + 1) [] = [S l2[j + 1].name, I l2[j + 1].time, B l2[j + 1].ack] := by
          rw [List.getD_eq_getElem?_getD, List.getElem?_set_ne (by omega), ← List.getD_eq_getElem?_getD]; exact e4
        have h1 : ((l2.map alc).set (j + 1) [S l2[j].name, I l2[j].time, B l2[j].ack]).set j [S l2[j + 1].name, I l2[j + 1].time, B l2[j + 1].ack] = ((l2.set (j + 1) l2[j]).set j l2[j + 1]).map alc := by
          rw [List.map_set, List.map_set]
        have h2 : ((l2.map alc).set j [S l2[j + 1].name, I l2[j + 1].time, B l2[j + 1].ack]).set (j + 1) [S l2[j].name, I l2[j].time, B l2[j].ack] = ((l2.set (j + 1) l2[j]).set j l2[j + 1]).map alc := by
          rw [List.set_comm _ _ (by omega), h1]
        simp (config := { maxSteps := 2000000 }) only [go_sem, ↓reduceIte, Int.reduceToNat, Nat.reduceMul, Int.reduceBEq, Int.reduceBNe, Nat.reduceBEq, Nat.reduceAdd, Nat.reduceSub, Nat.reduceLeDiff, Nat.reduceEqDiff, Nat.reduceLT, reduceCtorEq, e7, e8, h1, h2, List.length_set]
        repeat' first
          | omega
          | (refine ⟨by omega, by omega⟩)
          | exact ⟨j, by omega, _, by omega, hsw, weak_to [0] hp hnp rfl (by simp (config := { maxSteps := 2000000 }) only [go_sem, ↓reduceIte, Int.reduceToNat, Nat.reduceMul, Int.reduceBEq, Int.reduceBNe, Nat.reduceBEq, Nat.reduceAdd, Nat.reduceSub, Nat.reduceLeDiff, Nat.reduceEqDiff, Nat.reduceLT, reduceCtorEq, Aw.pos]) (by simp (config := { maxSteps := 2000000 }) only [go_sem, ↓reduceIte, Int.reduceToNat, Nat.reduceMul, Int.reduceBEq, Int.reduceBNe, Nat.reduceBEq, Nat.reduceAdd, Nat.reduceSub, Nat.reduceLeDiff, Nat.reduceEqDiff, Nat.reduceLT, reduceCtorEq, Aw.renR, Aw.pos])⟩
          | (refine And.intro ?_ ?_)
      · have e6 : decide (cmpA l2[j + 1] l2[j] < 0) = false := decide_eq_false hc
        simp (config := { maxSteps := 2000000 }) only [go_sem, ↓reduceIte, Int.reduceToNat, Nat.reduceMul, Int.reduceBEq, Int.reduceBNe, Nat.reduceBEq, Nat.reduceAdd, Nat.reduceSub, Nat.reduceLeDiff, Nat.reduceEqDiff, Nat.reduceLT, reduceCtorEq, e6]
        exact ⟨k - 1, by omega, i + 1, l2, by omega, by omega, hs2, weak_to [0] hp hnp rfl (by simp (config := { maxSteps := 2000000 }) only [go_sem, ↓reduceIte, Int.reduceToNat, Nat.reduceMul, Int.reduceBEq, Int.reduceBNe, Nat.reduceBEq, Nat.reduceAdd, Nat.reduceSub, Nat.reduceLeDiff, Nat.reduceEqDiff, Nat.reduceLT, reduceCtorEq, e9, Aw.pos]) (by simp (config := { maxSteps := 2000000 }) only [go_sem, ↓reduceIte, Int.reduceToNat, Nat.reduceMul, Int.reduceBEq, Int.reduceBNe, Nat.reduceBEq, Nat.reduceAdd, Nat.reduceSub, Nat.reduceLeDiff, Nat.reduceEqDiff, Nat.reduceLT, reduceCtorEq, Aw.renR, Aw.pos])⟩
  · have e0 : decide ((i : Int) < (l.length : Int)) = false := decide_eq_false (by omega)
    simp (config := { maxSteps := 2000000 }) only [go_sem, ↓reduceIte, Int.reduceToNat, Nat.reduceMul, Int.reduceBEq, Int.reduceBNe, Nat.reduceBEq, Nat.reduceAdd, Nat.reduceSub, Nat.reduceLeDiff, Nat.reduceEqDiff, Nat.reduceLT, reduceCtorEq, e0]
    refine Retn.normal (π := [0]) hp hnp ⟨rfl, ?_⟩
    simp (config := { maxSteps := 2000000 }) only [go_sem, ↓reduceIte, Int.reduceToNat, Nat.reduceMul, Int.reduceBEq, Int.reduceBNe, Nat.reduceBEq, Nat.reduceAdd, Nat.reduceSub, Nat.reduceLeDiff, Nat.reduceEqDiff, Nat.reduceLT, reduceCtorEq, Aw.renR, Aw.pos]
    exact ⟨l', hs, rfl⟩
end Go.Proofs.Ytoickofcmngdjaa
