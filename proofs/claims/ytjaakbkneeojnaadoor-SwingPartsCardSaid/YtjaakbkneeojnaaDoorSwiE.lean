/- Swing: Run and its law. -/
import Derived.Test.YtjaakbkneeojnaaDoorAwZl
import Derived.Test.YtjaakbkneeojnaaDoorSwiC
set_option linter.unusedVariables false
set_option linter.unusedSimpArgs false
namespace Go.Proofs.YtjaakbkneeojnaaDoor
open Go.Proofs.YtjaakbkneeojnaaDoor.Aw
attribute [local go_sem] Int.natCast_zero Int.natCast_one bne_self_eq_false beq_self_eq_true Bool.not_true Bool.not_false Option.isSome_none Option.isSome_some Aw.bkM_nil Option.getD_some Option.getD_none Nat.sub_zero Int.toNat_zero Aw.frzS Aw.frzT Aw.frzA Aw.frzL Aw.frzR Aw.frzO Aw.frzOL Aw.frzOT Aw.frzOR Aw.killS Aw.mapT Aw.mapR Aw.killM Aw.resAVs Aw.resAV Aw.quietOps Aw.wpP Aw.wpT Aw.wpS Aw.AOp.mild List.getElem?_cons_zero List.getElem?_cons_succ Bool.and_false Bool.and_self Bool.false_and Aw.opOb Aw.gdB Aw.Rnd Aw.subTm List.length_map Int.toNat_natCast and_self Aw.SeqC Aw.stops Aw.Ends Aw.looks Aw.renA Aw.renL Aw.renT Aw.renS Aw.wpO Aw.aop Aw.putTm Aw.St.ev Aw.St.put Aw.St.putO Aw.binAV Aw.intBin Aw.strBin Aw.pickAV Aw.optInt Aw.AV.strip Aw.AV.guard Aw.AV.cells Aw.gdOb Aw.AOp.opds Aw.AOp.still Aw.ptrCells Aw.St.reg Aw.fillAV Aw.fillOb Aw.elsOb Aw.splice Aw.firm Aw.cellish Aw.AV.shut Aw.shutAll Aw.Seq Aw.Blk Aw.retS_nil Aw.mapA Aw.mapL Aw.borA Aw.borOb Aw.allOb Aw.tupOf Aw.params Aw.Opd.of Array.toList Value.cells List.map_cons List.map_nil List.getD_cons_zero List.getD_cons_succ List.getD_nil List.length_cons List.length_nil List.take_succ_cons List.take_zero List.take_nil List.drop_zero List.drop_succ_cons List.drop_nil List.set_cons_zero List.set_cons_succ List.append_nil List.nil_append List.cons_append List.all_cons List.all_nil cond_false cond_true if_true if_false true_and and_true Bool.and_true Bool.true_and Option.map_some Option.map_none false_implies forall_const implies_true forall_eq imp_self Bool.cond_false_right Bool.cond_true_left beq_true beq_false Bool.not_eq_true' Bool.false_eq_true Nat.zero_add Nat.add_zero Aw.eqCells Aw.stopDraw Aw.skipS Aw.exactCap Aw.revealS Aw.srcEls Aw.srcSz
attribute [local go_sem ↓] Aw.look_nil Aw.look_ite Aw.wpL_nil Aw.wpL_op Aw.wpL_gd Aw.wpQ_nil Aw.wpQ_op Aw.wpQ_gd Aw.wpC_draw Aw.wpC_reg Aw.wpC_skip Aw.wpC_ret Aw.wpC_exit Aw.wpC_seq Aw.wpC_block Aw.wpC_loop Aw.wpC_cond Aw.stopAt_nil Aw.stopAt_cons Aw.wpD_skip Aw.wpD_ret Aw.wpD_exit Aw.wpD_region Aw.wpD_draw Aw.wpM_nil Aw.wpM_op Aw.wpM_gd Aw.wpD_seq Aw.wpD_block Aw.wpD_loop Aw.wpD_cond
/- gridhall/swing.Run -/
def a27 : ACode :=
  (.seq (.region false [] [
     ⟨(some 2), none, (.box 24 (.t 0))⟩,
     ⟨(some 4), none, (.mov (.v (.slice none 0 0)))⟩,
     ⟨(some 5), none, (.mov (.v (.int .i64 0)))⟩])
  (.seq (.seq (.region false [] [
     ⟨(some 11), none, (.load 5 true (.t 2))⟩,
     ⟨(some 12), none, (.call 18 [(.t 11)])⟩,
     ⟨(some 6), none, (.mov (.t 12))⟩])
  (.seq (.region false [] [
     ⟨(some 13), none, (.mov (.t 6))⟩,
     ⟨(some 14), none, (.bin .neq 25 (.t 13) (.v (.int .i64 0)))⟩])
  (.cond (.t 14)
    (.seq (.region false [] [
       ⟨(some 15), none, (.mov (.t 6))⟩,
       ⟨(some 4), none, (.mov (.v (.slice none 0 0)))⟩,
       ⟨(some 5), none, (.mov (.t 15))⟩])
    .ret)
    .skip)))
  (.seq (.seq (.region false [] [
     ⟨(some 16), none, (.mov (.t 1))⟩,
     ⟨(some 17), none, (.bin .lss 3 (.t 16) (.v (.int .i64 0)))⟩,
     ⟨(some 18), none, (.mov (.t 17))⟩,
     ⟨(some 19), (some (18, false)), (.mov (.t 1))⟩,
     ⟨(some 20), (some (18, false)), (.bin .gtr 3 (.t 19) (.v (.int .i64 200)))⟩,
     ⟨(some 21), none, (.pick (.t 18) (.v (.bool true)) (.t 20))⟩])
  (.cond (.t 21)
    (.seq (.region false [] [
       ⟨(some 4), none, (.mov (.v (.slice none 0 0)))⟩,
       ⟨(some 5), none, (.mov (.v (.int .i64 4)))⟩])
    .ret)
    .skip))
  (.seq (.region false [] [
     ⟨(some 7), none, (.mov (.v (.slice none 0 0)))⟩])
  (.seq (.region false [] [
     ⟨(some 22), none, (.fld 4 (.t 2))⟩,
     ⟨(some 23), none, (.load 1 false (.t 22))⟩,
     ⟨(some 24), none, (.call 41 [(.t 23)])⟩,
     ⟨(some 8), none, (.alloc 62 (.agg #[(.bool false), (.slice none 0 0), (.slice none 0 0)]))⟩,
     ⟨none, none, (.store 3 (.t 8) (.t 24))⟩])
  (.seq (.seq (.region false [] [
     ⟨(some 25), none, (.mov (.t 1))⟩,
     ⟨(some 26), none, (.mov (.v (.int .i64 0)))⟩])
  (.block 0 (.loop (.seq (.region false [] [
       ⟨(some 27), none, (.bin .lss 3 (.t 26) (.t 25))⟩])
    (.seq (.cond (.t 27)
      .skip
      (.exit 0))
    (.seq (.block 1 (.seq (.region false [] [
        ⟨(some 28), none, (.load 5 true (.t 2))⟩,
        ⟨(some 29), none, (.load 3 true (.t 8))⟩,
        ⟨(some 30), none, (.call 40 [(.t 28), (.t 29)])⟩,
        ⟨none, none, (.store 3 (.t 8) (.t 30))⟩])
     (.seq (.region false [] [
        ⟨(some 32), none, (.load 3 true (.t 8))⟩,
        ⟨(some 33), none, (.call 39 [(.t 32)])⟩,
        ⟨(some 31), none, (.mov (.t 33))⟩,
        ⟨(some 34), none, (.ext 0 (.t 31))⟩,
        ⟨(some 35), none, (.ext 1 (.t 31))⟩,
        ⟨(some 9), none, (.mov (.t 34))⟩,
        ⟨(some 10), none, (.mov (.t 35))⟩])
     (.seq (.seq (.region false [] [
        ⟨(some 36), none, (.mov (.t 10))⟩,
        ⟨(some 37), none, (.bin .neq 25 (.t 36) (.v (.int .i64 0)))⟩])
     (.cond (.t 37)
       (.seq (.region false [] [
          ⟨(some 38), none, (.mov (.t 10))⟩,
          ⟨(some 4), none, (.mov (.v (.slice none 0 0)))⟩,
          ⟨(some 5), none, (.mov (.t 38))⟩])
       .ret)
       .skip))
     (.region false [] [
        ⟨(some 39), none, (.mov (.t 7))⟩,
        ⟨(some 40), none, (.mov (.t 9))⟩,
        ⟨(some 41), none, (.bsl 22 1 1 [(0, (.t 40))])⟩,
        ⟨(some 42), none, (.app 22 1 16 (.string ⟨#[]⟩) (.t 39) (.t 41))⟩,
        ⟨(some 7), none, (.mov (.t 42))⟩])))))
    (.region false [] [
       ⟨(some 43), none, (.bin .add 3 (.t 26) (.v (.int .i64 1)))⟩,
       ⟨(some 26), none, (.mov (.t 43))⟩])))))))
  (.seq (.region false [] [
     ⟨(some 44), none, (.mov (.t 7))⟩,
     ⟨(some 4), none, (.mov (.t 44))⟩,
     ⟨(some 5), none, (.mov (.v (.int .i64 0)))⟩])
  .ret)))))))
theorem k27 : FnIs Tryd.prog 27 45 [.t 4, .t 5] a27 := ⟨_, _, Tryd.func27, rfl, by kernel_rfl, by kernel_rfl, rfl⟩

/-- The frequencies after 1, 2, .. n steps: none, if one is too long. -/
def runR (x : Isl) : Nat → Rat → List Rat × Bool
  | 0, _ => ([], true)
  | n + 1, f => if fitsR (stepR x f) then (stepR x f :: (runR x n (stepR x f)).1, (runR x n (stepR x f)).2) else ([], false)
theorem runR_succ (x : Isl) (n : Nat) (f : Rat) : runR x (n + 1) f = if fitsR (stepR x f) then (stepR x f :: (runR x n (stepR x f)).1, (runR x n (stepR x f)).2) else ([], false) := rfl
theorem runR_len (x : Isl) : ∀ (n : Nat) (f : Rat), (runR x n f).2 = true → (runR x n f).1.length = n
  | 0, _, _ => rfl
  | n + 1, f, h => by
    rw [runR_succ] at h ⊢
    split at h
    · rename_i hf
      rw [if_pos hf]
      show ((runR x n (stepR x f)).1).length + 1 = n + 1
      rw [runR_len x n _ h]
    · cases h
theorem runR_fits (x : Isl) : ∀ (n : Nat) (f : Rat), ∀ r ∈ (runR x n f).1, fitsR r
  | 0, _, r, h => by cases h
  | n + 1, f, r, h => by
    rw [runR_succ] at h
    split at h
    · rename_i hf
      rcases List.mem_cons.1 h with rfl | h
      · exact hf
      · exact runR_fits x n _ r h
    · cases h
def runS (x : Isl) (n : Int) : List Rat × Int :=
  if checkS x ≠ 0 then ([], checkS x) else if n < 0 ∨ n > 200 then ([], 4) else
  if (runR x n.toNat (inR x.freq)).2 = true then ((runR x n.toNat (inR x.freq)).1, 0) else ([], 2)
theorem fits_QB {q : QQ} (h : fitsQ q = 0) : QB 223 q := by
  unfold fitsQ at h
  split at h
  · cases h
  · rename_i h1
    rw [not_or] at h1
    refine ⟨?_, ?_⟩
    · have := num_nl (txt_digit q.num) (by omega)
      rwa [num_txt] at this
    · have := num_nl (txt_digit q.den) (by omega)
      rwa [num_txt] at this
set_option maxRecDepth 20000 in
set_option maxHeartbeats 1000000 in
theorem s27 (x : Isl) (n : Int) (hx : Sz x) : Aw.Spec Tryd.prog 27 [] [ia x, I n] (fun rg v => rg = [] ∧ v = .tup [.imm none false 1 ((runS x n).1.map fun r => bl (txtR r)), I (runS x n).2]) := by
  refine Spec.shut (Post := fun rg v => v = .tup [.imm none false 1 ((runS x n).1.map fun r => bl (txtR r)), I (runS x n).2]) ?_ fun rg v h => by subst h; exact ⟨rfl, rfl, rfl⟩
  refine Aw.Spec.regsW k27 rfl rfl fun E hn hnp hp => ?_
  unfold a27
  have pin : ∀ r, E.pin r = none := fun r => hp.none hnp (Nat.zero_le _)
  refine AWp.ofD [] [] hn mixed rfl ?_
  simp (config := { maxSteps := 2000000 }) only [go_sem, ↓reduceIte, Int.reduceToNat, Nat.reduceMul, Int.reduceBEq, Int.reduceBNe, Nat.reduceBEq, Nat.reduceAdd, Nat.reduceSub, Nat.reduceLeDiff, Nat.reduceEqDiff, Nat.reduceLT, reduceCtorEq]
  (refine AWpL.calle (s18 x hx) rfl (by rw [hn]; rfl) (by simp (config := { maxSteps := 2000000 }) only [go_sem, ↓reduceIte, Int.reduceToNat, Nat.reduceMul, Int.reduceBEq, Int.reduceBNe, Nat.reduceBEq, Nat.reduceAdd, Nat.reduceSub, Nat.reduceLeDiff, Nat.reduceEqDiff, Nat.reduceLT, reduceCtorEq]) (AWpL.ofM hn rfl ?_); simp (config := { maxSteps := 2000000 }) only [go_sem, ↓reduceIte, Int.reduceToNat, Nat.reduceMul, Int.reduceBEq, Int.reduceBNe, Nat.reduceBEq, Nat.reduceAdd, Nat.reduceSub, Nat.reduceLeDiff, Nat.reduceEqDiff, Nat.reduceLT, reduceCtorEq])
  unfold runS
  refine ⟨fun h => ?_, fun h => ⟨fun h2 => ?_, fun h2 => ?_⟩⟩
  · rw [if_pos (by simpa using h)]
    refine Retn.weak (weak_ent 4 (by rfl) (Ent.ofnil0 1)) _ ?_
    refine Retn.ret (π := []) hp hnp ⟨rfl, ?_⟩
    simp (config := { maxSteps := 2000000 }) only [go_sem, ↓reduceIte, Int.reduceToNat, Nat.reduceMul, Int.reduceBEq, Int.reduceBNe, Nat.reduceBEq, Nat.reduceAdd, Nat.reduceSub, Nat.reduceLeDiff, Nat.reduceEqDiff, Nat.reduceLT, reduceCtorEq, Aw.renR, Aw.pos]
  · have h0 : checkS x = 0 := by simpa using h
    simp only [Bool.or_eq_true, decide_eq_true_eq] at h2
    rw [if_neg (by simp [h0]), if_pos (by omega)]
    refine Retn.weak (weak_ent 4 (by rfl) (Ent.ofnil0 1)) _ ?_
    refine Retn.ret (π := []) hp hnp ⟨rfl, ?_⟩
    simp (config := { maxSteps := 2000000 }) only [go_sem, ↓reduceIte, Int.reduceToNat, Nat.reduceMul, Int.reduceBEq, Int.reduceBNe, Nat.reduceBEq, Nat.reduceAdd, Nat.reduceSub, Nat.reduceLeDiff, Nat.reduceEqDiff, Nat.reduceLT, reduceCtorEq, Aw.renR, Aw.pos]
  have h0 : checkS x = 0 := by simpa using h
  simp only [Bool.or_eq_false_iff, decide_eq_false_iff_not] at h2
  rw [if_neg (by simp [h0]), if_neg (by omega)]
  obtain ⟨hk, hv⟩ := checkS_ok h0
  have hQ := ratIn_QB hv
  (refine AWpL.callA [] (in_of hv hx) rfl rfl (by rw [hn]; rfl) rfl (fun r hr => .inr (pin r)) fun rg v hv => ?_; obtain ⟨rfl, rfl⟩ := hv; refine ⟨Nat.le_refl _, AWpL.ofM hn rfl ?_⟩)
  simp (config := { maxSteps := 2000000 }) only [go_sem, ↓reduceIte, Int.reduceToNat, Nat.reduceMul, Int.reduceBEq, Int.reduceBNe, Nat.reduceBEq, Nat.reduceAdd, Nat.reduceSub, Nat.reduceLeDiff, Nat.reduceEqDiff, Nat.reduceLT, reduceCtorEq, Aw.retS, Aw.retRg, Aw.kpM, Aw.bkM, Aw.pos, Aw.isBox]
  refine AWp.weak (weak_nil 7 22 1 rfl) ?_
  have hn200 : n.toNat ≤ 200 := by omega
  have hnn : ((n.toNat : Nat) : Int) = n := by omega
  refine AWp.loop (fun k s => ∃ (i : Nat) (q : QQ) (outs : List Rat), i + k = n.toNat ∧ Can q ∧ QB 223 q ∧ outs.length = i ∧ runR x n.toNat (inR x.freq) = (outs ++ (runR x k (rOf q)).1, (runR x k (rOf q)).2) ∧
      Weak E s ⟨[(2, .ptr 0 0 0), (7, .hnd 2 0 i i false), (8, .ptr 1 0 0), (25, I n), (26, I i)], [.box 24 (ic x), .box 62 (qv q).cells, .arr 22 1 (outs.map fun r => bl (txtR r))]⟩) (n := n.toNat)
    ⟨0, ratIn x.freq, [], by omega, in_can hv, hQ, rfl, rfl, weak_to [0, 1, 2] hp hnp rfl (by simp (config := { maxSteps := 2000000 }) only [go_sem, ↓reduceIte, Int.reduceToNat, Nat.reduceMul, Int.reduceBEq, Int.reduceBNe, Nat.reduceBEq, Nat.reduceAdd, Nat.reduceSub, Nat.reduceLeDiff, Nat.reduceEqDiff, Nat.reduceLT, reduceCtorEq, Aw.pos] <;> rfl) (by simp (config := { maxSteps := 2000000 }) only [go_sem, ↓reduceIte, Int.reduceToNat, Nat.reduceMul, Int.reduceBEq, Int.reduceBNe, Nat.reduceBEq, Nat.reduceAdd, Nat.reduceSub, Nat.reduceLeDiff, Nat.reduceEqDiff, Nat.reduceLT, reduceCtorEq, Aw.renR, Aw.pos] <;> rfl)⟩ ?_
  rintro k s ⟨i, q, outs, hi, hc, hqb, ho, hrun, hw⟩
  refine AWp.weak hw (AWp.ofD [] [] hn mixed rfl ?_)
  cases k with
  | zero =>
    have e0 : decide ((i : Int) < n) = false := decide_eq_false (by omega)
    simp (config := { maxSteps := 2000000 }) only [go_sem, ↓reduceIte, Int.reduceToNat, Nat.reduceMul, Int.reduceBEq, Int.reduceBNe, Nat.reduceBEq, Nat.reduceAdd, Nat.reduceSub, Nat.reduceLeDiff, Nat.reduceEqDiff, Nat.reduceLT, reduceCtorEq, e0]
    have hr2 : runR x 0 (rOf q) = ([], true) := rfl
    rw [hr2, List.append_nil] at hrun
    rw [hrun]
    dsimp only
    rw [if_pos rfl]
    refine Retn.weak (weak_freeze 2 rfl (pin 2) (by simp (config := { maxSteps := 2000000 }) only [go_sem, ↓reduceIte, Int.reduceToNat, Nat.reduceMul, Int.reduceBEq, Int.reduceBNe, Nat.reduceBEq, Nat.reduceAdd, Nat.reduceSub, Nat.reduceLeDiff, Nat.reduceEqDiff, Nat.reduceLT, reduceCtorEq, Nat.le_refl, List.length_map, ho])) _ ?_
    refine Retn.ret (π := []) hp hnp ⟨rfl, ?_⟩
    simp (config := { maxSteps := 2000000 }) only [go_sem, ↓reduceIte, Int.reduceToNat, Nat.reduceMul, Int.reduceBEq, Int.reduceBNe, Nat.reduceBEq, Nat.reduceAdd, Nat.reduceSub, Nat.reduceLeDiff, Nat.reduceEqDiff, Nat.reduceLT, reduceCtorEq, Aw.renR, Aw.pos]
    rw [List.take_of_length_le (by rw [List.length_map, ho]; exact Nat.le_refl _)]
  | succ k =>
    have e0 : decide ((i : Int) < n) = true := decide_eq_true (by omega)
    have e1 : IntKind.i64.wrap ((i : Int) + 1) = ((i + 1 : Nat) : Int) := by rw [w64 (by omega) (by omega)]; rfl
    rw [runR_succ] at hrun
    simp (config := { maxSteps := 2000000 }) only [go_sem, ↓reduceIte, Int.reduceToNat, Nat.reduceMul, Int.reduceBEq, Int.reduceBNe, Nat.reduceBEq, Nat.reduceAdd, Nat.reduceSub, Nat.reduceLeDiff, Nat.reduceEqDiff, Nat.reduceLT, reduceCtorEq, e0]
    (refine AWpL.callA [] (s40 x q hk hqb) rfl rfl (by rw [hn]; rfl) rfl (fun r hr => .inr (pin r)) fun rg v hv => ?_; obtain ⟨rfl, rfl⟩ := hv; refine ⟨Nat.le_refl _, AWpL.ofM hn rfl ?_⟩)
    simp (config := { maxSteps := 2000000 }) only [go_sem, ↓reduceIte, Int.reduceToNat, Nat.reduceMul, Int.reduceBEq, Int.reduceBNe, Nat.reduceBEq, Nat.reduceAdd, Nat.reduceSub, Nat.reduceLeDiff, Nat.reduceEqDiff, Nat.reduceLT, reduceCtorEq, Aw.retS, Aw.retRg, Aw.kpM, Aw.bkM, Aw.pos, Aw.isBox]
    have hsc := step_can x hc
    have ht : toldQ (stepQ x q) = toldR (stepR x (rOf q)) := by rw [hsc.told, step_r]
    refine AWpL.calle (s39 (stepQ x q) ((step_QB hk hqb).mono (by decide))) rfl (by rw [hn]; rfl) (by simp (config := { maxSteps := 2000000 }) only [go_sem, ↓reduceIte, Int.reduceToNat, Nat.reduceMul, Int.reduceBEq, Int.reduceBNe, Nat.reduceBEq, Nat.reduceAdd, Nat.reduceSub, Nat.reduceLeDiff, Nat.reduceEqDiff, Nat.reduceLT, reduceCtorEq]) (AWpL.ofM hn rfl ?_)
    rw [ht]
    simp (config := { maxSteps := 2000000 }) only [go_sem, ↓reduceIte, Int.reduceToNat, Nat.reduceMul, Int.reduceBEq, Int.reduceBNe, Nat.reduceBEq, Nat.reduceAdd, Nat.reduceSub, Nat.reduceLeDiff, Nat.reduceEqDiff, Nat.reduceLT, reduceCtorEq]
    by_cases hf : fitsR (stepR x (rOf q))
    · rw [toldR_fits hf]
      rw [if_pos hf] at hrun
      refine ⟨fun h => absurd h (by simp), fun _ => ?_⟩
      refine AWpL.app (r := 2) (els := outs.map fun r => bl (txtR r)) (ys := [bl (txtR (stepR x (rOf q)))]) rfl rfl rfl rfl (by rw [hn]; rfl) (by rw [List.length_map, ho]) (pin 2) (by simp (config := { maxSteps := 2000000 }) only [go_sem, ↓reduceIte, Int.reduceToNat, Nat.reduceMul, Int.reduceBEq, Int.reduceBNe, Nat.reduceBEq, Nat.reduceAdd, Nat.reduceSub, Nat.reduceLeDiff, Nat.reduceEqDiff, Nat.reduceLT, reduceCtorEq, Nat.le_refl]) (fun el hm y hy => by
        rw [List.mem_singleton.1 hm] at hy
        rw [List.mem_singleton.1 hy]; rfl) (by simp only [List.length_cons, List.length_nil]; omega) (by simp only [List.length_cons, List.length_nil]; omega) (AWpL.ofM hn rfl ?_)
      have hap : outs.map (fun r => bl (txtR r)) ++ [bl (txtR (stepR x (rOf q)))] = (outs ++ [stepR x (rOf q)]).map fun r => bl (txtR r) := by rw [List.map_append]; rfl
      simp (config := { maxSteps := 2000000 }) only [go_sem, ↓reduceIte, Int.reduceToNat, Nat.reduceMul, Int.reduceBEq, Int.reduceBNe, Nat.reduceBEq, Nat.reduceAdd, Nat.reduceSub, Nat.reduceLeDiff, Nat.reduceEqDiff, Nat.reduceLT, reduceCtorEq, hap, e1]
      refine ⟨k, by omega, i + 1, stepQ x q, outs ++ [stepR x (rOf q)], by omega, hsc, fits_QB (by rw [hsc.fits, step_r]; exact hf), by rw [List.length_append, ho]; rfl, by rw [hrun, step_r, List.append_assoc]; rfl, weak_to [0, 1, 2] hp hnp rfl (by simp (config := { maxSteps := 2000000 }) only [go_sem, ↓reduceIte, Int.reduceToNat, Nat.reduceMul, Int.reduceBEq, Int.reduceBNe, Nat.reduceBEq, Nat.reduceAdd, Nat.reduceSub, Nat.reduceLeDiff, Nat.reduceEqDiff, Nat.reduceLT, reduceCtorEq, Aw.pos] <;> rfl) (by simp (config := { maxSteps := 2000000 }) only [go_sem, ↓reduceIte, Int.reduceToNat, Nat.reduceMul, Int.reduceBEq, Int.reduceBNe, Nat.reduceBEq, Nat.reduceAdd, Nat.reduceSub, Nat.reduceLeDiff, Nat.reduceEqDiff, Nat.reduceLT, reduceCtorEq, Aw.renR, Aw.pos] <;> rfl)⟩
    · rw [toldR_large hf]
      rw [if_neg hf, List.append_nil] at hrun
      rw [hrun]
      refine ⟨fun _ => ?_, fun h => absurd h (by simp)⟩
      refine Retn.weak (weak_ent 4 (by rfl) (Ent.ofnil0 1)) _ ?_
      refine Retn.ret (π := []) hp hnp ⟨rfl, ?_⟩
      simp (config := { maxSteps := 2000000 }) only [go_sem, ↓reduceIte, Int.reduceToNat, Nat.reduceMul, Int.reduceBEq, Int.reduceBNe, Nat.reduceBEq, Nat.reduceAdd, Nat.reduceSub, Nat.reduceLeDiff, Nat.reduceEqDiff, Nat.reduceLT, reduceCtorEq, Aw.renR, Aw.pos]
end Go.Proofs.YtjaakbkneeojnaaDoor
