/- Upkeep: what search computes. -/
import Derived.Test.YtncfffplnmlnfaaAwZf
import Derived.Test.YtncfffplnmlnfaaUpL
set_option linter.unusedVariables false
set_option linter.unusedSimpArgs false
namespace Go.Proofs.Ytncfffplnmlnfaa
open Go.Proofs.Ytncfffplnmlnfaa.Aw
attribute [local go_sem] Int.natCast_zero Int.natCast_one bne_self_eq_false beq_self_eq_true Bool.not_true Bool.not_false Option.isSome_none Option.isSome_some Aw.bkM_nil Option.getD_some Option.getD_none Nat.sub_zero Int.toNat_zero Aw.frzS Aw.frzT Aw.frzA Aw.frzL Aw.frzR Aw.frzO Aw.frzOL Aw.frzOT Aw.frzOR Aw.killS Aw.mapT Aw.mapR Aw.killM Aw.resAVs Aw.resAV Aw.quietOps Aw.wpP Aw.wpT Aw.wpS Aw.AOp.mild List.getElem?_cons_zero List.getElem?_cons_succ Bool.and_false Bool.and_self Bool.false_and Aw.opOb Aw.gdB Aw.Rnd Aw.subTm List.length_map Int.toNat_natCast and_self Aw.SeqC Aw.stops Aw.Ends Aw.looks Aw.renA Aw.renL Aw.renT Aw.renS Aw.wpO Aw.aop Aw.putTm Aw.St.ev Aw.St.put Aw.St.putO Aw.binAV Aw.intBin Aw.strBin Aw.pickAV Aw.optInt Aw.AV.strip Aw.AV.guard Aw.AV.cells Aw.gdOb Aw.AOp.opds Aw.AOp.still Aw.ptrCells Aw.St.reg Aw.fillAV Aw.fillOb Aw.elsOb Aw.splice Aw.firm Aw.cellish Aw.AV.shut Aw.shutAll Aw.Seq Aw.Blk Aw.retS_nil Aw.mapA Aw.mapL Aw.borA Aw.borOb Aw.allOb Aw.tupOf Aw.params Aw.Opd.of Array.toList Value.cells List.map_cons List.map_nil List.getD_cons_zero List.getD_cons_succ List.getD_nil List.length_cons List.length_nil List.take_succ_cons List.take_zero List.take_nil List.drop_zero List.drop_succ_cons List.drop_nil List.set_cons_zero List.set_cons_succ List.append_nil List.nil_append List.cons_append List.all_cons List.all_nil cond_false cond_true if_true if_false true_and and_true Bool.and_true Bool.true_and Option.map_some Option.map_none false_implies forall_const implies_true forall_eq imp_self Bool.cond_false_right Bool.cond_true_left beq_true beq_false Bool.not_eq_true' Bool.false_eq_true Nat.zero_add Nat.add_zero Aw.eqCells Aw.exactCap Aw.overEls Aw.revealS Aw.srcEls Aw.srcSz
attribute [local go_sem ↓] Aw.look_nil Aw.look_ite Aw.wpL_nil Aw.wpL_op Aw.wpL_gd Aw.wpQ_nil Aw.wpQ_op Aw.wpQ_gd Aw.wpC_draw Aw.wpC_reg Aw.wpC_skip Aw.wpC_ret Aw.wpC_exit Aw.wpC_seq Aw.wpC_block Aw.wpC_loop Aw.wpC_cond Aw.stopAt_nil Aw.stopAt_cons Aw.wpD_skip Aw.wpD_ret Aw.wpD_exit Aw.wpD_region Aw.wpD_draw Aw.wpM_nil Aw.wpM_op Aw.wpM_gd Aw.wpD_seq Aw.wpD_block Aw.wpD_loop Aw.wpD_cond

/- gridhall/upkeep.search -/
def a13 : ACode :=
  (.seq (.region false [] [
     ⟨(some 3), none, (.box 25 (.t 0))⟩,
     ⟨(some 6), none, (.mov (.v (.slice none 0 0)))⟩])
  (.seq (.seq (.region true [[], [0], [1], [2], [2], [3, 4, 2, 2], [2], [2], [6, 7, 5, 2], [5, 8, 2], [2, 9]] [
     ⟨(some 10), none, (.mov (.t 2))⟩,
     ⟨(some 11), none, (.nilS true (.t 10))⟩,
     ⟨(some 12), none, (.mov (.t 11))⟩,
     ⟨(some 13), (some (12, true)), (.load 3 true (.t 3))⟩,
     ⟨(some 14), (some (12, true)), (.mov (.t 1))⟩,
     ⟨(some 15), (some (12, true)), (.call 14 [(.t 13), (.t 14)])⟩,
     ⟨(some 16), (some (12, true)), (.load 3 true (.t 3))⟩,
     ⟨(some 17), (some (12, true)), (.mov (.t 2))⟩,
     ⟨(some 18), (some (12, true)), (.call 14 [(.t 16), (.t 17)])⟩,
     ⟨(some 19), (some (12, true)), (.bin .geq 3 (.t 15) (.t 18))⟩,
     ⟨(some 20), none, (.pick (.t 12) (.t 19) (.v (.bool false)))⟩])
  (.cond (.t 20)
    (.seq (.region false [] [
       ⟨(some 21), none, (.mov (.t 2))⟩,
       ⟨(some 6), none, (.mov (.t 21))⟩])
    .ret)
    .skip))
  (.seq (.region false [] [
     ⟨(some 22), none, (.mov (.t 1))⟩,
     ⟨(some 23), none, (.len (.t 22))⟩,
     ⟨(some 7), none, (.mov (.t 23))⟩])
  (.seq (.seq (.region false [] [
     ⟨(some 24), none, (.mov (.t 7))⟩,
     ⟨(some 25), none, (.fld 0 (.t 3))⟩,
     ⟨(some 26), none, (.load 1 false (.t 25))⟩,
     ⟨(some 27), none, (.len (.t 26))⟩,
     ⟨(some 28), none, (.bin .eql 3 (.t 24) (.t 27))⟩])
  (.cond (.t 28)
    (.seq (.region false [] [
       ⟨(some 29), none, (.mov (.t 1))⟩,
       ⟨(some 30), none, (.call 20 [(.t 29)])⟩,
       ⟨(some 6), none, (.mov (.t 30))⟩])
    .ret)
    .skip))
  (.seq (.seq (.region false [] [
     ⟨(some 31), none, (.fld 0 (.t 3))⟩,
     ⟨(some 32), none, (.load 1 false (.t 31))⟩,
     ⟨(some 33), none, (.mov (.t 7))⟩,
     ⟨(some 34), none, (.idx 5 (.t 32) (.t 33))⟩,
     ⟨(some 35), none, (.fld 2 (.t 34))⟩,
     ⟨(some 36), none, (.load 1 false (.t 35))⟩,
     ⟨(some 8), none, (.mov (.t 36))⟩])
  (.block 0 (.loop (.seq (.seq (.region false [] [
       ⟨(some 37), none, (.mov (.t 8))⟩,
       ⟨(some 38), none, (.fld 0 (.t 3))⟩,
       ⟨(some 39), none, (.load 1 false (.t 38))⟩,
       ⟨(some 40), none, (.mov (.t 7))⟩,
       ⟨(some 41), none, (.idx 5 (.t 39) (.t 40))⟩,
       ⟨(some 42), none, (.fld 3 (.t 41))⟩,
       ⟨(some 43), none, (.load 1 false (.t 42))⟩,
       ⟨(some 44), none, (.bin .leq 3 (.t 37) (.t 43))⟩])
    (.cond (.t 44)
      .skip
      (.exit 0)))
    (.seq (.block 1 (.seq (.region false [] [
        ⟨(some 47), none, (.mov (.t 1))⟩,
        ⟨(some 48), none, (.mov (.t 7))⟩,
        ⟨(some 49), none, (.mov (.t 7))⟩,
        ⟨(some 50), none, (.slc 1 (.t 47) none (some (.t 48)) (some (.t 49)))⟩,
        ⟨(some 51), none, (.mov (.t 8))⟩,
        ⟨(some 52), none, (.bsl 3 1 1 [(0, (.t 51))])⟩,
        ⟨(some 53), none, (.app 3 1 8 (.int .i64 0) (.t 50) (.t 52))⟩,
        ⟨(some 9), none, (.mov (.t 53))⟩])
     (.seq (.region false [] [
        ⟨(some 54), none, (.load 3 true (.t 3))⟩,
        ⟨(some 55), none, (.mov (.t 9))⟩,
        ⟨(some 56), none, (.call 16 [(.t 54), (.t 55)])⟩,
        ⟨(some 57), none, (.bin .eql 28 (.t 56) (.v (.int .i64 0)))⟩])
     (.cond (.t 57)
       (.region false [] [
          ⟨(some 58), none, (.load 3 true (.t 3))⟩,
          ⟨(some 59), none, (.mov (.t 9))⟩,
          ⟨(some 60), none, (.mov (.t 2))⟩,
          ⟨(some 61), none, (.call 13 [(.t 58), (.t 59), (.t 60)])⟩,
          ⟨(some 2), none, (.mov (.t 61))⟩])
       .skip))))
    (.region false [] [
       ⟨(some 45), none, (.mov (.t 8))⟩,
       ⟨(some 46), none, (.bin .add 3 (.t 45) (.v (.int .i64 1)))⟩,
       ⟨(some 8), none, (.mov (.t 46))⟩]))))))
  (.seq (.region false [] [
     ⟨(some 62), none, (.mov (.t 2))⟩,
     ⟨(some 6), none, (.mov (.t 62))⟩])
  .ret))))))
theorem k13 : FnIs Try.prog 13 63 [.t 6] a13 := ⟨_, _, Try.func13, rfl, by kernel_rfl, by kernel_rfl, rfl⟩
/- slices.Clone[[]int,int] -/
def a20 : ACode :=
  (.seq (.region false [] [
     ⟨(some 2), none, (.mov (.v (.slice none 0 0)))⟩])
  (.seq (.seq (.region false [] [
     ⟨(some 3), none, (.mov (.t 0))⟩,
     ⟨(some 4), none, (.nilS false (.t 3))⟩])
  (.cond (.t 4)
    (.seq (.region false [] [
       ⟨(some 2), none, (.mov (.v (.slice none 0 0)))⟩])
    .ret)
    .skip))
  (.seq (.region false [] [
     ⟨(some 5), none, (.bsl 3 1 0 [])⟩,
     ⟨(some 6), none, (.mov (.t 0))⟩,
     ⟨(some 7), none, (.app 3 1 8 (.int .i64 0) (.t 5) (.t 6))⟩,
     ⟨(some 2), none, (.mov (.t 7))⟩])
  .ret)))
theorem k20 : FnIs Try.prog 20 8 [.t 2] a20 := ⟨_, _, Try.func20, rfl, by kernel_rfl, by kernel_rfl, rfl⟩

theorem s20 (nl full) (l : List (Int)) (hl : l.length ≤ 1000000) : Aw.Spec Try.prog 20 [] [.imm nl full 1 (l.map (fun n : Int => [I n]))] (fun rg x => rg = [] ∧ x = .imm none false 1 (l.map (fun n : Int => [I n]))) := by
  refine Aw.Spec.nil1 fun b _ hb => ?_
  refine Aw.Spec.regsD k20 mixed rfl rfl rfl fun E hn hnp hp => ?_
  unfold a20
  simp (config := { maxSteps := 2000000 }) only [go_sem, ↓reduceIte, Int.reduceToNat, Nat.reduceMul, Int.reduceBEq, Int.reduceBNe, Nat.reduceBEq, Nat.reduceAdd, Nat.reduceSub, Nat.reduceLeDiff, Nat.reduceEqDiff, Nat.reduceLT, reduceCtorEq]
  refine ⟨fun h => ?_, fun h => ?_⟩
  · have hl0 : l = [] := by simpa using hb h
    subst hl0
    refine Retn.weak (weak_ent 2 (by rfl) (Ent.ofnil0 1)) _ (Retn.ret (π := []) hp hnp ⟨rfl, ?_⟩)
    simp (config := { maxSteps := 2000000 }) only [go_sem, ↓reduceIte, Int.reduceToNat, Nat.reduceMul, Int.reduceBEq, Int.reduceBNe, Nat.reduceBEq, Nat.reduceAdd, Nat.reduceSub, Nat.reduceLeDiff, Nat.reduceEqDiff, Nat.reduceLT, reduceCtorEq, Aw.resAVs, Aw.resAV]
    all_goals (try exact ⟨rfl, rfl⟩)
  · refine AWpL.app (r := 0) (els := []) rfl rfl rfl rfl (by rw [hn]; rfl) rfl (hp.none hnp (Nat.zero_le _)) trivial (fun el hm x hx => ?_) (by simp; omega) (by simp; omega) (AWpL.ofM hn rfl ?_)
    · obtain ⟨y, _, rfl⟩ := List.mem_map.1 hm
      simp only [List.mem_cons, List.not_mem_nil, or_false] at hx
      first | (subst hx; rfl) | (rcases hx with rfl | rfl; all_goals rfl) | (rcases hx with rfl | rfl | rfl; all_goals rfl) | (rcases hx with rfl | rfl | rfl | rfl; all_goals rfl) | (rcases hx with rfl | rfl | rfl | rfl | rfl; all_goals rfl) | (rcases hx with rfl | rfl | rfl | rfl | rfl | rfl; all_goals rfl)
    simp (config := { maxSteps := 2000000 }) only [go_sem, ↓reduceIte, Int.reduceToNat, Nat.reduceMul, Int.reduceBEq, Int.reduceBNe, Nat.reduceBEq, Nat.reduceAdd, Nat.reduceSub, Nat.reduceLeDiff, Nat.reduceEqDiff, Nat.reduceLT, reduceCtorEq, Aw.killS, Aw.mapT, Aw.mapR, Aw.killM]
    refine Retn.weak (weak_freeze 0 rfl (hp.none hnp (Nat.zero_le _)) ?_) _ ?_
    · simp (config := { maxSteps := 2000000 }) only [go_sem, ↓reduceIte, Int.reduceToNat, Nat.reduceMul, Int.reduceBEq, Int.reduceBNe, Nat.reduceBEq, Nat.reduceAdd, Nat.reduceSub, Nat.reduceLeDiff, Nat.reduceEqDiff, Nat.reduceLT, reduceCtorEq, Nat.le_refl]
    refine Retn.weak (weak_ent 2 (by rfl) (Ent.plain _ _ _ _)) _ (Retn.ret (π := []) hp hnp ⟨rfl, ?_⟩)
    simp (config := { maxSteps := 2000000 }) only [go_sem, ↓reduceIte, Int.reduceToNat, Nat.reduceMul, Int.reduceBEq, Int.reduceBNe, Nat.reduceBEq, Nat.reduceAdd, Nat.reduceSub, Nat.reduceLeDiff, Nat.reduceEqDiff, Nat.reduceLT, reduceCtorEq]
    first | (exact ⟨rfl, by rw [List.take_of_length_le (by simp)]⟩) | (rw [List.take_of_length_le (by simp)])

def optA : Option (List Int) → AV
  | none => .imm (some true) false 1 []
  | some q => il (some false) false q
theorem optA_ren (π) : ∀ r, renA π (optA r) = optA r
  | none => rfl
  | some _ => rfl
theorem optA_frzA (a b c) : ∀ r, frzA a b c (optA r) = optA r
  | none => rfl
  | some _ => rfl
theorem optA_frzO (a b) : ∀ r, frzO a b (optA r) = True
  | none => rfl
  | some _ => rfl
theorem optA_map (m) : ∀ r, mapA m (optA r) = optA r
  | none => rfl
  | some _ => rfl
def prune (t : Task) (l : List Int) : Option (List Int) → Bool
  | none => false
  | some b => decide (costE t l ≥ costE t b)
def loopF (t : Task) (l : List Int) (rec : List Int → Option (List Int) → Option (List Int)) : Nat → Int → Option (List Int) → Option (List Int)
  | 0, _, r => r
  | k + 1, d, r => loopF t l rec k (d + 1) (if allowedE t (l ++ [d]) = 0 then rec (l ++ [d]) r else r)
/-- The search as a function. -/
def searchF (t : Task) : Nat → List Int → Option (List Int) → Option (List Int)
  | 0, l, best => if prune t l best = true then best else some l
  | m + 1, l, best => if prune t l best = true then best else loopF t l (searchF t m) ((job t l.length).last + 1 - (job t l.length).first).toNat (job t l.length).first best
theorem searchF_prune {t : Task} {l : List Int} {best : Option (List Int)} (h : prune t l best = true) : ∀ m, searchF t m l best = best
  | 0 => by unfold searchF; rw [if_pos h]
  | m + 1 => by unfold searchF; rw [if_pos h]
set_option maxRecDepth 20000 in
set_option maxHeartbeats 1000000 in
theorem s13 (t : Task) (hok : UpOk t) : ∀ (m : Nat) (l : List Int) (best : Option (List Int)) (nl fl), l.length + m = t.jobs.length → OkPlan t l → (∀ b, best = some b → Full t b) → 0 < t.jobs.length →
    Aw.Spec Try.prog 13 [] [ta t, il nl fl l, optA best] (fun rg v => rg = [] ∧ ∃ r, v = optA r ∧ r = searchF t m l best ∧ SPost t l best r All) := by
  intro m
  induction m using Nat.strongRecOn with
  | _ m ih =>
  intro l best nl fl hlm hpl hb h0
  refine Aw.Spec.regsW k13 rfl rfl fun E hn hnp hp => ?_
  unfold a13
  have pin : ∀ r, E.pin r = none := fun r => hp.none hnp (Nat.zero_le _)
  have h6 := hok.len
  refine AWp.seq (AWp.ofD [] [] hn mixed rfl ?_)
  simp (config := { maxSteps := 2000000 }) only [go_sem, ↓reduceIte, Int.reduceToNat, Nat.reduceMul, Int.reduceBEq, Int.reduceBNe, Nat.reduceBEq, Nat.reduceAdd, Nat.reduceSub, Nat.reduceLeDiff, Nat.reduceEqDiff, Nat.reduceLT, reduceCtorEq]
  refine AWp.seq (AWp.seq (AWp.cut ⟨[(1, il nl fl l), (2, optA best), (3, .ptr 0 0 0), (20, B (prune t l best))], [.box 25 (tc t)]⟩ (AWp.draw mixed (AWpQ.of hn rfl ?_)) ?_))
  · cases best with
    | none =>
      simp (config := { maxSteps := 2000000 }) only [go_sem, ↓reduceIte, Int.reduceToNat, Nat.reduceMul, Int.reduceBEq, Int.reduceBNe, Nat.reduceBEq, Nat.reduceAdd, Nat.reduceSub, Nat.reduceLeDiff, Nat.reduceEqDiff, Nat.reduceLT, reduceCtorEq, optA]
      refine AWpQ.gcalle (b := false) (y := .int .i64 0) rfl (fun h => by cases h) (by rw [hn]; rfl) (fun h => by cases h) (AWpQ.of hn rfl ?_)
      simp (config := { maxSteps := 2000000 }) only [go_sem, ↓reduceIte, Int.reduceToNat, Nat.reduceMul, Int.reduceBEq, Int.reduceBNe, Nat.reduceBEq, Nat.reduceAdd, Nat.reduceSub, Nat.reduceLeDiff, Nat.reduceEqDiff, Nat.reduceLT, reduceCtorEq]
      refine AWpQ.gcalle (b := false) (y := .int .i64 0) rfl (fun h => by cases h) (by rw [hn]; rfl) (fun h => by cases h) (AWpQ.of hn rfl ?_)
      simp (config := { maxSteps := 2000000 }) only [go_sem, ↓reduceIte, Int.reduceToNat, Nat.reduceMul, Int.reduceBEq, Int.reduceBNe, Nat.reduceBEq, Nat.reduceAdd, Nat.reduceSub, Nat.reduceLeDiff, Nat.reduceEqDiff, Nat.reduceLT, reduceCtorEq]
      exact weak_to [0] hp hnp rfl (by simp (config := { maxSteps := 2000000 }) only [go_sem, ↓reduceIte, Int.reduceToNat, Nat.reduceMul, Int.reduceBEq, Int.reduceBNe, Nat.reduceBEq, Nat.reduceAdd, Nat.reduceSub, Nat.reduceLeDiff, Nat.reduceEqDiff, Nat.reduceLT, reduceCtorEq, Aw.pos, prune, optA]) (by simp (config := { maxSteps := 2000000 }) only [go_sem, ↓reduceIte, Int.reduceToNat, Nat.reduceMul, Int.reduceBEq, Int.reduceBNe, Nat.reduceBEq, Nat.reduceAdd, Nat.reduceSub, Nat.reduceLeDiff, Nat.reduceEqDiff, Nat.reduceLT, reduceCtorEq, Aw.renR, Aw.pos])
    | some b =>
      simp (config := { maxSteps := 2000000 }) only [go_sem, ↓reduceIte, Int.reduceToNat, Nat.reduceMul, Int.reduceBEq, Int.reduceBNe, Nat.reduceBEq, Nat.reduceAdd, Nat.reduceSub, Nat.reduceLeDiff, Nat.reduceEqDiff, Nat.reduceLT, reduceCtorEq, optA]
      refine AWpQ.gcalle (b := true) (y := .int .i64 (costE t l)) rfl (fun _ => s14 t nl fl l hok hpl.1) (by rw [hn]; rfl) (fun _ => by simp (config := { maxSteps := 2000000 }) only [go_sem, ↓reduceIte, Int.reduceToNat, Nat.reduceMul, Int.reduceBEq, Int.reduceBNe, Nat.reduceBEq, Nat.reduceAdd, Nat.reduceSub, Nat.reduceLeDiff, Nat.reduceEqDiff, Nat.reduceLT, reduceCtorEq]) (AWpQ.of hn rfl ?_)
      simp (config := { maxSteps := 2000000 }) only [go_sem, ↓reduceIte, Int.reduceToNat, Nat.reduceMul, Int.reduceBEq, Int.reduceBNe, Nat.reduceBEq, Nat.reduceAdd, Nat.reduceSub, Nat.reduceLeDiff, Nat.reduceEqDiff, Nat.reduceLT, reduceCtorEq]
      refine AWpQ.gcalle (b := true) (y := .int .i64 (costE t b)) rfl (fun _ => s14 t (some false) false b hok (hb b rfl).1.1) (by rw [hn]; rfl) (fun _ => by simp (config := { maxSteps := 2000000 }) only [go_sem, ↓reduceIte, Int.reduceToNat, Nat.reduceMul, Int.reduceBEq, Int.reduceBNe, Nat.reduceBEq, Nat.reduceAdd, Nat.reduceSub, Nat.reduceLeDiff, Nat.reduceEqDiff, Nat.reduceLT, reduceCtorEq]) (AWpQ.of hn rfl ?_)
      simp (config := { maxSteps := 2000000 }) only [go_sem, ↓reduceIte, Int.reduceToNat, Nat.reduceMul, Int.reduceBEq, Int.reduceBNe, Nat.reduceBEq, Nat.reduceAdd, Nat.reduceSub, Nat.reduceLeDiff, Nat.reduceEqDiff, Nat.reduceLT, reduceCtorEq]
      exact weak_to [0] hp hnp rfl (by simp (config := { maxSteps := 2000000 }) only [go_sem, ↓reduceIte, Int.reduceToNat, Nat.reduceMul, Int.reduceBEq, Int.reduceBNe, Nat.reduceBEq, Nat.reduceAdd, Nat.reduceSub, Nat.reduceLeDiff, Nat.reduceEqDiff, Nat.reduceLT, reduceCtorEq, Aw.pos, prune, optA]) (by simp (config := { maxSteps := 2000000 }) only [go_sem, ↓reduceIte, Int.reduceToNat, Nat.reduceMul, Int.reduceBEq, Int.reduceBNe, Nat.reduceBEq, Nat.reduceAdd, Nat.reduceSub, Nat.reduceLeDiff, Nat.reduceEqDiff, Nat.reduceLT, reduceCtorEq, Aw.renR, Aw.pos])
  simp (config := { maxSteps := 2000000 }) only [go_sem, ↓reduceIte, Int.reduceToNat, Nat.reduceMul, Int.reduceBEq, Int.reduceBNe, Nat.reduceBEq, Nat.reduceAdd, Nat.reduceSub, Nat.reduceLeDiff, Nat.reduceEqDiff, Nat.reduceLT, reduceCtorEq]
  refine AWp.ofD [] [] hn mixed rfl ?_
  simp (config := { maxSteps := 2000000 }) only [go_sem, ↓reduceIte, Int.reduceToNat, Nat.reduceMul, Int.reduceBEq, Int.reduceBNe, Nat.reduceBEq, Nat.reduceAdd, Nat.reduceSub, Nat.reduceLeDiff, Nat.reduceEqDiff, Nat.reduceLT, reduceCtorEq]
  refine ⟨fun h => ?_, fun h => ?_⟩
  · cases best with
    | none => cases h
    | some b =>
      have h2 : costE t b ≤ costE t l := by simpa [prune] using h
      refine Retn.ret (π := []) hp hnp ⟨rfl, ?_⟩
      simp (config := { maxSteps := 2000000 }) only [go_sem, ↓reduceIte, Int.reduceToNat, Nat.reduceMul, Int.reduceBEq, Int.reduceBNe, Nat.reduceBEq, Nat.reduceAdd, Nat.reduceSub, Nat.reduceLeDiff, Nat.reduceEqDiff, Nat.reduceLT, reduceCtorEq, optA]
      exact ⟨some b, rfl, (searchF_prune h m).symm, SPost.prune hok (hb b rfl) h2⟩
  refine AWp.ofD [] [] hn mixed rfl ?_
  rcases Nat.lt_or_ge l.length t.jobs.length with hlt | hge
  case inr =>
    have hln : l.length = t.jobs.length := by have := hpl.1.1; omega
    have e1 : ((l.length : Int) == (t.jobs.length : Int)) = true := by rw [hln]; simp
    simp (config := { maxSteps := 2000000 }) only [go_sem, ↓reduceIte, Int.reduceToNat, Nat.reduceMul, Int.reduceBEq, Int.reduceBNe, Nat.reduceBEq, Nat.reduceAdd, Nat.reduceSub, Nat.reduceLeDiff, Nat.reduceEqDiff, Nat.reduceLT, reduceCtorEq, e1]
    refine AWpL.callA [] (s20 nl fl l (by omega)) rfl rfl (by rw [hn]; rfl) rfl (fun r hr => by cases hr) fun rg v hv => ?_
    obtain ⟨rfl, rfl⟩ := hv
    refine ⟨Nat.le_refl _, ?_⟩
    rw [retS_nil]
    refine AWpL.ofM hn rfl ?_
    simp (config := { maxSteps := 2000000 }) only [go_sem, ↓reduceIte, Int.reduceToNat, Nat.reduceMul, Int.reduceBEq, Int.reduceBNe, Nat.reduceBEq, Nat.reduceAdd, Nat.reduceSub, Nat.reduceLeDiff, Nat.reduceEqDiff, Nat.reduceLT, reduceCtorEq]
    have hne : l ≠ [] := fun e => by subst e; simp at hln; omega
    refine Retn.weak (weak_ent 6 (by rfl) (Ent.nonnil none false 1 (by simpa using hne))) _ (Retn.ret (π := []) hp hnp ⟨rfl, ?_⟩)
    simp (config := { maxSteps := 2000000 }) only [go_sem, ↓reduceIte, Int.reduceToNat, Nat.reduceMul, Int.reduceBEq, Int.reduceBNe, Nat.reduceBEq, Nat.reduceAdd, Nat.reduceSub, Nat.reduceLeDiff, Nat.reduceEqDiff, Nat.reduceLT, reduceCtorEq]
    obtain rfl : m = 0 := by omega
    refine ⟨some l, rfl, by unfold searchF; rw [if_neg (by simp [h])], SPost.leaf ⟨hpl, hln⟩ fun b hbe => ?_⟩
    subst hbe
    have : ¬ costE t l ≥ costE t b := by simpa [prune] using h
    omega
  have e1 : ((l.length : Int) == (t.jobs.length : Int)) = false := by simp; omega
  have e2 := job_get hlt
  have e3 := hok.jobs _ (job_mem hlt)
  simp (config := { maxSteps := 2000000 }) only [go_sem, ↓reduceIte, Int.reduceToNat, Nat.reduceMul, Int.reduceBEq, Int.reduceBNe, Nat.reduceBEq, Nat.reduceAdd, Nat.reduceSub, Nat.reduceLeDiff, Nat.reduceEqDiff, Nat.reduceLT, reduceCtorEq, e1, e2]
  (repeat (refine And.intro (by first | omega | (refine ⟨by omega, by omega⟩) | (refine ⟨by omega, by omega, by omega⟩) | (simp only [List.length_map, List.length_range, List.length_append, List.length_cons, List.length_nil, List.length_replicate, List.length_set]; omega) | (simp; omega) | (intro hgd; cases hgd) | (intro hgd; refine ⟨hgd, ?_⟩; first | omega | (refine ⟨by omega, by omega⟩) | (simp; omega))) ?_))
  have hF : searchF t m l best = loopF t l (searchF t (m - 1)) ((job t l.length).last + 1 - (job t l.length).first).toNat (job t l.length).first best := by
    obtain ⟨m', rfl⟩ : ∃ m', m = m' + 1 := ⟨m - 1, by omega⟩
    rw [searchF, if_neg (by simp [h]), Nat.add_sub_cancel]
  refine AWp.loop (fun k s => ∃ (d : Int) (r : Option (List Int)), (job t l.length).first ≤ d ∧ d + (k : Int) = (job t l.length).last + 1 ∧ SPost t l best r (Under l.length d) ∧ searchF t m l best = loopF t l (searchF t (m - 1)) k d r ∧
      Weak E s ⟨[(1, il nl fl l), (2, optA r), (3, .ptr 0 0 0), (7, I l.length), (8, I d)], [.box 25 (tc t)]⟩) (n := ((job t l.length).last + 1 - (job t l.length).first).toNat)
    ⟨(job t l.length).first, best, by omega, by omega, SPost.start hb hlt, hF, weak_to [0] hp hnp rfl (by simp (config := { maxSteps := 2000000 }) only [go_sem, ↓reduceIte, Int.reduceToNat, Nat.reduceMul, Int.reduceBEq, Int.reduceBNe, Nat.reduceBEq, Nat.reduceAdd, Nat.reduceSub, Nat.reduceLeDiff, Nat.reduceEqDiff, Nat.reduceLT, reduceCtorEq, Aw.pos, optA_ren]) (by simp (config := { maxSteps := 2000000 }) only [go_sem, ↓reduceIte, Int.reduceToNat, Nat.reduceMul, Int.reduceBEq, Int.reduceBNe, Nat.reduceBEq, Nat.reduceAdd, Nat.reduceSub, Nat.reduceLeDiff, Nat.reduceEqDiff, Nat.reduceLT, reduceCtorEq, Aw.renR, Aw.pos])⟩ ?_
  rintro k s ⟨d, r, hd0, hdk, hsp, hsf, hw⟩
  refine AWp.weak hw (AWp.ofD [] [] hn mixed rfl ?_)
  rcases Int.lt_or_le (job t l.length).last d with hgt | hle
  · have e0 : decide (d ≤ (job t l.length).last) = false := decide_eq_false (by omega)
    simp (config := { maxSteps := 2000000 }) only [go_sem, ↓reduceIte, Int.reduceToNat, Nat.reduceMul, Int.reduceBEq, Int.reduceBNe, Nat.reduceBEq, Nat.reduceAdd, Nat.reduceSub, Nat.reduceLeDiff, Nat.reduceEqDiff, Nat.reduceLT, reduceCtorEq, e2, e0]
    (repeat (refine And.intro (by first | omega | (refine ⟨by omega, by omega⟩) | (refine ⟨by omega, by omega, by omega⟩) | (simp only [List.length_map, List.length_range, List.length_append, List.length_cons, List.length_nil, List.length_replicate, List.length_set]; omega) | (simp; omega) | (intro hgd; cases hgd) | (intro hgd; refine ⟨hgd, ?_⟩; first | omega | (refine ⟨by omega, by omega⟩) | (simp; omega))) ?_))
    have hfin := hsp.done hlt hgt
    obtain rfl : k = 0 := by omega
    cases r with
    | none =>
      refine Retn.ret (π := []) hp hnp ⟨rfl, ?_⟩
      simp (config := { maxSteps := 2000000 }) only [go_sem, ↓reduceIte, Int.reduceToNat, Nat.reduceMul, Int.reduceBEq, Int.reduceBNe, Nat.reduceBEq, Nat.reduceAdd, Nat.reduceSub, Nat.reduceLeDiff, Nat.reduceEqDiff, Nat.reduceLT, reduceCtorEq, optA]
      exact ⟨none, rfl, hsf.symm, hfin⟩
    | some q =>
      refine Retn.ret (π := []) hp hnp ⟨rfl, ?_⟩
      simp (config := { maxSteps := 2000000 }) only [go_sem, ↓reduceIte, Int.reduceToNat, Nat.reduceMul, Int.reduceBEq, Int.reduceBNe, Nat.reduceBEq, Nat.reduceAdd, Nat.reduceSub, Nat.reduceLeDiff, Nat.reduceEqDiff, Nat.reduceLT, reduceCtorEq, optA]
      exact ⟨some q, rfl, hsf.symm, hfin⟩
  · have e0 : decide (d ≤ (job t l.length).last) = true := decide_eq_true (by omega)
    obtain ⟨k', rfl⟩ : ∃ k', k = k' + 1 := ⟨k - 1, by omega⟩
    rw [loopF] at hsf
    have e4 : IntKind.i64.wrap (d + 1) = d + 1 := w64 (by omega) (by omega)
    have htk : (l.map fun n => [I n]).take l.length = l.map fun n => [I n] := List.take_of_length_le (by simp)
    simp (config := { maxSteps := 2000000 }) only [go_sem, ↓reduceIte, Int.reduceToNat, Nat.reduceMul, Int.reduceBEq, Int.reduceBNe, Nat.reduceBEq, Nat.reduceAdd, Nat.reduceSub, Nat.reduceLeDiff, Nat.reduceEqDiff, Nat.reduceLT, reduceCtorEq, e2, e0, htk]
    (repeat (refine And.intro (by first | omega | (refine ⟨by omega, by omega⟩) | (refine ⟨by omega, by omega, by omega⟩) | (simp only [List.length_map, List.length_range, List.length_append, List.length_cons, List.length_nil, List.length_replicate, List.length_set]; omega) | (simp; omega) | (intro hgd; cases hgd) | (intro hgd; refine ⟨hgd, ?_⟩; first | omega | (refine ⟨by omega, by omega⟩) | (simp; omega))) ?_))
    refine AWpL.appNew (els := l.map fun n => [I n]) (ys := [[I d]]) rfl rfl rfl (by rw [hn]; rfl) (by simp) (by simp) (by simp; omega) (by simp; omega) ?_
    refine AWpL.weak (weak_freeze 2 rfl (pin 2) (by simp (config := { maxSteps := 2000000 }) only [go_sem, ↓reduceIte, Int.reduceToNat, Nat.reduceMul, Int.reduceBEq, Int.reduceBNe, Nat.reduceBEq, Nat.reduceAdd, Nat.reduceSub, Nat.reduceLeDiff, Nat.reduceEqDiff, Nat.reduceLT, reduceCtorEq, Nat.le_refl, optA_frzO]; simp)) (AWpL.ofM hn rfl ?_)
    have hnx : ((l.map fun n => [I n]) ++ [[I d]]).take (l.length + 1) = (l ++ [d]).map fun n => [I n] := by
      rw [List.take_of_length_le (by simp)]; simp
    simp (config := { maxSteps := 2000000 }) only [go_sem, ↓reduceIte, Int.reduceToNat, Nat.reduceMul, Int.reduceBEq, Int.reduceBNe, Nat.reduceBEq, Nat.reduceAdd, Nat.reduceSub, Nat.reduceLeDiff, Nat.reduceEqDiff, Nat.reduceLT, reduceCtorEq, optA_frzA, hnx, optA_frzO]
    have hdays : Days (l ++ [d]) := fun x hx => by
      rcases List.mem_append.1 hx with hx | hx
      · exact hpl.1.days hok x hx
      · rw [List.mem_singleton.1 hx]; omega
    (refine AWpL.calle (s16 t none false (l ++ [d]) (by simp) (by simp; omega) hok hdays) rfl (by rw [hn]; rfl) (by simp (config := { maxSteps := 2000000 }) only [go_sem, ↓reduceIte, Int.reduceToNat, Nat.reduceMul, Int.reduceBEq, Int.reduceBNe, Nat.reduceBEq, Nat.reduceAdd, Nat.reduceSub, Nat.reduceLeDiff, Nat.reduceEqDiff, Nat.reduceLT, reduceCtorEq]) (AWpL.ofM hn rfl ?_); simp (config := { maxSteps := 2000000 }) only [go_sem, ↓reduceIte, Int.reduceToNat, Nat.reduceMul, Int.reduceBEq, Int.reduceBNe, Nat.reduceBEq, Nat.reduceAdd, Nat.reduceSub, Nat.reduceLeDiff, Nat.reduceEqDiff, Nat.reduceLT, reduceCtorEq])
    refine ⟨fun h7 => ?_, fun h7 => ?_⟩
    · have ha : allowedE t (l ++ [d]) = 0 := by simpa using h7
      have hpl2 := hpl.snoc hlt ⟨hd0, hle⟩ ha
      refine AWpL.callA [] (ih (m - 1) (by omega) (l ++ [d]) r none false (by simp; omega) hpl2 hsp.full h0) rfl (by simp (config := { maxSteps := 2000000 }) only [go_sem, ↓reduceIte, Int.reduceToNat, Nat.reduceMul, Int.reduceBEq, Int.reduceBNe, Nat.reduceBEq, Nat.reduceAdd, Nat.reduceSub, Nat.reduceLeDiff, Nat.reduceEqDiff, Nat.reduceLT, reduceCtorEq, optA_ren]) (by rw [hn]; rfl) rfl (fun r hr => by cases hr) fun rg v hv => ?_
      obtain ⟨rfl, r', rfl, hrf, hr'⟩ := hv
      rw [if_pos ha, ← hrf] at hsf
      refine ⟨Nat.le_refl _, ?_⟩
      rw [retS_nil]
      refine AWpL.ofM hn rfl ?_
      simp (config := { maxSteps := 2000000 }) only [go_sem, ↓reduceIte, Int.reduceToNat, Nat.reduceMul, Int.reduceBEq, Int.reduceBNe, Nat.reduceBEq, Nat.reduceAdd, Nat.reduceSub, Nat.reduceLeDiff, Nat.reduceEqDiff, Nat.reduceLT, reduceCtorEq, e4, optA_map]
      exact ⟨k', by omega, d + 1, r', by omega, by omega, hsp.step hlt hr', hsf, weak_to [0] hp hnp rfl (by simp (config := { maxSteps := 2000000 }) only [go_sem, ↓reduceIte, Int.reduceToNat, Nat.reduceMul, Int.reduceBEq, Int.reduceBNe, Nat.reduceBEq, Nat.reduceAdd, Nat.reduceSub, Nat.reduceLeDiff, Nat.reduceEqDiff, Nat.reduceLT, reduceCtorEq, Aw.pos, optA_ren]) (by simp (config := { maxSteps := 2000000 }) only [go_sem, ↓reduceIte, Int.reduceToNat, Nat.reduceMul, Int.reduceBEq, Int.reduceBNe, Nat.reduceBEq, Nat.reduceAdd, Nat.reduceSub, Nat.reduceLeDiff, Nat.reduceEqDiff, Nat.reduceLT, reduceCtorEq, Aw.renR, Aw.pos])⟩
    · have ha : allowedE t (l ++ [d]) ≠ 0 := by simpa using h7
      rw [if_neg ha] at hsf
      simp (config := { maxSteps := 2000000 }) only [go_sem, ↓reduceIte, Int.reduceToNat, Nat.reduceMul, Int.reduceBEq, Int.reduceBNe, Nat.reduceBEq, Nat.reduceAdd, Nat.reduceSub, Nat.reduceLeDiff, Nat.reduceEqDiff, Nat.reduceLT, reduceCtorEq, e4]
      exact ⟨k', by omega, d + 1, r, by omega, by omega, hsp.skip hlt ha, hsf, weak_to [0] hp hnp rfl (by simp (config := { maxSteps := 2000000 }) only [go_sem, ↓reduceIte, Int.reduceToNat, Nat.reduceMul, Int.reduceBEq, Int.reduceBNe, Nat.reduceBEq, Nat.reduceAdd, Nat.reduceSub, Nat.reduceLeDiff, Nat.reduceEqDiff, Nat.reduceLT, reduceCtorEq, Aw.pos, optA_ren]) (by simp (config := { maxSteps := 2000000 }) only [go_sem, ↓reduceIte, Int.reduceToNat, Nat.reduceMul, Int.reduceBEq, Int.reduceBNe, Nat.reduceBEq, Nat.reduceAdd, Nat.reduceSub, Nat.reduceLeDiff, Nat.reduceEqDiff, Nat.reduceLT, reduceCtorEq, Aw.renR, Aw.pos])⟩
end Go.Proofs.Ytncfffplnmlnfaa
