/- Upkeep: small tasks, the fixed example, lists of numbers compared. -/
import Derived.Test.YtncfffplnmlnfaaAwZf
import Derived.Test.YtncfffplnmlnfaaUpD
set_option linter.unusedVariables false
set_option linter.unusedSimpArgs false
namespace Go.Proofs.Ytncfffplnmlnfaa
open Go.Proofs.Ytncfffplnmlnfaa.Aw
attribute [local go_sem] Int.natCast_zero Int.natCast_one bne_self_eq_false beq_self_eq_true Bool.not_true Bool.not_false Option.isSome_none Option.isSome_some Aw.bkM_nil Option.getD_some Option.getD_none Nat.sub_zero Int.toNat_zero Aw.frzS Aw.frzT Aw.frzA Aw.frzL Aw.frzR Aw.frzO Aw.frzOL Aw.frzOT Aw.frzOR Aw.killS Aw.mapT Aw.mapR Aw.killM Aw.resAVs Aw.resAV Aw.quietOps Aw.wpP Aw.wpT Aw.wpS Aw.AOp.mild List.getElem?_cons_zero List.getElem?_cons_succ Bool.and_false Bool.and_self Bool.false_and Aw.opOb Aw.gdB Aw.Rnd Aw.subTm List.length_map Int.toNat_natCast and_self Aw.SeqC Aw.stops Aw.Ends Aw.looks Aw.renA Aw.renL Aw.renT Aw.renS Aw.wpO Aw.aop Aw.putTm Aw.St.ev Aw.St.put Aw.St.putO Aw.binAV Aw.intBin Aw.strBin Aw.pickAV Aw.optInt Aw.AV.strip Aw.AV.guard Aw.AV.cells Aw.gdOb Aw.AOp.opds Aw.AOp.still Aw.ptrCells Aw.St.reg Aw.fillAV Aw.fillOb Aw.elsOb Aw.splice Aw.firm Aw.cellish Aw.AV.shut Aw.shutAll Aw.Seq Aw.Blk Aw.retS_nil Aw.mapA Aw.mapL Aw.borA Aw.borOb Aw.allOb Aw.tupOf Aw.params Aw.Opd.of Array.toList Value.cells List.map_cons List.map_nil List.getD_cons_zero List.getD_cons_succ List.getD_nil List.length_cons List.length_nil List.take_succ_cons List.take_zero List.take_nil List.drop_zero List.drop_succ_cons List.drop_nil List.set_cons_zero List.set_cons_succ List.append_nil List.nil_append List.cons_append List.all_cons List.all_nil cond_false cond_true if_true if_false true_and and_true Bool.and_true Bool.true_and Option.map_some Option.map_none false_implies forall_const implies_true forall_eq imp_self Bool.cond_false_right Bool.cond_true_left beq_true beq_false Bool.not_eq_true' Bool.false_eq_true Nat.zero_add Nat.add_zero Aw.eqCells Aw.exactCap Aw.overEls Aw.revealS Aw.srcEls Aw.srcSz
attribute [local go_sem ↓] Aw.look_nil Aw.look_ite Aw.wpL_nil Aw.wpL_op Aw.wpL_gd Aw.wpQ_nil Aw.wpQ_op Aw.wpQ_gd Aw.wpC_draw Aw.wpC_reg Aw.wpC_skip Aw.wpC_ret Aw.wpC_exit Aw.wpC_seq Aw.wpC_block Aw.wpC_loop Aw.wpC_cond Aw.stopAt_nil Aw.stopAt_cons Aw.wpD_skip Aw.wpD_ret Aw.wpD_exit Aw.wpD_region Aw.wpD_draw Aw.wpM_nil Aw.wpM_op Aw.wpM_gd Aw.wpD_seq Aw.wpD_block Aw.wpD_loop Aw.wpD_cond
/- gridhall/gridhallkeep4.upkeepFact -/
def a8 : ACode :=
  (.seq (.region false [] [
     ⟨(some 0), none, (.mov (.v (.bool false)))⟩])
  (.seq (.region false [] [
     ⟨(some 5), none, (.build (.agg #[(.string ⟨#[]⟩), (.int .i64 0), (.int .i64 0), (.int .i64 0), (.int .i64 0)]) [(0, (1, (.v (.string ⟨#[65]⟩)))), (1, (1, (.v (.int .i64 1)))), (3, (1, (.v (.int .i64 1)))), (4, (1, (.v (.int .i64 3))))])⟩,
     ⟨(some 6), none, (.build (.agg #[(.string ⟨#[]⟩), (.int .i64 0), (.int .i64 0), (.int .i64 0), (.int .i64 0)]) [(0, (1, (.v (.string ⟨#[66]⟩)))), (1, (1, (.v (.int .i64 1)))), (3, (1, (.v (.int .i64 1)))), (4, (1, (.v (.int .i64 3))))])⟩,
     ⟨(some 7), none, (.bsl 38 5 2 [(0, (.t 5)), (1, (.t 6))])⟩,
     ⟨(some 8), none, (.build (.agg #[(.int .i64 0), (.int .i64 0)]) [(0, (1, (.v (.int .i64 0)))), (1, (1, (.v (.int .i64 1))))])⟩,
     ⟨(some 9), none, (.bsl 44 2 1 [(0, (.t 8))])⟩,
     ⟨(some 10), none, (.build (.agg #[(.slice none 0 0), (.slice none 0 0), (.int .i64 0)]) [(0, (1, (.t 7))), (1, (1, (.t 9))), (2, (1, (.v (.int .i64 2))))])⟩,
     ⟨(some 1), none, (.alloc 25 (.agg #[(.slice none 0 0), (.slice none 0 0), (.int .i64 0)]))⟩,
     ⟨none, none, (.store 3 (.t 1) (.t 10))⟩])
  (.seq (.region false [] [
     ⟨(some 12), none, (.load 3 true (.t 1))⟩,
     ⟨(some 13), none, (.call 7 [(.t 12)])⟩,
     ⟨(some 11), none, (.mov (.t 13))⟩,
     ⟨(some 14), none, (.ext 0 (.t 11))⟩,
     ⟨(some 15), none, (.ext 1 (.t 11))⟩,
     ⟨(some 16), none, (.ext 2 (.t 11))⟩,
     ⟨(some 2), none, (.mov (.t 14))⟩,
     ⟨(some 3), none, (.mov (.t 15))⟩,
     ⟨(some 4), none, (.mov (.t 16))⟩])
  (.seq (.region false [] [
     ⟨(some 17), none, (.mov (.t 4))⟩,
     ⟨(some 18), none, (.bin .eql 28 (.t 17) (.v (.int .i64 0)))⟩,
     ⟨(some 19), none, (.mov (.t 18))⟩,
     ⟨(some 20), (some (19, true)), (.mov (.t 3))⟩,
     ⟨(some 21), (some (19, true)), (.bin .eql 3 (.t 20) (.v (.int .i64 3)))⟩,
     ⟨(some 22), none, (.pick (.t 19) (.t 21) (.v (.bool false)))⟩,
     ⟨(some 23), none, (.mov (.t 22))⟩,
     ⟨(some 24), (some (23, true)), (.mov (.t 2))⟩,
     ⟨(some 25), (some (23, true)), (.bsl 3 1 2 [(0, (.v (.int .i64 0))), (1, (.v (.int .i64 1)))])⟩,
     ⟨(some 26), (some (23, true)), (.call 15 [(.t 24), (.t 25)])⟩,
     ⟨(some 27), none, (.pick (.t 23) (.t 26) (.v (.bool false)))⟩,
     ⟨(some 0), none, (.mov (.t 27))⟩])
  .ret))))
theorem k8 : FnIs Try.prog 8 28 [.t 0] a8 := ⟨_, _, Try.func8, rfl, by kernel_rfl, by kernel_rfl, rfl⟩
/- slices.Equal[[]int,int] -/
def a15 : ACode :=
  (.seq (.region false [] [
     ⟨(some 4), none, (.mov (.v (.bool false)))⟩])
  (.seq (.seq (.region false [] [
     ⟨(some 6), none, (.mov (.t 0))⟩,
     ⟨(some 7), none, (.len (.t 6))⟩,
     ⟨(some 8), none, (.mov (.t 1))⟩,
     ⟨(some 9), none, (.len (.t 8))⟩,
     ⟨(some 10), none, (.bin .neq 3 (.t 7) (.t 9))⟩])
  (.cond (.t 10)
    (.seq (.region false [] [
       ⟨(some 4), none, (.mov (.v (.bool false)))⟩])
    .ret)
    .skip))
  (.seq (.seq (.region false [] [
     ⟨(some 11), none, (.mov (.t 0))⟩,
     ⟨(some 12), none, (.len (.t 11))⟩,
     ⟨(some 13), none, (.mov (.v (.int .i64 0)))⟩])
  (.block 0 (.loop (.seq (.region false [] [
       ⟨(some 14), none, (.bin .lss 3 (.t 13) (.t 12))⟩])
    (.seq (.cond (.t 14)
      .skip
      (.exit 0))
    (.seq (.block 1 (.seq (.region false [] [
        ⟨(some 15), none, (.mov (.t 13))⟩,
        ⟨(some 5), none, (.mov (.t 15))⟩])
     (.seq (.region true [[], [], [0, 1], [2], [], [], [4, 5], [6], [3, 7]] [
        ⟨(some 16), none, (.mov (.t 0))⟩,
        ⟨(some 17), none, (.mov (.t 5))⟩,
        ⟨(some 18), none, (.idx 1 (.t 16) (.t 17))⟩,
        ⟨(some 19), none, (.load 1 false (.t 18))⟩,
        ⟨(some 20), none, (.mov (.t 1))⟩,
        ⟨(some 21), none, (.mov (.t 5))⟩,
        ⟨(some 22), none, (.idx 1 (.t 20) (.t 21))⟩,
        ⟨(some 23), none, (.load 1 false (.t 22))⟩,
        ⟨(some 24), none, (.bin .neq 3 (.t 19) (.t 23))⟩])
     (.cond (.t 24)
       (.seq (.region false [] [
          ⟨(some 4), none, (.mov (.v (.bool false)))⟩])
       .ret)
       .skip))))
    (.region false [] [
       ⟨(some 25), none, (.bin .add 3 (.t 13) (.v (.int .i64 1)))⟩,
       ⟨(some 13), none, (.mov (.t 25))⟩])))))))
  (.seq (.region false [] [
     ⟨(some 4), none, (.mov (.v (.bool true)))⟩])
  .ret))))
theorem k15 : FnIs Try.prog 15 26 [.t 4] a15 := ⟨_, _, Try.func15, rfl, by kernel_rfl, by kernel_rfl, rfl⟩

def trim (j : Job) : Job := if (inB j.first 0 60 && inB j.last 0 60) = true then { j with last := min j.last (j.first + 4) } else j
def smallT (t : Task) : Task := ⟨none, false, (t.jobs.take 4).map trim, t.na, t.fa, t.apart, t.crews⟩
theorem Named.small {t : Task} (h : Named t) : Named (smallT t) := fun j hj => by
  obtain ⟨i, hi, rfl⟩ := List.mem_map.1 hj
  have := h i (List.mem_of_mem_take hi)
  unfold trim; split <;> exact this
set_option maxRecDepth 20000 in
set_option maxHeartbeats 1000000 in
theorem s6 (t : Task) (hl63 : t.jobs.length ≤ 9223372036854775807) : Aw.Spec Try.prog 6 [] [ta t] (fun rg v => rg = [.box 25 (tc (smallT t))] ∧ v = ta (smallT t)) := by
  refine Aw.Spec.regsD k6 mixed rfl rfl rfl fun E hn hnp hp => ?_
  unfold a6
  have pin : ∀ r, E.pin r = none := fun r => hp.none hnp (Nat.zero_le _)
  have hmin : ((t.jobs.map jc).take (min (t.jobs.length : Int) 4).toNat) = (t.jobs.take 4).map jc := by
    rw [List.map_take]
    rcases Nat.le_total t.jobs.length 4 with h | h
    · rw [List.take_of_length_le (by simp; omega), List.take_of_length_le (by simp; omega)]
    · congr 1; omega
  simp (config := { maxSteps := 2000000 }) only [go_sem, ↓reduceIte, Int.reduceToNat, Nat.reduceMul, Int.reduceBEq, Int.reduceBNe, Nat.reduceBEq, Nat.reduceAdd, Nat.reduceSub, Nat.reduceLeDiff, Nat.reduceEqDiff, Nat.reduceLT, reduceCtorEq, hmin]
  (repeat (refine And.intro (by first | omega | (refine ⟨by omega, by omega⟩) | (refine ⟨by omega, by omega, by omega⟩) | (simp only [List.length_map, List.length_range, List.length_append, List.length_cons, List.length_nil, List.length_replicate, List.length_set]; omega) | (simp; omega) | (intro hgd; cases hgd) | (intro hgd; refine ⟨hgd, ?_⟩; first | omega | (refine ⟨by omega, by omega⟩) | (simp; omega))) ?_))
  have h4 : (t.jobs.take 4).length ≤ 4 := by simp; omega
  have hsm : smallT t = ⟨none, false, (t.jobs.take 4).map trim, t.na, t.fa, t.apart, t.crews⟩ := rfl
  generalize t.jobs.take 4 = J at *
  refine AWpL.callA [] (o10 t.nj false J (by omega)) rfl rfl (by rw [hn]; rfl) rfl (fun r hr => by cases hr) fun rg v hv => ?_
  obtain ⟨rfl, rfl⟩ := hv
  refine ⟨Nat.zero_le _, ?_⟩
  rw [retS_new]
  refine AWpL.ofM hn rfl ?_
  simp (config := { maxSteps := 2000000 }) only [go_sem, ↓reduceIte, Int.reduceToNat, Nat.reduceMul, Int.reduceBEq, Int.reduceBNe, Nat.reduceBEq, Nat.reduceAdd, Nat.reduceSub, Nat.reduceLeDiff, Nat.reduceEqDiff, Nat.reduceLT, reduceCtorEq]
  have hJ : J.map jc = (List.range J.length).map fun k => jc (if k < 0 then trim (J.getD k default) else J.getD k default) := by
    apply List.ext_getElem
    · simp
    · intro k h1 h2
      simp at h1
      simp [List.getD_eq_getElem?_getD, List.getElem?_eq_getElem h1]
  refine AWp.loop (fun k s => ∃ (i : Nat), i + k = J.length ∧
      Weak E s ⟨[(1, .ptr 0 0 0), (2, .ptr 1 0 0), (16, I J.length), (17, I i)], [.box 25 [.hnd 2 0 J.length J.length false, .imm t.na t.fa 2 (t.apart.map pc), I t.crews], .box 25 [.val (.slice none 0 0), .val (.slice none 0 0), I 0],
        .arr 38 5 ((List.range J.length).map fun k => jc (if k < i then trim (J.getD k default) else J.getD k default))]⟩) (n := J.length)
    ⟨0, by omega, weak_to [0, 1, 2] hp hnp rfl (by simp (config := { maxSteps := 2000000 }) only [go_sem, ↓reduceIte, Int.reduceToNat, Nat.reduceMul, Int.reduceBEq, Int.reduceBNe, Nat.reduceBEq, Nat.reduceAdd, Nat.reduceSub, Nat.reduceLeDiff, Nat.reduceEqDiff, Nat.reduceLT, reduceCtorEq, Aw.pos]) (by rw [← hJ]; simp (config := { maxSteps := 2000000 }) only [go_sem, ↓reduceIte, Int.reduceToNat, Nat.reduceMul, Int.reduceBEq, Int.reduceBNe, Nat.reduceBEq, Nat.reduceAdd, Nat.reduceSub, Nat.reduceLeDiff, Nat.reduceEqDiff, Nat.reduceLT, reduceCtorEq, Aw.renR, Aw.pos])⟩ ?_
  rintro k s ⟨i, hi, hw⟩
  refine AWp.weak hw (AWp.ofD [] [35] hn mixed rfl ?_)
  rcases Nat.lt_or_ge i J.length with hlt | hge
  · have e0 : decide ((i : Int) < (J.length : Int)) = true := decide_eq_true (by omega)
    have e2 : IntKind.i64.wrap ((i : Int) + 1) = ((i + 1 : Nat) : Int) := by rw [w64 (by omega) (by omega)]; omega
    have e1 := getD_rng (fun k => jc (if k < i then trim (J.getD k default) else J.getD k default)) hlt
    rw [if_neg (Nat.lt_irrefl i)] at e1
    have hst : ∀ v, v = trim (J.getD i default) → (((List.range J.length).map fun k => jc (if k < i then trim (J.getD k default) else J.getD k default)).set i (jc v)) = (List.range J.length).map fun k => jc (if k < i + 1 then trim (J.getD k default) else J.getD k default) := fun v hv => by
      rw [set_rng]
      refine List.map_congr_left fun k hk => ?_
      by_cases h1 : k = i
      · subst h1; rw [if_pos rfl, if_pos (by omega), hv]
      · rw [if_neg h1]
        by_cases h2 : k < i
        · rw [if_pos h2, if_pos (by omega)]
        · rw [if_neg h2, if_neg (by omega)]
    have hst2 : J.getD i default = trim (J.getD i default) → ((List.range J.length).map fun k => jc (if k < i then trim (J.getD k default) else J.getD k default)) = (List.range J.length).map fun k => jc (if k < i + 1 then trim (J.getD k default) else J.getD k default) := fun hv => by
      refine List.map_congr_left fun k hk => ?_
      by_cases h1 : k = i
      · subst h1; rw [if_neg (by omega), if_pos (by omega), ← hv]
      · by_cases h2 : k < i
        · rw [if_pos h2, if_pos (by omega)]
        · rw [if_neg h2, if_neg (by omega)]
    generalize J.getD i default = j at *
    simp (config := { maxSteps := 2000000 }) only [go_sem, ↓reduceIte, Int.reduceToNat, Nat.reduceMul, Int.reduceBEq, Int.reduceBNe, Nat.reduceBEq, Nat.reduceAdd, Nat.reduceSub, Nat.reduceLeDiff, Nat.reduceEqDiff, Nat.reduceLT, reduceCtorEq, e0, e1]
    (repeat (refine And.intro (by first | omega | (refine ⟨by omega, by omega⟩) | (refine ⟨by omega, by omega, by omega⟩) | (simp only [List.length_map, List.length_range, List.length_append, List.length_cons, List.length_nil, List.length_replicate, List.length_set]; omega) | (simp; omega) | (intro hgd; cases hgd) | (intro hgd; refine ⟨hgd, ?_⟩; first | omega | (refine ⟨by omega, by omega⟩) | (simp; omega))) ?_))
    (refine AWpL.calle (s11 j.first 0 60) rfl (by rw [hn]; rfl) (by simp (config := { maxSteps := 2000000 }) only [go_sem, ↓reduceIte, Int.reduceToNat, Nat.reduceMul, Int.reduceBEq, Int.reduceBNe, Nat.reduceBEq, Nat.reduceAdd, Nat.reduceSub, Nat.reduceLeDiff, Nat.reduceEqDiff, Nat.reduceLT, reduceCtorEq]) (AWpL.ofM hn rfl ?_); simp (config := { maxSteps := 2000000 }) only [go_sem, ↓reduceIte, Int.reduceToNat, Nat.reduceMul, Int.reduceBEq, Int.reduceBNe, Nat.reduceBEq, Nat.reduceAdd, Nat.reduceSub, Nat.reduceLeDiff, Nat.reduceEqDiff, Nat.reduceLT, reduceCtorEq])
    simp (config := { maxSteps := 2000000 }) only [go_sem, ↓reduceIte, Int.reduceToNat, Nat.reduceMul, Int.reduceBEq, Int.reduceBNe, Nat.reduceBEq, Nat.reduceAdd, Nat.reduceSub, Nat.reduceLeDiff, Nat.reduceEqDiff, Nat.reduceLT, reduceCtorEq, e1]
    (repeat (refine And.intro (by first | omega | (refine ⟨by omega, by omega⟩) | (refine ⟨by omega, by omega, by omega⟩) | (simp only [List.length_map, List.length_range, List.length_append, List.length_cons, List.length_nil, List.length_replicate, List.length_set]; omega) | (simp; omega) | (intro hgd; cases hgd) | (intro hgd; refine ⟨hgd, ?_⟩; first | omega | (refine ⟨by omega, by omega⟩) | (simp; omega))) ?_))
    refine AWpL.gcalle (b := inB j.first 0 60) (y := B (inB j.last 0 60)) (by simp (config := { maxSteps := 2000000 }) only [go_sem, ↓reduceIte, Int.reduceToNat, Nat.reduceMul, Int.reduceBEq, Int.reduceBNe, Nat.reduceBEq, Nat.reduceAdd, Nat.reduceSub, Nat.reduceLeDiff, Nat.reduceEqDiff, Nat.reduceLT, reduceCtorEq]) (fun _ => s11 j.last 0 60) rfl (by rw [hn]; rfl) (fun hb => by simp (config := { maxSteps := 2000000 }) only [go_sem, ↓reduceIte, Int.reduceToNat, Nat.reduceMul, Int.reduceBEq, Int.reduceBNe, Nat.reduceBEq, Nat.reduceAdd, Nat.reduceSub, Nat.reduceLeDiff, Nat.reduceEqDiff, Nat.reduceLT, reduceCtorEq, hb]) (AWpL.ofM hn rfl ?_)
    simp (config := { maxSteps := 2000000 }) only [go_sem, ↓reduceIte, Int.reduceToNat, Nat.reduceMul, Int.reduceBEq, Int.reduceBNe, Nat.reduceBEq, Nat.reduceAdd, Nat.reduceSub, Nat.reduceLeDiff, Nat.reduceEqDiff, Nat.reduceLT, reduceCtorEq]
    refine AWp.cut ⟨[(1, .ptr 0 0 0), (2, .ptr 1 0 0), (16, I J.length), (17, I i)], [.box 25 [.hnd 2 0 J.length J.length false, .imm t.na t.fa 2 (t.apart.map pc), I t.crews], .box 25 [.val (.slice none 0 0), .val (.slice none 0 0), I 0],
        .arr 38 5 ((List.range J.length).map fun k => jc (if k < i + 1 then trim (J.getD k default) else J.getD k default))]⟩ ?_ ?_
    · refine AWp.ofD [] [] hn mixed rfl ?_
      simp (config := { maxSteps := 2000000 }) only [go_sem, ↓reduceIte, Int.reduceToNat, Nat.reduceMul, Int.reduceBEq, Int.reduceBNe, Nat.reduceBEq, Nat.reduceAdd, Nat.reduceSub, Nat.reduceLeDiff, Nat.reduceEqDiff, Nat.reduceLT, reduceCtorEq]
      refine ⟨fun h => ?_, fun h => ?_⟩
      · have h2 := h
        unfold inB at h2
        simp only [Bool.and_eq_true, decide_eq_true_eq] at h2
        have ht : trim j = { j with last := min j.last (j.first + 4) } := if_pos h
        have hs2 : (((List.range J.length).map fun k => jc (if k < i then trim (J.getD k default) else J.getD k default)).set i [S j.name, I j.long, I j.first, I (min j.last (j.first + 4)), I j.weight]) = (List.range J.length).map fun k => jc (if k < i + 1 then trim (J.getD k default) else J.getD k default) := hst _ ht.symm
        have e4 : IntKind.i64.wrap (j.first + 4) = j.first + 4 := w64 (by omega) (by omega)
        refine AWp.plan (.take 0 [false, true, true, true, true, true, true, true, true, true, true, false, false, false] (.take 1 [true, false, false, false, false, true, true, true, true, true, false, false, false, false] (.take 2 [true, true, false, false, false, true, true, true, true, true, false, false, false, false] (.take 3 [true, true, true, false, false, true, true, true, true, true, false, false, false, false] (.take 4 [true, true, true, true, false, true, true, true, true, true, false, false, false, false] (.take 5 [true, true, true, true, true, false, false, false, false, false, false, false, false, false] (.take 6 [true, true, true, true, true, true, false, false, false, false, false, false, false, false] (.take 7 [true, true, true, true, true, true, true, false, false, false, false, false, false, false] (.take 8 [true, true, true, true, true, true, true, true, false, false, false, false, false, false] (.take 9 [true, true, true, true, true, true, true, true, true, false, false, false, false, false] (.take 10 [true, true, true, true, true, true, true, true, true, true, false, false, false, false] (.take 11 [true, true, true, true, true, true, true, true, true, true, true, false, false, false] (.take 12 [true, true, true, true, true, true, true, true, true, true, true, true, false, false] (.one 13 .done)))))))))))))) [true, true, true, true, true, true, true, true, true, true, true, true, true, false] mixed hn rfl rfl ?_
        simp (config := { maxSteps := 2000000 }) only [go_sem, ↓reduceIte, Int.reduceToNat, Nat.reduceMul, Int.reduceBEq, Int.reduceBNe, Nat.reduceBEq, Nat.reduceAdd, Nat.reduceSub, Nat.reduceLeDiff, Nat.reduceEqDiff, Nat.reduceLT, reduceCtorEq, e1, e4]
        (repeat (refine And.intro (by first | omega | (refine ⟨by omega, by omega⟩) | (refine ⟨by omega, by omega, by omega⟩) | (simp only [List.length_map, List.length_range, List.length_append, List.length_cons, List.length_nil, List.length_replicate, List.length_set]; omega) | (simp; omega) | (intro hgd; cases hgd) | (intro hgd; refine ⟨hgd, ?_⟩; first | omega | (refine ⟨by omega, by omega⟩) | (simp; omega))) ?_))
        exact weak_to [0, 1, 2] hp hnp rfl (by simp (config := { maxSteps := 2000000 }) only [go_sem, ↓reduceIte, Int.reduceToNat, Nat.reduceMul, Int.reduceBEq, Int.reduceBNe, Nat.reduceBEq, Nat.reduceAdd, Nat.reduceSub, Nat.reduceLeDiff, Nat.reduceEqDiff, Nat.reduceLT, reduceCtorEq, Aw.pos]) (by simp (config := { maxSteps := 2000000 }) only [go_sem, ↓reduceIte, Int.reduceToNat, Nat.reduceMul, Int.reduceBEq, Int.reduceBNe, Nat.reduceBEq, Nat.reduceAdd, Nat.reduceSub, Nat.reduceLeDiff, Nat.reduceEqDiff, Nat.reduceLT, reduceCtorEq, Aw.renR, Aw.pos, hs2])
      · have ht : j = trim j := (if_neg (by simp [h])).symm
        exact weak_to [0, 1, 2] hp hnp rfl (by simp (config := { maxSteps := 2000000 }) only [go_sem, ↓reduceIte, Int.reduceToNat, Nat.reduceMul, Int.reduceBEq, Int.reduceBNe, Nat.reduceBEq, Nat.reduceAdd, Nat.reduceSub, Nat.reduceLeDiff, Nat.reduceEqDiff, Nat.reduceLT, reduceCtorEq, Aw.pos]) (by simp (config := { maxSteps := 2000000 }) only [go_sem, ↓reduceIte, Int.reduceToNat, Nat.reduceMul, Int.reduceBEq, Int.reduceBNe, Nat.reduceBEq, Nat.reduceAdd, Nat.reduceSub, Nat.reduceLeDiff, Nat.reduceEqDiff, Nat.reduceLT, reduceCtorEq, Aw.renR, Aw.pos, hst2 ht])
    simp (config := { maxSteps := 2000000 }) only [go_sem, ↓reduceIte, Int.reduceToNat, Nat.reduceMul, Int.reduceBEq, Int.reduceBNe, Nat.reduceBEq, Nat.reduceAdd, Nat.reduceSub, Nat.reduceLeDiff, Nat.reduceEqDiff, Nat.reduceLT, reduceCtorEq, e2]
    exact ⟨k - 1, by omega, i + 1, by omega, weak_to [0, 1, 2] hp hnp rfl (by simp (config := { maxSteps := 2000000 }) only [go_sem, ↓reduceIte, Int.reduceToNat, Nat.reduceMul, Int.reduceBEq, Int.reduceBNe, Nat.reduceBEq, Nat.reduceAdd, Nat.reduceSub, Nat.reduceLeDiff, Nat.reduceEqDiff, Nat.reduceLT, reduceCtorEq, Aw.pos]) (by simp (config := { maxSteps := 2000000 }) only [go_sem, ↓reduceIte, Int.reduceToNat, Nat.reduceMul, Int.reduceBEq, Int.reduceBNe, Nat.reduceBEq, Nat.reduceAdd, Nat.reduceSub, Nat.reduceLeDiff, Nat.reduceEqDiff, Nat.reduceLT, reduceCtorEq, Aw.renR, Aw.pos])⟩
  · have e0 : decide ((i : Int) < (J.length : Int)) = false := decide_eq_false (by omega)
    obtain rfl : i = J.length := by omega
    simp (config := { maxSteps := 2000000 }) only [go_sem, ↓reduceIte, Int.reduceToNat, Nat.reduceMul, Int.reduceBEq, Int.reduceBNe, Nat.reduceBEq, Nat.reduceAdd, Nat.reduceSub, Nat.reduceLeDiff, Nat.reduceEqDiff, Nat.reduceLT, reduceCtorEq, e0]
    have hfin : ((List.range J.length).map fun k => jc (if k < J.length then trim (J.getD k default) else J.getD k default)) = (J.map trim).map jc := by
      apply List.ext_getElem
      · simp
      · intro k h1 h2
        simp at h1
        simp [List.getD_eq_getElem?_getD, List.getElem?_eq_getElem h1, h1]
    rw [hfin]
    refine Retn.weak (weak_freeze 2 rfl (pin 2) (by simp (config := { maxSteps := 2000000 }) only [go_sem, ↓reduceIte, Int.reduceToNat, Nat.reduceMul, Int.reduceBEq, Int.reduceBNe, Nat.reduceBEq, Nat.reduceAdd, Nat.reduceSub, Nat.reduceLeDiff, Nat.reduceEqDiff, Nat.reduceLT, reduceCtorEq, Nat.le_refl, List.length_map])) _ ?_
    have htk : ((J.map trim).map jc).take J.length = (J.map trim).map jc := List.take_of_length_le (by simp)
    simp (config := { maxSteps := 2000000 }) only [go_sem, ↓reduceIte, Int.reduceToNat, Nat.reduceMul, Int.reduceBEq, Int.reduceBNe, Nat.reduceBEq, Nat.reduceAdd, Nat.reduceSub, Nat.reduceLeDiff, Nat.reduceEqDiff, Nat.reduceLT, reduceCtorEq, htk]
    refine Retn.ret (π := [1]) hp hnp ⟨rfl, ?_⟩
    simp (config := { maxSteps := 2000000 }) only [go_sem, ↓reduceIte, Int.reduceToNat, Nat.reduceMul, Int.reduceBEq, Int.reduceBNe, Nat.reduceBEq, Nat.reduceAdd, Nat.reduceSub, Nat.reduceLeDiff, Nat.reduceEqDiff, Nat.reduceLT, reduceCtorEq, Aw.resAVs, Aw.resAV, Aw.renR, Aw.pos, hsm]
theorem s15 (nl fl) (l : List Int) (nm fm) (m : List Int) (hl : l.length ≤ 9223372036854775807) (hm : m.length ≤ 9223372036854775807) : Aw.Spec Try.prog 15 [] [il nl fl l, il nm fm m] (Gives (· = B (l == m))) := by
  refine Aw.Spec.givesD k15 mixed rfl rfl rfl fun E hn hnp hp => ?_
  unfold a15
  simp (config := { maxSteps := 2000000 }) only [go_sem, ↓reduceIte, Int.reduceToNat, Nat.reduceMul, Int.reduceBEq, Int.reduceBNe, Nat.reduceBEq, Nat.reduceAdd, Nat.reduceSub, Nat.reduceLeDiff, Nat.reduceEqDiff, Nat.reduceLT, reduceCtorEq]
  simp only [bne_iff_ne, ne_eq, bne_eq_false_iff_eq]
  refine ⟨fun h => ?_, fun h => ?_⟩
  · rw [show (l == m) = false from beq_eq_false_iff_ne.2 fun e => h (by rw [e])]
  refine AWp.loop (fun k s => ∃ i : Nat, i + k = l.length ∧ (l == m) = (l.drop i == m.drop i) ∧ Weak E s ⟨[(0, il nl fl l), (1, il nm fm m), (12, I l.length), (13, I i)], []⟩) (n := l.length)
    ⟨0, by omega, rfl, weak_to [] hp hnp rfl (by simp (config := { maxSteps := 2000000 }) only [go_sem, ↓reduceIte, Int.reduceToNat, Nat.reduceMul, Int.reduceBEq, Int.reduceBNe, Nat.reduceBEq, Nat.reduceAdd, Nat.reduceSub, Nat.reduceLeDiff, Nat.reduceEqDiff, Nat.reduceLT, reduceCtorEq, Int.natCast_zero]) rfl⟩ ?_
  rintro k s ⟨i, hi, hs, hw⟩
  refine AWp.weak hw (AWp.ofD [] [] hn mixed rfl ?_)
  rcases Nat.lt_or_ge i l.length with hlt | hge
  · have hlm : i < m.length := by omega
    have e0 : decide ((i : Int) < (l.length : Int)) = true := by simp; omega
    have e1 := getD_map (fun n : Int => [I n]) hlt
    have e3 := getD_map (fun n : Int => [I n]) hlm
    have e2 : IntKind.i64.wrap ((i : Int) + 1) = ((i + 1 : Nat) : Int) := by rw [w64 (by omega) (by omega)]; omega
    rw [List.drop_eq_getElem_cons hlt, List.drop_eq_getElem_cons hlm, List.cons_beq_cons] at hs
    simp (config := { maxSteps := 2000000 }) only [go_sem, ↓reduceIte, Int.reduceToNat, Nat.reduceMul, Int.reduceBEq, Int.reduceBNe, Nat.reduceBEq, Nat.reduceAdd, Nat.reduceSub, Nat.reduceLeDiff, Nat.reduceEqDiff, Nat.reduceLT, reduceCtorEq, e0, e1, e2, e3]
    (repeat (refine And.intro (by first | omega | (refine ⟨by omega, by omega⟩) | (refine ⟨by omega, by omega, by omega⟩) | (simp only [List.length_map, List.length_range, List.length_append, List.length_cons, List.length_nil, List.length_replicate, List.length_set]; omega) | (simp; omega) | (intro hgd; cases hgd) | (intro hgd; refine ⟨hgd, ?_⟩; first | omega | (refine ⟨by omega, by omega⟩) | (simp; omega))) ?_))
    refine ⟨fun h => ?_, fun h => ?_⟩
    · rw [hs, show (l[i] == m[i]) = false by simpa using h]; rfl
    · rw [show (l[i] == m[i]) = true by simpa using h, Bool.true_and] at hs
      exact ⟨k - 1, by omega, i + 1, by omega, hs, weak_to [] hp hnp rfl (by simp (config := { maxSteps := 2000000 }) only [go_sem, ↓reduceIte, Int.reduceToNat, Nat.reduceMul, Int.reduceBEq, Int.reduceBNe, Nat.reduceBEq, Nat.reduceAdd, Nat.reduceSub, Nat.reduceLeDiff, Nat.reduceEqDiff, Nat.reduceLT, reduceCtorEq]) rfl⟩
  · have e0 : decide ((i : Int) < (l.length : Int)) = false := by simp; omega
    simp (config := { maxSteps := 2000000 }) only [go_sem, ↓reduceIte, Int.reduceToNat, Nat.reduceMul, Int.reduceBEq, Int.reduceBNe, Nat.reduceBEq, Nat.reduceAdd, Nat.reduceSub, Nat.reduceLeDiff, Nat.reduceEqDiff, Nat.reduceLT, reduceCtorEq, e0]
    rw [hs, List.drop_of_length_le hge, List.drop_of_length_le (by omega)]
    rfl
def factT : Task := ⟨none, true, [⟨⟨#[65]⟩, 1, 0, 1, 3⟩, ⟨⟨#[66]⟩, 1, 0, 1, 3⟩], none, true, [(0, 1)], 2⟩
set_option maxRecDepth 20000 in
theorem s8 : Aw.Spec Try.prog 8 [] [] (Gives (· = B true)) := by
  refine Aw.Spec.givesW k8 rfl rfl fun E hn hnp hp => ?_
  unfold a8
  have pin : ∀ r, E.pin r = none := fun r => hp.none hnp (Nat.zero_le _)
  refine AWp.ofD [] [] hn mixed rfl ?_
  simp (config := { maxSteps := 2000000 }) only [go_sem, ↓reduceIte, Int.reduceToNat, Nat.reduceMul, Int.reduceBEq, Int.reduceBNe, Nat.reduceBEq, Nat.reduceAdd, Nat.reduceSub, Nat.reduceLeDiff, Nat.reduceEqDiff, Nat.reduceLT, reduceCtorEq]
  refine AWpL.weak (weak_freeze 0 rfl (pin 0) (by simp (config := { maxSteps := 2000000 }) only [go_sem, ↓reduceIte, Int.reduceToNat, Nat.reduceMul, Int.reduceBEq, Int.reduceBNe, Nat.reduceBEq, Nat.reduceAdd, Nat.reduceSub, Nat.reduceLeDiff, Nat.reduceEqDiff, Nat.reduceLT, reduceCtorEq, Nat.le_refl])) (AWpL.weak (weak_freeze 1 rfl (pin 1) (by simp (config := { maxSteps := 2000000 }) only [go_sem, ↓reduceIte, Int.reduceToNat, Nat.reduceMul, Int.reduceBEq, Int.reduceBNe, Nat.reduceBEq, Nat.reduceAdd, Nat.reduceSub, Nat.reduceLeDiff, Nat.reduceEqDiff, Nat.reduceLT, reduceCtorEq, Nat.le_refl])) ?_)
  have hnm : Named factT := fun j hj => by
    simp only [factT, List.mem_cons, List.not_mem_nil, or_false] at hj
    rcases hj with rfl | rfl <;> decide
  refine AWpL.callA [] (s7 factT hnm) rfl rfl (by rw [hn]; rfl) rfl (fun r hr => by cases hr) fun rg v hv => ?_
  obtain ⟨rfl, rfl, _⟩ := hv
  have hb : bestF factT = ([0, 1], 3, 0) := by decide +kernel
  refine ⟨Nat.zero_le _, ?_⟩
  rw [retS_nil]
  refine AWpL.ofM hn rfl ?_
  simp (config := { maxSteps := 2000000 }) only [go_sem, ↓reduceIte, Int.reduceToNat, Nat.reduceMul, Int.reduceBEq, Int.reduceBNe, Nat.reduceBEq, Nat.reduceAdd, Nat.reduceSub, Nat.reduceLeDiff, Nat.reduceEqDiff, Nat.reduceLT, reduceCtorEq, hb]
  (refine AWpL.gcalle (b := true) rfl (fun _ => (s15 none false [0, 1] none false [0, 1] (by decide) (by decide))) rfl (by rw [hn]; rfl) (fun _ => by simp (config := { maxSteps := 2000000 }) only [go_sem, ↓reduceIte, Int.reduceToNat, Nat.reduceMul, Int.reduceBEq, Int.reduceBNe, Nat.reduceBEq, Nat.reduceAdd, Nat.reduceSub, Nat.reduceLeDiff, Nat.reduceEqDiff, Nat.reduceLT, reduceCtorEq]) (AWpL.ofM hn rfl ?_); simp (config := { maxSteps := 2000000 }) only [go_sem, ↓reduceIte, Int.reduceToNat, Nat.reduceMul, Int.reduceBEq, Int.reduceBNe, Nat.reduceBEq, Nat.reduceAdd, Nat.reduceSub, Nat.reduceLeDiff, Nat.reduceEqDiff, Nat.reduceLT, reduceCtorEq])
end Go.Proofs.Ytncfffplnmlnfaa
