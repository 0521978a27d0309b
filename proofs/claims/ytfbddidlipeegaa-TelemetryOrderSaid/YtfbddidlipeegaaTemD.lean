/- Telemetry: binary search. -/
import Derived.Test.YtfbddidlipeegaaAwZg
import Derived.Test.YtfbddidlipeegaaTemC
set_option linter.unusedVariables false
set_option linter.unusedSimpArgs false
namespace Go.Proofs.Ytfbddidlipeegaa
open Go.Proofs.Ytfbddidlipeegaa.Aw
attribute [local go_sem] Int.natCast_zero Int.natCast_one bne_self_eq_false beq_self_eq_true Bool.not_true Bool.not_false Option.isSome_none Option.isSome_some Aw.bkM_nil Option.getD_some Option.getD_none Nat.sub_zero Int.toNat_zero Aw.frzS Aw.frzT Aw.frzA Aw.frzL Aw.frzR Aw.frzO Aw.frzOL Aw.frzOT Aw.frzOR Aw.killS Aw.mapT Aw.mapR Aw.killM Aw.resAVs Aw.resAV Aw.quietOps Aw.wpP Aw.wpT Aw.wpS Aw.AOp.mild List.getElem?_cons_zero List.getElem?_cons_succ Bool.and_false Bool.and_self Bool.false_and Aw.opOb Aw.gdB Aw.Rnd Aw.subTm List.length_map Int.toNat_natCast and_self Aw.SeqC Aw.stops Aw.Ends Aw.looks Aw.renA Aw.renL Aw.renT Aw.renS Aw.wpO Aw.aop Aw.putTm Aw.St.ev Aw.St.put Aw.St.putO Aw.binAV Aw.intBin Aw.strBin Aw.pickAV Aw.optInt Aw.AV.strip Aw.AV.guard Aw.AV.cells Aw.gdOb Aw.AOp.opds Aw.AOp.still Aw.ptrCells Aw.St.reg Aw.fillAV Aw.fillOb Aw.elsOb Aw.splice Aw.firm Aw.cellish Aw.AV.shut Aw.shutAll Aw.Seq Aw.Blk Aw.retS_nil Aw.mapA Aw.mapL Aw.borA Aw.borOb Aw.allOb Aw.tupOf Aw.params Aw.Opd.of Array.toList Value.cells List.map_cons List.map_nil List.getD_cons_zero List.getD_cons_succ List.getD_nil List.length_cons List.length_nil List.take_succ_cons List.take_zero List.take_nil List.drop_zero List.drop_succ_cons List.drop_nil List.set_cons_zero List.set_cons_succ List.append_nil List.nil_append List.cons_append List.all_cons List.all_nil cond_false cond_true if_true if_false true_and and_true Bool.and_true Bool.true_and Option.map_some Option.map_none false_implies forall_const implies_true forall_eq imp_self Bool.cond_false_right Bool.cond_true_left beq_true beq_false Bool.not_eq_true' Bool.false_eq_true Nat.zero_add Nat.add_zero Aw.eqCells Aw.exactCap Aw.revealS Aw.srcEls Aw.srcSz
attribute [local go_sem ↓] Aw.look_nil Aw.look_ite Aw.wpL_nil Aw.wpL_op Aw.wpL_gd Aw.wpQ_nil Aw.wpQ_op Aw.wpQ_gd Aw.wpC_draw Aw.wpC_reg Aw.wpC_skip Aw.wpC_ret Aw.wpC_exit Aw.wpC_seq Aw.wpC_block Aw.wpC_loop Aw.wpC_cond Aw.stopAt_nil Aw.stopAt_cons Aw.wpD_skip Aw.wpD_ret Aw.wpD_exit Aw.wpD_region Aw.wpD_draw Aw.wpM_nil Aw.wpM_op Aw.wpM_gd Aw.wpD_seq Aw.wpD_block Aw.wpD_loop Aw.wpD_cond
/- (*gridhall/telemetry.Points).find$1 -/
def a19 : ACode :=
  (.seq (.region false [] [
     ⟨(some 2), none, (.box 29 (.t 0))⟩,
     ⟨(some 4), none, (.mov (.v (.int .i64 0)))⟩])
  (.seq (.region false [] [
     ⟨(some 5), none, (.fld 0 (.t 2))⟩,
     ⟨(some 6), none, (.load 1 false (.t 5))⟩,
     ⟨(some 7), none, (.mov (.t 1))⟩,
     ⟨(some 8), none, (.call 20 [(.t 6), (.t 7)])⟩,
     ⟨(some 4), none, (.mov (.t 8))⟩])
  .ret))
theorem k19 : FnIs Try.prog 19 9 [.t 4] a19 := ⟨_, _, Try.func19, rfl, by kernel_rfl, by kernel_rfl, rfl⟩
/- slices.BinarySearchFunc[[]gridhall/api.TelemetryMsg,gridhall/api.TelemetryMsg,string] -/
def a18 : ACode :=
  (.seq (.region false [] [
     ⟨(some 6), none, (.mov (.v (.int .i64 0)))⟩,
     ⟨(some 7), none, (.mov (.v (.bool false)))⟩])
  (.seq (.region false [] [
     ⟨(some 12), none, (.mov (.t 0))⟩,
     ⟨(some 13), none, (.len (.t 12))⟩,
     ⟨(some 8), none, (.mov (.t 13))⟩])
  (.seq (.region false [] [
     ⟨(some 14), none, (.mov (.t 8))⟩,
     ⟨(some 9), none, (.mov (.v (.int .i64 0)))⟩,
     ⟨(some 10), none, (.mov (.t 14))⟩])
  (.seq (.block 0 (.loop (.seq (.seq (.region false [] [
       ⟨(some 15), none, (.mov (.t 9))⟩,
       ⟨(some 16), none, (.mov (.t 10))⟩,
       ⟨(some 17), none, (.bin .lss 3 (.t 15) (.t 16))⟩])
    (.cond (.t 17)
      .skip
      (.exit 0)))
    (.block 1 (.seq (.region false [] [
        ⟨(some 18), none, (.mov (.t 9))⟩,
        ⟨(some 19), none, (.mov (.t 10))⟩,
        ⟨(some 20), none, (.bin .add 3 (.t 18) (.t 19))⟩,
        ⟨(some 21), none, (.itoi .u64 (.t 20))⟩,
        ⟨(some 22), none, (.bin .shr 56 (.t 21) (.v (.int .u64 1)))⟩,
        ⟨(some 23), none, (.itoi .i64 (.t 22))⟩,
        ⟨(some 11), none, (.mov (.t 23))⟩])
     (.seq (.region false [] [
        ⟨(some 24), none, (.mov (.t 2))⟩,
        ⟨(some 25), none, (.mov (.t 0))⟩,
        ⟨(some 26), none, (.mov (.t 11))⟩,
        ⟨(some 27), none, (.idx 4 (.t 25) (.t 26))⟩,
        ⟨(some 28), none, (.load 4 true (.t 27))⟩,
        ⟨(some 29), none, (.mov (.t 1))⟩,
        ⟨(some 30), none, (.callv (.t 24) [(.t 28), (.t 29)])⟩,
        ⟨(some 31), none, (.bin .lss 3 (.t 30) (.v (.int .i64 0)))⟩])
     (.cond (.t 31)
       (.region false [] [
          ⟨(some 32), none, (.mov (.t 11))⟩,
          ⟨(some 33), none, (.bin .add 3 (.t 32) (.v (.int .i64 1)))⟩,
          ⟨(some 9), none, (.mov (.t 33))⟩])
       (.region false [] [
          ⟨(some 34), none, (.mov (.t 11))⟩,
          ⟨(some 10), none, (.mov (.t 34))⟩]))))))))
  (.seq (.region false [] [
     ⟨(some 35), none, (.mov (.t 9))⟩,
     ⟨(some 36), none, (.mov (.t 9))⟩,
     ⟨(some 37), none, (.mov (.t 8))⟩,
     ⟨(some 38), none, (.bin .lss 3 (.t 36) (.t 37))⟩,
     ⟨(some 39), none, (.mov (.t 38))⟩,
     ⟨(some 40), (some (39, true)), (.mov (.t 2))⟩,
     ⟨(some 41), (some (39, true)), (.mov (.t 0))⟩,
     ⟨(some 42), (some (39, true)), (.mov (.t 9))⟩,
     ⟨(some 43), (some (39, true)), (.idx 4 (.t 41) (.t 42))⟩,
     ⟨(some 44), (some (39, true)), (.load 4 true (.t 43))⟩,
     ⟨(some 45), (some (39, true)), (.mov (.t 1))⟩,
     ⟨(some 46), (some (39, true)), (.callv (.t 40) [(.t 44), (.t 45)])⟩,
     ⟨(some 47), (some (39, true)), (.bin .eql 3 (.t 46) (.v (.int .i64 0)))⟩,
     ⟨(some 48), none, (.pick (.t 39) (.t 47) (.v (.bool false)))⟩,
     ⟨(some 6), none, (.mov (.t 35))⟩,
     ⟨(some 7), none, (.mov (.t 48))⟩])
  .ret)))))
theorem k18 : FnIs Try.prog 18 49 [.t 6, .t 7] a18 := ⟨_, _, Try.func18, rfl, by kernel_rfl, by kernel_rfl, rfl⟩

theorem s19 (m : Msg) (x : ByteArray) : Aw.Spec Try.prog 19 [] [ma m, S x] (Gives (· = I (cmpS m.pt x))) := by
  refine Aw.Spec.givesD k19 mixed rfl rfl rfl fun E hn hnp hp => ?_
  unfold a19
  simp (config := { maxSteps := 2000000 }) only [go_sem, ↓reduceIte, Int.reduceToNat, Nat.reduceMul, Int.reduceBEq, Int.reduceBNe, Nat.reduceBEq, Nat.reduceAdd, Nat.reduceSub, Nat.reduceLeDiff, Nat.reduceEqDiff, Nat.reduceLT, reduceCtorEq]
  (refine AWpL.calle (s20 m.pt x) rfl (by rw [hn]; rfl) (by simp (config := { maxSteps := 2000000 }) only [go_sem, ↓reduceIte, Int.reduceToNat, Nat.reduceMul, Int.reduceBEq, Int.reduceBNe, Nat.reduceBEq, Nat.reduceAdd, Nat.reduceSub, Nat.reduceLeDiff, Nat.reduceEqDiff, Nat.reduceLT, reduceCtorEq]) (AWpL.ofM hn rfl ?_); simp (config := { maxSteps := 2000000 }) only [go_sem, ↓reduceIte, Int.reduceToNat, Nat.reduceMul, Int.reduceBEq, Int.reduceBNe, Nat.reduceBEq, Nat.reduceAdd, Nat.reduceSub, Nat.reduceLeDiff, Nat.reduceEqDiff, Nat.reduceLT, reduceCtorEq])
/-- Where x belongs. -/
def lbS (l : List Msg) (x : ByteArray) : Nat := (l.takeWhile fun m => decide (cmpS m.pt x < 0)).length
def fdS (l : List Msg) (x : ByteArray) : Bool := decide (lbS l x < l.length) && (cmpS (l.getD (lbS l x) default).pt x == 0)
theorem lb_eq (x : ByteArray) : ∀ (l : List Msg) (i : Nat), i ≤ l.length → (∀ n, n < i → cmpS (l.getD n default).pt x < 0) → (∀ n, i ≤ n → n < l.length → ¬ cmpS (l.getD n default).pt x < 0) → lbS l x = i
  | [], i, h, _, _ => by unfold lbS; simp at h; simp [h]
  | m :: l, 0, _, _, h => by
    have := h 0 (Nat.le_refl _) (by simp)
    unfold lbS
    rw [List.takeWhile_cons_of_neg (by simpa using this)]; rfl
  | m :: l, i + 1, hl, h1, h2 => by
    have h0 := h1 0 (by omega)
    have ih := lb_eq x l i (by simpa using hl) (fun n hn => h1 (n + 1) (by omega)) (fun n hn hn2 => h2 (n + 1) (by omega) (by simpa using hn2))
    unfold lbS at ih ⊢
    rw [List.takeWhile_cons_of_pos (by simpa using h0), List.length_cons, ih]
def Mono (l : List Msg) (x : ByteArray) : Prop := ∀ i j, i ≤ j → j < l.length → cmpS (l.getD j default).pt x < 0 → cmpS (l.getD i default).pt x < 0
theorem s18 (nl fl) (l : List Msg) (x : ByteArray) (hl : l.length ≤ 1000) (hm : Mono l x) :
    Aw.Spec Try.prog 18 [] [.imm nl fl 4 (l.map mc), S x, .fn 19 []] (Gives (· = .tup [I (lbS l x), B (fdS l x)])) := by
  refine Aw.Spec.givesD k18 mixed rfl rfl rfl fun E hn hnp hp => ?_
  unfold a18
  simp (config := { maxSteps := 2000000 }) only [go_sem, ↓reduceIte, Int.reduceToNat, Nat.reduceMul, Int.reduceBEq, Int.reduceBNe, Nat.reduceBEq, Nat.reduceAdd, Nat.reduceSub, Nat.reduceLeDiff, Nat.reduceEqDiff, Nat.reduceLT, reduceCtorEq]
  refine AWp.loop (fun k s => ∃ i j : Nat, i + k = j ∧ j ≤ l.length ∧ (∀ n, n < i → cmpS (l.getD n default).pt x < 0) ∧ (∀ n, j ≤ n → n < l.length → ¬ cmpS (l.getD n default).pt x < 0) ∧
      Weak E s ⟨[(0, .imm nl fl 4 (l.map mc)), (1, S x), (2, .fn 19 []), (8, I l.length), (9, I i), (10, I j)], []⟩) (n := l.length)
    ⟨0, l.length, by omega, Nat.le_refl _, fun n h => by omega, fun n h h2 => by omega, weak_to [] hp hnp rfl (by simp (config := { maxSteps := 2000000 }) only [go_sem, ↓reduceIte, Int.reduceToNat, Nat.reduceMul, Int.reduceBEq, Int.reduceBNe, Nat.reduceBEq, Nat.reduceAdd, Nat.reduceSub, Nat.reduceLeDiff, Nat.reduceEqDiff, Nat.reduceLT, reduceCtorEq, Int.natCast_zero]) rfl⟩ ?_
  rintro k s ⟨i, j, hk, hj, hlo, hhi, hw⟩
  refine AWp.weak hw (AWp.ofD [] [] hn mixed rfl ?_)
  rcases Nat.lt_or_ge i j with hlt | hge
  · have e0 : decide ((i : Int) < (j : Int)) = true := decide_eq_true (by omega)
    have e2 : IntKind.i64.wrap ((i : Int) + (j : Int)) = ((i + j : Nat) : Int) := by rw [w64 (by omega) (by omega)]; omega
    have hh : (i + j) / 2 < l.length := by omega
    have e3 : IntKind.i64.wrap ((IntKind.u64.wrap ((i + j : Nat) : Int)).fdiv (2 ^ min 1 64)) = (((i + j) / 2 : Nat) : Int) := by
      rw [IntWalk.u64_in _ ⟨by omega, by omega⟩, Int.fdiv_eq_ediv_of_nonneg _ (by decide)]
      have : (((i + j : Nat) : Int) / (2 ^ min 1 64)) = (((i + j) / 2 : Nat) : Int) := by
        show ((i + j : Nat) : Int) / 2 = _
        omega
      rw [this, w64 (by omega) (by omega)]
    have hb1 : i ≤ (i + j) / 2 := by omega
    have hb2 : (i + j) / 2 < j := by omega
    generalize hq : (i + j) / 2 = q at *
    have e1 := getD_mapD default mc hh
    have e4 : IntKind.i64.wrap ((q : Int) + 1) = ((q + 1 : Nat) : Int) := by rw [w64 (by omega) (by omega)]; omega
    simp (config := { maxSteps := 2000000 }) only [go_sem, ↓reduceIte, Int.reduceToNat, Nat.reduceMul, Int.reduceBEq, Int.reduceBNe, Nat.reduceBEq, Nat.reduceAdd, Nat.reduceSub, Nat.reduceLeDiff, Nat.reduceEqDiff, Nat.reduceLT, reduceCtorEq, e0, e2, e3, e1]
    (repeat (refine And.intro (by first | omega | (refine ⟨by omega, by omega⟩) | (refine ⟨by omega, by omega, by omega⟩) | (simp only [List.length_map, List.length_range, List.length_append, List.length_cons, List.length_nil, List.length_replicate, List.length_set]; omega) | (simp; omega) | (intro hgd; cases hgd) | (intro hgd; refine ⟨hgd, ?_⟩; first | omega | (refine ⟨by omega, by omega⟩) | (simp; omega))) ?_))
    refine AWpL.callv rfl (by kernel_rfl) (s19 (l.getD q default) x) (by rw [hn]; rfl) fun rg v hv => ?_
    obtain ⟨rfl, rfl⟩ := hv
    rw [retS_nil]
    refine AWpL.ofM hn rfl ?_
    simp (config := { maxSteps := 2000000 }) only [go_sem, ↓reduceIte, Int.reduceToNat, Nat.reduceMul, Int.reduceBEq, Int.reduceBNe, Nat.reduceBEq, Nat.reduceAdd, Nat.reduceSub, Nat.reduceLeDiff, Nat.reduceEqDiff, Nat.reduceLT, reduceCtorEq, e4]
    simp only [decide_eq_true_eq, decide_eq_false_iff_not]
    refine ⟨fun h => ?_, fun h => ?_⟩
    · exact ⟨j - (q + 1), by omega, q + 1, j, by omega, hj, fun n hn2 => hm n q (by omega) hh h, hhi, weak_to [] hp hnp rfl (by simp (config := { maxSteps := 2000000 }) only [go_sem, ↓reduceIte, Int.reduceToNat, Nat.reduceMul, Int.reduceBEq, Int.reduceBNe, Nat.reduceBEq, Nat.reduceAdd, Nat.reduceSub, Nat.reduceLeDiff, Nat.reduceEqDiff, Nat.reduceLT, reduceCtorEq]) rfl⟩
    · exact ⟨q - i, by omega, i, q, by omega, by omega, hlo, fun n h1 h2 h3 => h (hm q n h1 h2 h3), weak_to [] hp hnp rfl (by simp (config := { maxSteps := 2000000 }) only [go_sem, ↓reduceIte, Int.reduceToNat, Nat.reduceMul, Int.reduceBEq, Int.reduceBNe, Nat.reduceBEq, Nat.reduceAdd, Nat.reduceSub, Nat.reduceLeDiff, Nat.reduceEqDiff, Nat.reduceLT, reduceCtorEq]) rfl⟩
  · have e0 : decide ((i : Int) < (j : Int)) = false := decide_eq_false (by omega)
    obtain rfl : i = j := by omega
    have hlb := lb_eq x l i hj hlo hhi
    have hfd : fdS l x = (decide (lbS l x < l.length) && (cmpS (l.getD (lbS l x) default).pt x == 0)) := rfl
    rw [hlb] at hfd
    rcases Nat.lt_or_ge i l.length with h5 | h5
    · have e5 : decide ((i : Int) < (l.length : Int)) = true := decide_eq_true (by omega)
      have e1 := getD_mapD default mc h5
      rw [decide_eq_true h5, Bool.true_and] at hfd
      simp (config := { maxSteps := 2000000 }) only [go_sem, ↓reduceIte, Int.reduceToNat, Nat.reduceMul, Int.reduceBEq, Int.reduceBNe, Nat.reduceBEq, Nat.reduceAdd, Nat.reduceSub, Nat.reduceLeDiff, Nat.reduceEqDiff, Nat.reduceLT, reduceCtorEq, e0, e5, e1]
      (repeat (refine And.intro (by first | omega | (refine ⟨by omega, by omega⟩) | (refine ⟨by omega, by omega, by omega⟩) | (simp only [List.length_map, List.length_range, List.length_append, List.length_cons, List.length_nil, List.length_replicate, List.length_set]; omega) | (simp; omega) | (intro hgd; cases hgd) | (intro hgd; refine ⟨hgd, ?_⟩; first | omega | (refine ⟨by omega, by omega⟩) | (simp; omega))) ?_))
      refine AWpL.guardT rfl (AWpL.weak (weak_opt 45 rfl) (AWpL.weak (weak_opt 44 rfl) (AWpL.weak (weak_opt 40 rfl) ?_)))
      refine AWpL.callv rfl (by kernel_rfl) (s19 (l.getD i default) x) (by rw [hn]; rfl) fun rg v hv => ?_
      obtain ⟨rfl, rfl⟩ := hv
      rw [retS_nil]
      refine AWpL.ofM hn rfl ?_
      simp (config := { maxSteps := 2000000 }) only [go_sem, ↓reduceIte, Int.reduceToNat, Nat.reduceMul, Int.reduceBEq, Int.reduceBNe, Nat.reduceBEq, Nat.reduceAdd, Nat.reduceSub, Nat.reduceLeDiff, Nat.reduceEqDiff, Nat.reduceLT, reduceCtorEq, hlb, hfd]
    · have e5 : decide ((i : Int) < (l.length : Int)) = false := decide_eq_false (by omega)
      rw [decide_eq_false (by omega), Bool.false_and] at hfd
      simp (config := { maxSteps := 2000000 }) only [go_sem, ↓reduceIte, Int.reduceToNat, Nat.reduceMul, Int.reduceBEq, Int.reduceBNe, Nat.reduceBEq, Nat.reduceAdd, Nat.reduceSub, Nat.reduceLeDiff, Nat.reduceEqDiff, Nat.reduceLT, reduceCtorEq, e0, e5]
      refine AWpL.guardF (by rw [hn]; rfl) rfl (AWpL.guardF (by rw [hn]; rfl) rfl (AWpL.weak (weak_ent 47 (y := .opt false (B false)) rfl Ent.off) (AWpL.ofM hn rfl ?_)))
      simp (config := { maxSteps := 2000000 }) only [go_sem, ↓reduceIte, Int.reduceToNat, Nat.reduceMul, Int.reduceBEq, Int.reduceBNe, Nat.reduceBEq, Nat.reduceAdd, Nat.reduceSub, Nat.reduceLeDiff, Nat.reduceEqDiff, Nat.reduceLT, reduceCtorEq, hlb, hfd]
end Go.Proofs.Ytfbddidlipeegaa
