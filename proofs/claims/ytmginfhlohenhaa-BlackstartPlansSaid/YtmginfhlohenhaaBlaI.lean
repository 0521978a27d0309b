/- Black starts: the fixed example. -/
import Derived.Test.YtmginfhlohenhaaAwZk
import Derived.Test.YtmginfhlohenhaaBlaH
set_option linter.unusedVariables false
set_option linter.unusedSimpArgs false
namespace Go.Proofs.Ytmginfhlohenhaa
open Go.Proofs.Ytmginfhlohenhaa.Aw
attribute [local go_sem] Int.natCast_zero Int.natCast_one bne_self_eq_false beq_self_eq_true Bool.not_true Bool.not_false Option.isSome_none Option.isSome_some Aw.bkM_nil Option.getD_some Option.getD_none Nat.sub_zero Int.toNat_zero Aw.frzS Aw.frzT Aw.frzA Aw.frzL Aw.frzR Aw.frzO Aw.frzOL Aw.frzOT Aw.frzOR Aw.killS Aw.mapT Aw.mapR Aw.killM Aw.resAVs Aw.resAV Aw.quietOps Aw.wpP Aw.wpT Aw.wpS Aw.AOp.mild List.getElem?_cons_zero List.getElem?_cons_succ Bool.and_false Bool.and_self Bool.false_and Aw.opOb Aw.gdB Aw.Rnd Aw.subTm List.length_map Int.toNat_natCast and_self Aw.SeqC Aw.stops Aw.Ends Aw.looks Aw.renA Aw.renL Aw.renT Aw.renS Aw.wpO Aw.aop Aw.putTm Aw.St.ev Aw.St.put Aw.St.putO Aw.binAV Aw.intBin Aw.strBin Aw.pickAV Aw.optInt Aw.AV.strip Aw.AV.guard Aw.AV.cells Aw.gdOb Aw.AOp.opds Aw.AOp.still Aw.ptrCells Aw.St.reg Aw.fillAV Aw.fillOb Aw.elsOb Aw.splice Aw.firm Aw.cellish Aw.AV.shut Aw.shutAll Aw.Seq Aw.Blk Aw.retS_nil Aw.mapA Aw.mapL Aw.borA Aw.borOb Aw.allOb Aw.tupOf Aw.params Aw.Opd.of Array.toList Value.cells List.map_cons List.map_nil List.getD_cons_zero List.getD_cons_succ List.getD_nil List.length_cons List.length_nil List.take_succ_cons List.take_zero List.take_nil List.drop_zero List.drop_succ_cons List.drop_nil List.set_cons_zero List.set_cons_succ List.append_nil List.nil_append List.cons_append List.all_cons List.all_nil cond_false cond_true if_true if_false true_and and_true Bool.and_true Bool.true_and Option.map_some Option.map_none false_implies forall_const implies_true forall_eq imp_self Bool.cond_false_right Bool.cond_true_left beq_true beq_false Bool.not_eq_true' Bool.false_eq_true Nat.zero_add Nat.add_zero Aw.eqCells Aw.stopDraw Aw.skipS Aw.exactCap Aw.revealS Aw.srcEls Aw.srcSz
attribute [local go_sem ↓] Aw.look_nil Aw.look_ite Aw.wpL_nil Aw.wpL_op Aw.wpL_gd Aw.wpQ_nil Aw.wpQ_op Aw.wpQ_gd Aw.wpC_draw Aw.wpC_reg Aw.wpC_skip Aw.wpC_ret Aw.wpC_exit Aw.wpC_seq Aw.wpC_block Aw.wpC_loop Aw.wpC_cond Aw.stopAt_nil Aw.stopAt_cons Aw.wpD_skip Aw.wpD_ret Aw.wpD_exit Aw.wpD_region Aw.wpD_draw Aw.wpM_nil Aw.wpM_op Aw.wpM_gd Aw.wpD_seq Aw.wpD_block Aw.wpD_loop Aw.wpD_cond
/- slices.Equal[[]string,string] -/
def a27 : ACode :=
  (.seq (.region false [] [
     ⟨(some 4), none, (.mov (.v (.bool false)))⟩])
  (.seq (.seq (.region false [] [
     ⟨(some 6), none, (.mov (.t 0))⟩,
     ⟨(some 7), none, (.len (.t 6))⟩,
     ⟨(some 8), none, (.mov (.t 1))⟩,
     ⟨(some 9), none, (.len (.t 8))⟩,
     ⟨(some 10), none, (.bin .neq 3 (.t 7) (.t 9))⟩])
  (.cond (.t 10)
    (.seq (.region false [] [
       ⟨(some 4), none, (.mov (.v (.bool false)))⟩])
    .ret)
    .skip))
  (.seq (.seq (.region false [] [
     ⟨(some 11), none, (.mov (.t 0))⟩,
     ⟨(some 12), none, (.len (.t 11))⟩,
     ⟨(some 13), none, (.mov (.v (.int .i64 0)))⟩])
  (.block 0 (.loop (.seq (.region false [] [
       ⟨(some 14), none, (.bin .lss 3 (.t 13) (.t 12))⟩])
    (.seq (.cond (.t 14)
      .skip
      (.exit 0))
    (.seq (.block 1 (.seq (.region false [] [
        ⟨(some 15), none, (.mov (.t 13))⟩,
        ⟨(some 5), none, (.mov (.t 15))⟩])
     (.seq (.region true [[], [], [0, 1], [2], [], [], [4, 5], [6], [3, 7]] [
        ⟨(some 16), none, (.mov (.t 0))⟩,
        ⟨(some 17), none, (.mov (.t 5))⟩,
        ⟨(some 18), none, (.idx 1 (.t 16) (.t 17))⟩,
        ⟨(some 19), none, (.load 1 false (.t 18))⟩,
        ⟨(some 20), none, (.mov (.t 1))⟩,
        ⟨(some 21), none, (.mov (.t 5))⟩,
        ⟨(some 22), none, (.idx 1 (.t 20) (.t 21))⟩,
        ⟨(some 23), none, (.load 1 false (.t 22))⟩,
        ⟨(some 24), none, (.bin .neq 9 (.t 19) (.t 23))⟩])
     (.cond (.t 24)
       (.seq (.region false [] [
          ⟨(some 4), none, (.mov (.v (.bool false)))⟩])
       .ret)
       .skip))))
    (.region false [] [
       ⟨(some 25), none, (.bin .add 3 (.t 13) (.v (.int .i64 1)))⟩,
       ⟨(some 13), none, (.mov (.t 25))⟩])))))))
  (.seq (.region false [] [
     ⟨(some 4), none, (.mov (.v (.bool true)))⟩])
  .ret))))
theorem k27 : FnIs Try.prog 27 26 [.t 4] a27 := ⟨_, _, Try.func27, rfl, by kernel_rfl, by kernel_rfl, rfl⟩
/- gridhall/gridhallkeep4.blackstartFact -/
def a7 : ACode :=
  (.seq (.region false [] [
     ⟨(some 0), none, (.mov (.v (.bool false)))⟩])
  (.seq (.region false [] [
     ⟨(some 4), none, (.bsl 9 1 2 [(0, (.v (.string ⟨#[65]⟩))), (1, (.v (.string ⟨#[66]⟩)))])⟩,
     ⟨(some 5), none, (.build (.agg #[(.string ⟨#[]⟩), (.string ⟨#[]⟩), (.string ⟨#[]⟩), (.bool false), (.bool false)]) [(0, (1, (.v (.string ⟨#[83]⟩)))), (1, (1, (.v (.string ⟨#[65]⟩)))), (2, (1, (.v (.string ⟨#[66]⟩)))), (4, (1, (.v (.bool true))))])⟩,
     ⟨(some 6), none, (.bsl 66 5 1 [(0, (.t 5))])⟩,
     ⟨(some 7), none, (.build (.agg #[(.string ⟨#[]⟩), (.string ⟨#[]⟩), (.int .i64 0), (.int .i64 0), (.int .i64 0)]) [(0, (1, (.v (.string ⟨#[71]⟩)))), (1, (1, (.v (.string ⟨#[65]⟩))))])⟩,
     ⟨(some 8), none, (.build (.agg #[(.string ⟨#[]⟩), (.string ⟨#[]⟩), (.int .i64 0), (.int .i64 0), (.int .i64 0)]) [(0, (1, (.v (.string ⟨#[72]⟩)))), (1, (1, (.v (.string ⟨#[66]⟩))))])⟩,
     ⟨(some 9), none, (.bsl 55 5 2 [(0, (.t 7)), (1, (.t 8))])⟩,
     ⟨(some 10), none, (.build (.agg #[(.slice none 0 0), (.slice none 0 0), (.slice none 0 0), (.slice none 0 0), (.slice none 0 0), (.slice none 0 0)]) [(0, (1, (.t 4))), (1, (1, (.t 6))), (3, (1, (.t 9)))])⟩,
     ⟨(some 1), none, (.alloc 29 (.agg #[(.slice none 0 0), (.slice none 0 0), (.slice none 0 0), (.slice none 0 0), (.slice none 0 0), (.slice none 0 0)]))⟩,
     ⟨none, none, (.store 6 (.t 1) (.t 10))⟩])
  (.seq (.region false [] [
     ⟨(some 12), none, (.load 6 true (.t 1))⟩,
     ⟨(some 13), none, (.bsl 9 1 1 [(0, (.v (.string ⟨#[71]⟩)))])⟩,
     ⟨(some 14), none, (.call 16 [(.t 12), (.t 13)])⟩,
     ⟨(some 11), none, (.mov (.t 14))⟩,
     ⟨(some 15), none, (.ext 0 (.t 11))⟩,
     ⟨(some 16), none, (.ext 1 (.t 11))⟩,
     ⟨(some 2), none, (.mov (.t 15))⟩,
     ⟨(some 3), none, (.mov (.t 16))⟩])
  (.seq (.region false [] [
     ⟨(some 17), none, (.mov (.t 3))⟩,
     ⟨(some 18), none, (.bin .eql 30 (.t 17) (.v (.int .i64 0)))⟩,
     ⟨(some 19), none, (.mov (.t 18))⟩,
     ⟨(some 20), (some (19, true)), (.mov (.t 2))⟩,
     ⟨(some 21), (some (19, true)), (.len (.t 20))⟩,
     ⟨(some 22), (some (19, true)), (.bin .eql 3 (.t 21) (.v (.int .i64 1)))⟩,
     ⟨(some 23), none, (.pick (.t 19) (.t 22) (.v (.bool false)))⟩,
     ⟨(some 24), none, (.mov (.t 23))⟩,
     ⟨(some 25), (some (24, true)), (.mov (.t 2))⟩,
     ⟨(some 26), (some (24, true)), (.idx 2 (.t 25) (.v (.int .i64 0)))⟩,
     ⟨(some 27), (some (24, true)), (.fld 0 (.t 26))⟩,
     ⟨(some 28), (some (24, true)), (.load 1 false (.t 27))⟩,
     ⟨(some 29), (some (24, true)), (.bin .eql 9 (.t 28) (.v (.string ⟨#[72]⟩)))⟩,
     ⟨(some 30), none, (.pick (.t 24) (.t 29) (.v (.bool false)))⟩,
     ⟨(some 31), none, (.mov (.t 30))⟩,
     ⟨(some 32), (some (31, true)), (.mov (.t 2))⟩,
     ⟨(some 33), (some (31, true)), (.idx 2 (.t 32) (.v (.int .i64 0)))⟩,
     ⟨(some 34), (some (31, true)), (.fld 1 (.t 33))⟩,
     ⟨(some 35), (some (31, true)), (.load 1 false (.t 34))⟩,
     ⟨(some 36), (some (31, true)), (.bsl 9 1 1 [(0, (.v (.string ⟨#[83]⟩)))])⟩,
     ⟨(some 37), (some (31, true)), (.call 27 [(.t 35), (.t 36)])⟩,
     ⟨(some 38), none, (.pick (.t 31) (.t 37) (.v (.bool false)))⟩,
     ⟨(some 0), none, (.mov (.t 38))⟩])
  .ret))))
theorem k7 : FnIs Try.prog 7 39 [.t 0] a7 := ⟨_, _, Try.func7, rfl, by kernel_rfl, by kernel_rfl, rfl⟩

/-- Lists compared element by element. -/
def eqs {α : Type} (e : α → α → Bool) : List α → List α → Bool
  | [], [] => true
  | x :: l, y :: m => e x y && eqs e l m
  | _, _ => false
theorem eqs_iff {α : Type} {e : α → α → Bool} (he : ∀ x y, e x y = true ↔ x = y) : ∀ l m : List α, eqs e l m = true ↔ l = m
  | [], [] => by simp [eqs]
  | [], _ :: _ => by simp [eqs]
  | _ :: _, [] => by simp [eqs]
  | x :: l, y :: m => by simp [eqs, he, eqs_iff he l m]
theorem eqs_len {α : Type} {e : α → α → Bool} : ∀ {l m : List α}, l.length ≠ m.length → eqs e l m = false
  | [], [], h => absurd rfl h
  | [], _ :: _, _ => rfl
  | _ :: _, [], _ => rfl
  | x :: l, y :: m, h => by unfold eqs; rw [eqs_len (by simpa using h), Bool.and_false]
theorem eqs_drop {α : Type} {e : α → α → Bool} {l m : List α} {i : Nat} (h : i < l.length) (h' : i < m.length) : eqs e (l.drop i) (m.drop i) = (e l[i] m[i] && eqs e (l.drop (i + 1)) (m.drop (i + 1))) := by
  rw [List.drop_eq_getElem_cons h, List.drop_eq_getElem_cons h']; rfl
theorem s27 (nl fl) (l : List ByteArray) (nm fm) (m : List ByteArray) (hl : l.length ≤ 9223372036854775807) (hm : m.length ≤ 9223372036854775807) : Aw.Spec Try.prog 27 [] [ss nl fl l, ss nm fm m] (Gives (· = B (eqs seq l m))) := by
  refine Aw.Spec.givesD k27 mixed rfl rfl rfl fun E hn hnp hp => ?_
  unfold a27
  simp (config := { maxSteps := 2000000 }) only [go_sem, ↓reduceIte, Int.reduceToNat, Nat.reduceMul, Int.reduceBEq, Int.reduceBNe, Nat.reduceBEq, Nat.reduceAdd, Nat.reduceSub, Nat.reduceLeDiff, Nat.reduceEqDiff, Nat.reduceLT, reduceCtorEq]
  simp only [bne_iff_ne, ne_eq, bne_eq_false_iff_eq]
  refine ⟨fun h => ?_, fun h => ?_⟩
  · rw [eqs_len (by omega)]
  refine AWp.loop (fun k s => ∃ i : Nat, i + k = l.length ∧ eqs seq l m = eqs seq (l.drop i) (m.drop i) ∧ Weak E s ⟨[(0, ss nl fl l), (1, ss nm fm m), (12, I l.length), (13, I i)], []⟩) (n := l.length)
    ⟨0, by omega, rfl, weak_to [] hp hnp rfl (by simp (config := { maxSteps := 2000000 }) only [go_sem, ↓reduceIte, Int.reduceToNat, Nat.reduceMul, Int.reduceBEq, Int.reduceBNe, Nat.reduceBEq, Nat.reduceAdd, Nat.reduceSub, Nat.reduceLeDiff, Nat.reduceEqDiff, Nat.reduceLT, reduceCtorEq, Int.natCast_zero]) rfl⟩ ?_
  rintro k s ⟨i, hi, hs, hw⟩
  refine AWp.weak hw (AWp.ofD [] [] hn mixed rfl ?_)
  rcases Nat.lt_or_ge i l.length with hlt | hge
  · have hlm : i < m.length := by omega
    have e0 : decide ((i : Int) < (l.length : Int)) = true := by simp; omega
    have e1 := getD_map sc hlt
    have e3 := getD_map sc hlm
    have e2 : IntKind.i64.wrap ((i : Int) + 1) = ((i + 1 : Nat) : Int) := by rw [w64 (by omega) (by omega)]; omega
    simp (config := { maxSteps := 2000000 }) only [go_sem, ↓reduceIte, Int.reduceToNat, Nat.reduceMul, Int.reduceBEq, Int.reduceBNe, Nat.reduceBEq, Nat.reduceAdd, Nat.reduceSub, Nat.reduceLeDiff, Nat.reduceEqDiff, Nat.reduceLT, reduceCtorEq, e0, e1, e2, e3]
    (repeat (refine And.intro (by first | omega | (refine ⟨by omega, by omega⟩) | (refine ⟨by omega, by omega, by omega⟩) | (simp only [List.length_map, List.length_range, List.length_append, List.length_cons, List.length_nil, List.length_replicate, List.length_set]; omega) | (simp; omega) | (intro hgd; cases hgd) | (intro hgd; refine ⟨hgd, ?_⟩; first | omega | (refine ⟨by omega, by omega⟩) | (simp; omega))) ?_))
    rw [eqs_drop hlt hlm] at hs
    have hq : (l[i].toList == m[i].toList) = seq l[i] m[i] := rfl
    rw [hq]
    refine ⟨fun h => ?_, fun h => ?_⟩
    · rw [hs, show seq l[i] m[i] = false by simpa using h]; rfl
    · have h' : seq l[i] m[i] = true := by simpa using h
      rw [h', Bool.true_and] at hs
      exact ⟨k - 1, by omega, i + 1, by omega, hs, weak_to [] hp hnp rfl (by simp (config := { maxSteps := 2000000 }) only [go_sem, ↓reduceIte, Int.reduceToNat, Nat.reduceMul, Int.reduceBEq, Int.reduceBNe, Nat.reduceBEq, Nat.reduceAdd, Nat.reduceSub, Nat.reduceLeDiff, Nat.reduceEqDiff, Nat.reduceLT, reduceCtorEq]) rfl⟩
  · have e0 : decide ((i : Int) < (l.length : Int)) = false := by simp; omega
    simp (config := { maxSteps := 2000000 }) only [go_sem, ↓reduceIte, Int.reduceToNat, Nat.reduceMul, Int.reduceBEq, Int.reduceBNe, Nat.reduceBEq, Nat.reduceAdd, Nat.reduceSub, Nat.reduceLeDiff, Nat.reduceEqDiff, Nat.reduceLT, reduceCtorEq, e0]
    rw [hs, List.drop_of_length_le hge, List.drop_of_length_le (by omega)]
    rfl
def netS : Net := ⟨⟨none, true, [⟨#[65]⟩, ⟨#[66]⟩]⟩, ⟨none, true, [⟨⟨#[83]⟩, ⟨#[65]⟩, ⟨#[66]⟩, false, true⟩]⟩, ⟨none, false, []⟩, ⟨none, true, [⟨⟨#[71]⟩, ⟨#[65]⟩, 0, 0, 0⟩, ⟨⟨#[72]⟩, ⟨#[66]⟩, 0, 0, 0⟩]⟩, ⟨none, false, []⟩, ⟨none, false, []⟩⟩
theorem netS_ok : NetOk netS := by
  have key : ∀ (l : List ByteArray) (m : Nat), (∀ x ∈ l, x.size ≤ m) → m ≤ 9223372036854775807 → ∀ x ∈ l, x.size ≤ 9223372036854775807 := fun l m h hm x hx => Nat.le_trans (h x hx) hm
  refine ⟨?_, by decide, ?_, ?_, ?_, ?_, ?_⟩
  all_goals
    intro x hx
    simp only [netS, List.mem_cons, List.not_mem_nil, or_false] at hx
  · rcases hx with rfl | rfl <;> decide
  · subst hx; decide
  · rcases hx with rfl | rfl <;> decide
theorem netS_p : planS netS [⟨#[71]⟩] = [(⟨#[72]⟩, [⟨#[83]⟩])] := by decide +kernel
theorem netS_e : planE netS [⟨#[71]⟩] = 0 := by decide +kernel
set_option maxRecDepth 20000 in
set_option maxHeartbeats 4000000 in
theorem s7 : Aw.Spec Try.prog 7 [] [] (Gives (· = B true)) := by
  refine Aw.Spec.givesW k7 rfl rfl fun E hn hnp hp => ?_
  unfold a7
  have pin : ∀ r, E.pin r = none := fun r => hp.none hnp (Nat.zero_le _)
  refine AWp.ofD [] [] hn mixed rfl ?_
  simp (config := { maxSteps := 2000000 }) only [go_sem, ↓reduceIte, Int.reduceToNat, Nat.reduceMul, Int.reduceBEq, Int.reduceBNe, Nat.reduceBEq, Nat.reduceAdd, Nat.reduceSub, Nat.reduceLeDiff, Nat.reduceEqDiff, Nat.reduceLT, reduceCtorEq]
  refine AWpL.weak (weak_freeze 0 rfl (pin 0) (by simp (config := { maxSteps := 2000000 }) only [go_sem, ↓reduceIte, Int.reduceToNat, Nat.reduceMul, Int.reduceBEq, Int.reduceBNe, Nat.reduceBEq, Nat.reduceAdd, Nat.reduceSub, Nat.reduceLeDiff, Nat.reduceEqDiff, Nat.reduceLT, reduceCtorEq, Nat.le_refl])) ?_
  simp (config := { maxSteps := 2000000 }) only [go_sem, ↓reduceIte, Int.reduceToNat, Nat.reduceMul, Int.reduceBEq, Int.reduceBNe, Nat.reduceBEq, Nat.reduceAdd, Nat.reduceSub, Nat.reduceLeDiff, Nat.reduceEqDiff, Nat.reduceLT, reduceCtorEq]
  refine AWpL.weak (weak_freeze 1 rfl (pin 1) (by simp (config := { maxSteps := 2000000 }) only [go_sem, ↓reduceIte, Int.reduceToNat, Nat.reduceMul, Int.reduceBEq, Int.reduceBNe, Nat.reduceBEq, Nat.reduceAdd, Nat.reduceSub, Nat.reduceLeDiff, Nat.reduceEqDiff, Nat.reduceLT, reduceCtorEq, Nat.le_refl])) ?_
  simp (config := { maxSteps := 2000000 }) only [go_sem, ↓reduceIte, Int.reduceToNat, Nat.reduceMul, Int.reduceBEq, Int.reduceBNe, Nat.reduceBEq, Nat.reduceAdd, Nat.reduceSub, Nat.reduceLeDiff, Nat.reduceEqDiff, Nat.reduceLT, reduceCtorEq]
  refine AWpL.weak (weak_freeze 2 rfl (pin 2) (by simp (config := { maxSteps := 2000000 }) only [go_sem, ↓reduceIte, Int.reduceToNat, Nat.reduceMul, Int.reduceBEq, Int.reduceBNe, Nat.reduceBEq, Nat.reduceAdd, Nat.reduceSub, Nat.reduceLeDiff, Nat.reduceEqDiff, Nat.reduceLT, reduceCtorEq, Nat.le_refl])) ?_
  simp (config := { maxSteps := 2000000 }) only [go_sem, ↓reduceIte, Int.reduceToNat, Nat.reduceMul, Int.reduceBEq, Int.reduceBNe, Nat.reduceBEq, Nat.reduceAdd, Nat.reduceSub, Nat.reduceLeDiff, Nat.reduceEqDiff, Nat.reduceLT, reduceCtorEq]
  refine AWpL.weak (weak_freeze 4 rfl (pin 4) (by simp (config := { maxSteps := 2000000 }) only [go_sem, ↓reduceIte, Int.reduceToNat, Nat.reduceMul, Int.reduceBEq, Int.reduceBNe, Nat.reduceBEq, Nat.reduceAdd, Nat.reduceSub, Nat.reduceLeDiff, Nat.reduceEqDiff, Nat.reduceLT, reduceCtorEq, Nat.le_refl])) ?_
  simp (config := { maxSteps := 2000000 }) only [go_sem, ↓reduceIte, Int.reduceToNat, Nat.reduceMul, Int.reduceBEq, Int.reduceBNe, Nat.reduceBEq, Nat.reduceAdd, Nat.reduceSub, Nat.reduceLeDiff, Nat.reduceEqDiff, Nat.reduceLT, reduceCtorEq]
  refine AWpL.callA [] ((s16 netS netS_ok none true [⟨#[71]⟩] (by decide)).args (args' := [.agg [netS.nodes.av 1 sc, netS.sws.av 5 swc, .val (.slice none 0 0), netS.gens.av 5 gec, .val (.slice none 0 0), .val (.slice none 0 0)], ss none true [⟨#[71]⟩]]) ⟨Ent.agg ⟨Ent.refl _, Ent.refl _, Ent.ofnil0 9, Ent.refl _, Ent.ofnil0 3, Ent.ofnil0 5, trivial⟩, Ent.refl _, trivial⟩) rfl rfl (by rw [hn]; rfl) rfl (fun r hr => by cases hr) fun rg v hv => ?_
  obtain ⟨rfl, rfl⟩ := hv
  refine ⟨Nat.zero_le _, ?_⟩
  rw [retS_new, netS_p, netS_e]
  refine AWpL.ofM hn rfl ?_
  simp (config := { maxSteps := 2000000 }) only [go_sem, ↓reduceIte, Int.reduceToNat, Nat.reduceMul, Int.reduceBEq, Int.reduceBNe, Nat.reduceBEq, Nat.reduceAdd, Nat.reduceSub, Nat.reduceLeDiff, Nat.reduceEqDiff, Nat.reduceLT, reduceCtorEq]
  refine ⟨by omega, by omega, ?_⟩
  (refine AWpL.gcalle (b := true) rfl (fun _ => (s27 none false [⟨#[83]⟩] none false [⟨#[83]⟩] (by decide) (by decide))) rfl (by rw [hn]; rfl) (fun _ => by simp (config := { maxSteps := 2000000 }) only [go_sem, ↓reduceIte, Int.reduceToNat, Nat.reduceMul, Int.reduceBEq, Int.reduceBNe, Nat.reduceBEq, Nat.reduceAdd, Nat.reduceSub, Nat.reduceLeDiff, Nat.reduceEqDiff, Nat.reduceLT, reduceCtorEq]) (AWpL.ofM hn rfl ?_); simp (config := { maxSteps := 2000000 }) only [go_sem, ↓reduceIte, Int.reduceToNat, Nat.reduceMul, Int.reduceBEq, Int.reduceBNe, Nat.reduceBEq, Nat.reduceAdd, Nat.reduceSub, Nat.reduceLeDiff, Nat.reduceEqDiff, Nat.reduceLT, reduceCtorEq])
  rw [(eqs_iff (fun x y => seqq) _ _).2 rfl]
end Go.Proofs.Ytmginfhlohenhaa
