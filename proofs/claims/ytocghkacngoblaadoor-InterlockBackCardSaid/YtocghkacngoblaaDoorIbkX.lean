/- Interlocks: rules compared. -/
import Derived.Test.YtocghkacngoblaaDoorAwZl
import Derived.Test.YtocghkacngoblaaDoorIbkW
import Derived.Test.YtocghkacngoblaaDoorIntF
set_option linter.unusedVariables false
set_option linter.unusedSimpArgs false
namespace Go.Proofs.YtocghkacngoblaaDoor
open Go.Proofs.YtocghkacngoblaaDoor.Aw
attribute [local go_sem] Int.natCast_zero Int.natCast_one bne_self_eq_false beq_self_eq_true Bool.not_true Bool.not_false Option.isSome_none Option.isSome_some Aw.bkM_nil Option.getD_some Option.getD_none Nat.sub_zero Int.toNat_zero Aw.frzS Aw.frzT Aw.frzA Aw.frzL Aw.frzR Aw.frzO Aw.frzOL Aw.frzOT Aw.frzOR Aw.killS Aw.mapT Aw.mapR Aw.killM Aw.resAVs Aw.resAV Aw.quietOps Aw.wpP Aw.wpT Aw.wpS Aw.AOp.mild List.getElem?_cons_zero List.getElem?_cons_succ Bool.and_false Bool.and_self Bool.false_and Aw.opOb Aw.gdB Aw.Rnd Aw.subTm List.length_map Int.toNat_natCast and_self Aw.SeqC Aw.stops Aw.Ends Aw.looks Aw.renA Aw.renL Aw.renT Aw.renS Aw.wpO Aw.aop Aw.putTm Aw.St.ev Aw.St.put Aw.St.putO Aw.binAV Aw.intBin Aw.strBin Aw.pickAV Aw.optInt Aw.AV.strip Aw.AV.guard Aw.AV.cells Aw.gdOb Aw.AOp.opds Aw.AOp.still Aw.ptrCells Aw.St.reg Aw.fillAV Aw.fillOb Aw.elsOb Aw.splice Aw.firm Aw.cellish Aw.AV.shut Aw.shutAll Aw.Seq Aw.Blk Aw.retS_nil Aw.mapA Aw.mapL Aw.borA Aw.borOb Aw.allOb Aw.tupOf Aw.params Aw.Opd.of Array.toList Value.cells List.map_cons List.map_nil List.getD_cons_zero List.getD_cons_succ List.getD_nil List.length_cons List.length_nil List.take_succ_cons List.take_zero List.take_nil List.drop_zero List.drop_succ_cons List.drop_nil List.set_cons_zero List.set_cons_succ List.append_nil List.nil_append List.cons_append List.all_cons List.all_nil cond_false cond_true if_true if_false true_and and_true Bool.and_true Bool.true_and Option.map_some Option.map_none false_implies forall_const implies_true forall_eq imp_self Bool.cond_false_right Bool.cond_true_left beq_true beq_false Bool.not_eq_true' Bool.false_eq_true Nat.zero_add Nat.add_zero Aw.eqCells Aw.stopDraw Aw.skipS Aw.exactCap Aw.revealS Aw.srcEls Aw.srcSz
attribute [local go_sem ↓] Aw.look_nil Aw.look_ite Aw.wpL_nil Aw.wpL_op Aw.wpL_gd Aw.wpQ_nil Aw.wpQ_op Aw.wpQ_gd Aw.wpC_draw Aw.wpC_reg Aw.wpC_skip Aw.wpC_ret Aw.wpC_exit Aw.wpC_seq Aw.wpC_block Aw.wpC_loop Aw.wpC_cond Aw.stopAt_nil Aw.stopAt_cons Aw.wpD_skip Aw.wpD_ret Aw.wpD_exit Aw.wpD_region Aw.wpD_draw Aw.wpM_nil Aw.wpM_op Aw.wpM_gd Aw.wpD_seq Aw.wpD_block Aw.wpD_loop Aw.wpD_cond
/- slices.Equal[[]gridhall/api.InterlockNode,gridhall/api.InterlockNode] -/
def a33 : ACode :=
  (.seq (.region false [] [
     ⟨(some 4), none, (.mov (.v (.bool false)))⟩])
  (.seq (.seq (.region false [] [
     ⟨(some 6), none, (.mov (.t 0))⟩,
     ⟨(some 7), none, (.len (.t 6))⟩,
     ⟨(some 8), none, (.mov (.t 1))⟩,
     ⟨(some 9), none, (.len (.t 8))⟩,
     ⟨(some 10), none, (.bin .neq 3 (.t 7) (.t 9))⟩])
  (.cond (.t 10)
    (.seq (.region false [] [
       ⟨(some 4), none, (.mov (.v (.bool false)))⟩])
    .ret)
    .skip))
  (.seq (.seq (.region false [] [
     ⟨(some 11), none, (.mov (.t 0))⟩,
     ⟨(some 12), none, (.len (.t 11))⟩,
     ⟨(some 13), none, (.mov (.v (.int .i64 0)))⟩])
  (.block 0 (.loop (.seq (.region false [] [
       ⟨(some 14), none, (.bin .lss 3 (.t 13) (.t 12))⟩])
    (.seq (.cond (.t 14)
      .skip
      (.exit 0))
    (.seq (.block 1 (.seq (.region false [] [
        ⟨(some 15), none, (.mov (.t 13))⟩,
        ⟨(some 5), none, (.mov (.t 15))⟩])
     (.seq (.region true [[], [], [0, 1], [2], [], [], [4, 5], [6], [3, 7]] [
        ⟨(some 16), none, (.mov (.t 0))⟩,
        ⟨(some 17), none, (.mov (.t 5))⟩,
        ⟨(some 18), none, (.idx 4 (.t 16) (.t 17))⟩,
        ⟨(some 19), none, (.load 4 true (.t 18))⟩,
        ⟨(some 20), none, (.mov (.t 1))⟩,
        ⟨(some 21), none, (.mov (.t 5))⟩,
        ⟨(some 22), none, (.idx 4 (.t 20) (.t 21))⟩,
        ⟨(some 23), none, (.load 4 true (.t 22))⟩,
        ⟨(some 24), none, (.aeq true [.i, .s, .i, .i] (.t 19) (.t 23))⟩])
     (.cond (.t 24)
       (.seq (.region false [] [
          ⟨(some 4), none, (.mov (.v (.bool false)))⟩])
       .ret)
       .skip))))
    (.region false [] [
       ⟨(some 25), none, (.bin .add 3 (.t 13) (.v (.int .i64 1)))⟩,
       ⟨(some 13), none, (.mov (.t 25))⟩])))))))
  (.seq (.region false [] [
     ⟨(some 4), none, (.mov (.v (.bool true)))⟩])
  .ret))))
theorem k33 : FnIs Tryd.prog 33 26 [.t 4] a33 := ⟨_, _, Tryd.func33, rfl, by kernel_rfl, by kernel_rfl, rfl⟩
/- gridhall/gridhallkeep4.sameRules$1 -/
def a32 : ACode :=
  (.seq (.region false [] [
     ⟨(some 2), none, (.box 24 (.t 0))⟩,
     ⟨(some 3), none, (.box 24 (.t 1))⟩,
     ⟨(some 4), none, (.mov (.v (.bool false)))⟩])
  (.seq (.region false [] [
     ⟨(some 5), none, (.fld 0 (.t 2))⟩,
     ⟨(some 6), none, (.load 1 false (.t 5))⟩,
     ⟨(some 7), none, (.fld 0 (.t 3))⟩,
     ⟨(some 8), none, (.load 1 false (.t 7))⟩,
     ⟨(some 9), none, (.beq false (.t 6) (.t 8))⟩,
     ⟨(some 10), none, (.mov (.t 9))⟩,
     ⟨(some 11), (some (10, true)), (.fld 1 (.t 2))⟩,
     ⟨(some 12), (some (10, true)), (.load 1 false (.t 11))⟩,
     ⟨(some 13), (some (10, true)), (.fld 1 (.t 3))⟩,
     ⟨(some 14), (some (10, true)), (.load 1 false (.t 13))⟩,
     ⟨(some 15), (some (10, true)), (.bin .eql 9 (.t 12) (.t 14))⟩,
     ⟨(some 16), none, (.pick (.t 10) (.t 15) (.v (.bool false)))⟩,
     ⟨(some 17), none, (.mov (.t 16))⟩,
     ⟨(some 18), (some (17, true)), (.fld 2 (.t 2))⟩,
     ⟨(some 19), (some (17, true)), (.load 1 false (.t 18))⟩,
     ⟨(some 20), (some (17, true)), (.fld 2 (.t 3))⟩,
     ⟨(some 21), (some (17, true)), (.load 1 false (.t 20))⟩,
     ⟨(some 22), (some (17, true)), (.call 33 [(.t 19), (.t 21)])⟩,
     ⟨(some 23), none, (.pick (.t 17) (.t 22) (.v (.bool false)))⟩,
     ⟨(some 4), none, (.mov (.t 23))⟩])
  .ret))
theorem k32 : FnIs Tryd.prog 32 24 [.t 4] a32 := ⟨_, _, Tryd.func32, rfl, by kernel_rfl, by kernel_rfl, rfl⟩
/- slices.EqualFunc[[]gridhall/api.InterlockRule,[]gridhall/api.InterlockRule,gridhall/api.InterlockRule,gridhall/api.InterlockRule] -/
def a31 : ACode :=
  (.seq (.region false [] [
     ⟨(some 6), none, (.mov (.v (.bool false)))⟩])
  (.seq (.seq (.region false [] [
     ⟨(some 10), none, (.mov (.t 0))⟩,
     ⟨(some 11), none, (.len (.t 10))⟩,
     ⟨(some 12), none, (.mov (.t 1))⟩,
     ⟨(some 13), none, (.len (.t 12))⟩,
     ⟨(some 14), none, (.bin .neq 3 (.t 11) (.t 13))⟩])
  (.cond (.t 14)
    (.seq (.region false [] [
       ⟨(some 6), none, (.mov (.v (.bool false)))⟩])
    .ret)
    .skip))
  (.seq (.seq (.region false [] [
     ⟨(some 15), none, (.mov (.t 0))⟩,
     ⟨(some 16), none, (.len (.t 15))⟩,
     ⟨(some 17), none, (.mov (.v (.int .i64 0)))⟩])
  (.block 0 (.loop (.seq (.region false [] [
       ⟨(some 18), none, (.bin .lss 3 (.t 17) (.t 16))⟩])
    (.seq (.cond (.t 18)
      .skip
      (.exit 0))
    (.seq (.block 1 (.seq (.region false [] [
        ⟨(some 19), none, (.mov (.t 17))⟩,
        ⟨(some 20), none, (.idx 3 (.t 15) (.t 17))⟩,
        ⟨(some 21), none, (.load 3 true (.t 20))⟩,
        ⟨(some 8), none, (.alloc 24 (.agg #[(.bool false), (.string ⟨#[]⟩), (.slice none 0 0)]))⟩,
        ⟨(some 7), none, (.mov (.t 19))⟩,
        ⟨none, none, (.store 3 (.t 8) (.t 21))⟩])
     (.seq (.region false [] [
        ⟨(some 22), none, (.mov (.t 1))⟩,
        ⟨(some 23), none, (.mov (.t 7))⟩,
        ⟨(some 24), none, (.idx 3 (.t 22) (.t 23))⟩,
        ⟨(some 25), none, (.load 3 true (.t 24))⟩,
        ⟨(some 9), none, (.alloc 24 (.agg #[(.bool false), (.string ⟨#[]⟩), (.slice none 0 0)]))⟩,
        ⟨none, none, (.store 3 (.t 9) (.t 25))⟩])
     (.seq (.region false [] [
        ⟨(some 26), none, (.mov (.t 2))⟩,
        ⟨(some 27), none, (.load 3 true (.t 8))⟩,
        ⟨(some 28), none, (.load 3 true (.t 9))⟩,
        ⟨(some 29), none, (.callv (.t 26) [(.t 27), (.t 28)])⟩,
        ⟨(some 30), none, (.un .not (.t 29))⟩])
     (.cond (.t 30)
       (.seq (.region false [] [
          ⟨(some 6), none, (.mov (.v (.bool false)))⟩])
       .ret)
       .skip)))))
    (.region false [] [
       ⟨(some 31), none, (.bin .add 3 (.t 17) (.v (.int .i64 1)))⟩,
       ⟨(some 17), none, (.mov (.t 31))⟩])))))))
  (.seq (.region false [] [
     ⟨(some 6), none, (.mov (.v (.bool true)))⟩])
  .ret))))
theorem k31 : FnIs Tryd.prog 31 32 [.t 6] a31 := ⟨_, _, Tryd.func31, rfl, by kernel_rfl, by kernel_rfl, rfl⟩
/- gridhall/gridhallkeep4.sameRules -/
def a17 : ACode :=
  (.seq (.region false [] [
     ⟨(some 4), none, (.mov (.v (.bool false)))⟩])
  (.seq (.region false [] [
     ⟨(some 5), none, (.mov (.t 0))⟩,
     ⟨(some 6), none, (.mov (.t 1))⟩,
     ⟨(some 7), none, (.call 31 [(.t 5), (.t 6), (.v (.func (.func 32) #[] #[]))])⟩,
     ⟨(some 4), none, (.mov (.t 7))⟩])
  .ret))
theorem k17 : FnIs Tryd.prog 17 8 [.t 4] a17 := ⟨_, _, Tryd.func17, rfl, by kernel_rfl, by kernel_rfl, rfl⟩


/-- A list is equal to itself. -/
theorem s33 (nl fl nm' fm) (l : List (Nod)) (hl : l.length ≤ 1000) : Aw.Spec Tryd.prog 33 [] [.imm nl fl 4 (l.map nc), .imm nm' fm 4 (l.map nc)] (Gives (· = B true)) := by
  refine Aw.Spec.givesD k33 mixed rfl rfl rfl fun E hn hnp hp => ?_
  unfold a33
  have e9 : ((l.length : Int) != (l.length : Int)) = false := by simp
  simp (config := { maxSteps := 2000000 }) only [go_sem, ↓reduceIte, Int.reduceToNat, Nat.reduceMul, Int.reduceBEq, Int.reduceBNe, Nat.reduceBEq, Nat.reduceAdd, Nat.reduceSub, Nat.reduceLeDiff, Nat.reduceEqDiff, Nat.reduceLT, reduceCtorEq, e9]
  refine AWp.loop (fun k s => ∃ i : Nat, i + k = l.length ∧ Weak E s ⟨[(0, .imm nl fl 4 (l.map nc)), (1, .imm nm' fm 4 (l.map nc)), (12, I l.length), (13, I i)], []⟩) (n := l.length)
    ⟨0, by omega, weak_to [] hp hnp rfl (by simp (config := { maxSteps := 2000000 }) only [go_sem, ↓reduceIte, Int.reduceToNat, Nat.reduceMul, Int.reduceBEq, Int.reduceBNe, Nat.reduceBEq, Nat.reduceAdd, Nat.reduceSub, Nat.reduceLeDiff, Nat.reduceEqDiff, Nat.reduceLT, reduceCtorEq, Int.natCast_zero]) rfl⟩ ?_
  rintro k s ⟨i, hi, hw⟩
  refine AWp.weak hw (AWp.ofD [] [] hn mixed rfl ?_)
  rcases Nat.lt_or_ge i l.length with hlt | hge
  · have e0 : decide ((i : Int) < (l.length : Int)) = true := by simp; omega
    have e1 := getD_map nc hlt
    have e2 : IntKind.i64.wrap ((i : Int) + 1) = ((i + 1 : Nat) : Int) := by rw [w64 (by omega) (by omega)]; omega
    simp (config := { maxSteps := 2000000 }) only [go_sem, ↓reduceIte, Int.reduceToNat, Nat.reduceMul, Int.reduceBEq, Int.reduceBNe, Nat.reduceBEq, Nat.reduceAdd, Nat.reduceSub, Nat.reduceLeDiff, Nat.reduceEqDiff, Nat.reduceLT, reduceCtorEq, e0, e1, e2]
    (repeat (refine And.intro (by first | omega | (refine ⟨by omega, by omega⟩) | (refine ⟨by omega, by omega, by omega⟩) | (simp only [List.length_map, List.length_range, List.length_append, List.length_cons, List.length_nil, List.length_replicate, List.length_set]; omega) | (simp; omega) | (intro hgd; cases hgd) | (intro hgd; refine ⟨hgd, ?_⟩; first | omega | (refine ⟨by omega, by omega⟩) | (simp; omega))) ?_))
    exact ⟨k - 1, by omega, i + 1, by omega, weak_to [] hp hnp rfl (by simp (config := { maxSteps := 2000000 }) only [go_sem, ↓reduceIte, Int.reduceToNat, Nat.reduceMul, Int.reduceBEq, Int.reduceBNe, Nat.reduceBEq, Nat.reduceAdd, Nat.reduceSub, Nat.reduceLeDiff, Nat.reduceEqDiff, Nat.reduceLT, reduceCtorEq]) rfl⟩
  · have e0 : decide ((i : Int) < (l.length : Int)) = false := by simp; omega
    simp (config := { maxSteps := 2000000 }) only [go_sem, ↓reduceIte, Int.reduceToNat, Nat.reduceMul, Int.reduceBEq, Int.reduceBNe, Nat.reduceBEq, Nat.reduceAdd, Nat.reduceSub, Nat.reduceLeDiff, Nat.reduceEqDiff, Nat.reduceLT, reduceCtorEq, e0]

theorem entOfunc (f : FuncId) : Ent (.val (.func (.func f) #[] #[])) (.fn f []) := fun w ok ρ v h => by
  unfold R at *
  exact ⟨#[], h, by unfold RList; rfl⟩
theorem s32 (c : Bool) (sw : ByteArray) (n n' : Option Bool) (f f' : Bool) (cond : List Nod) (hl : cond.length ≤ 1000) : Aw.Spec Tryd.prog 32 [] [.agg (rlc ⟨c, sw, n, f, cond⟩), .agg (rlc ⟨c, sw, n', f', cond⟩)] (Gives (· = B true)) := by
  refine Aw.Spec.givesD k32 mixed rfl rfl rfl fun E hn hnp hp => ?_
  unfold a32
  have e1 := eq_word sw
  have e2 : (c == c) = true := beq_self_eq_true c
  simp (config := { maxSteps := 2000000 }) only [go_sem, ↓reduceIte, Int.reduceToNat, Nat.reduceMul, Int.reduceBEq, Int.reduceBNe, Nat.reduceBEq, Nat.reduceAdd, Nat.reduceSub, Nat.reduceLeDiff, Nat.reduceEqDiff, Nat.reduceLT, reduceCtorEq, e1, e2]
  (repeat (refine And.intro (by first | omega | (refine ⟨by omega, by omega⟩) | (refine ⟨by omega, by omega, by omega⟩) | (simp only [List.length_map, List.length_range, List.length_append, List.length_cons, List.length_nil, List.length_replicate, List.length_set]; omega) | (simp; omega) | (intro hgd; cases hgd) | (intro hgd; refine ⟨hgd, ?_⟩; first | omega | (refine ⟨by omega, by omega⟩) | (simp; omega))) ?_))
  (refine AWpL.gcalle (b := true) rfl (fun _ => (s33 n f n' f' cond hl)) rfl (by rw [hn]; rfl) (fun _ => by simp (config := { maxSteps := 2000000 }) only [go_sem, ↓reduceIte, Int.reduceToNat, Nat.reduceMul, Int.reduceBEq, Int.reduceBNe, Nat.reduceBEq, Nat.reduceAdd, Nat.reduceSub, Nat.reduceLeDiff, Nat.reduceEqDiff, Nat.reduceLT, reduceCtorEq]) (AWpL.ofM hn rfl ?_); simp (config := { maxSteps := 2000000 }) only [go_sem, ↓reduceIte, Int.reduceToNat, Nat.reduceMul, Int.reduceBEq, Int.reduceBNe, Nat.reduceBEq, Nat.reduceAdd, Nat.reduceSub, Nat.reduceLeDiff, Nat.reduceEqDiff, Nat.reduceLT, reduceCtorEq])
def Same (x y : Rul) : Prop := x.close = y.close ∧ x.sw = y.sw ∧ x.cond = y.cond
theorem s31 (nl fl nl' fl') (l l' : List Rul) (hl : l.length ≤ 1000) (hll : l'.length = l.length) (h : ∀ (i : Nat) (h1 : i < l.length) (h2 : i < l'.length), Same l[i] l'[i] ∧ l[i].cond.length ≤ 1000) :
    Aw.Spec Tryd.prog 31 [] [rs nl fl l, rs nl' fl' l', .fn 32 []] (Gives (· = B true)) := by
  refine Aw.Spec.givesD k31 mixed rfl rfl rfl fun E hn hnp hp => ?_
  unfold a31
  have e9 : ((l.length : Int) != (l'.length : Int)) = false := by simp [hll]
  simp (config := { maxSteps := 2000000 }) only [go_sem, ↓reduceIte, Int.reduceToNat, Nat.reduceMul, Int.reduceBEq, Int.reduceBNe, Nat.reduceBEq, Nat.reduceAdd, Nat.reduceSub, Nat.reduceLeDiff, Nat.reduceEqDiff, Nat.reduceLT, reduceCtorEq, e9]
  refine AWp.loop (fun k s => ∃ i : Nat, i + k = l.length ∧ Weak E s ⟨[(1, rs nl' fl' l'), (2, .fn 32 []), (15, rs nl fl l), (16, I l.length), (17, I i)], []⟩) (n := l.length)
    ⟨0, by omega, weak_to [] hp hnp rfl (by simp (config := { maxSteps := 2000000 }) only [go_sem, ↓reduceIte, Int.reduceToNat, Nat.reduceMul, Int.reduceBEq, Int.reduceBNe, Nat.reduceBEq, Nat.reduceAdd, Nat.reduceSub, Nat.reduceLeDiff, Nat.reduceEqDiff, Nat.reduceLT, reduceCtorEq, Int.natCast_zero]) rfl⟩ ?_
  rintro k s ⟨i, hi, hw⟩
  refine AWp.weak hw (AWp.ofD [] [] hn mixed rfl ?_)
  rcases Nat.lt_or_ge i l.length with hlt | hge
  · have hlt' : i < l'.length := by omega
    have e0 : decide ((i : Int) < (l.length : Int)) = true := by simp; omega
    have e1 := getD_map rlc hlt
    have e1' := getD_map rlc hlt'
    have e2 : IntKind.i64.wrap ((i : Int) + 1) = ((i + 1 : Nat) : Int) := by rw [w64 (by omega) (by omega)]; omega
    obtain ⟨⟨h1, h2, h3⟩, h4⟩ := h i hlt hlt'
    revert e1 e1' h1 h2 h3 h4
    generalize l[i] = x
    generalize l'[i] = y
    rcases x with ⟨c, sw, n, f, cond⟩
    rcases y with ⟨c', sw', n', f', cond'⟩
    intro e1 e1' h4 h1 h2 h3
    dsimp only at h1 h2 h3 h4
    subst h1 h2 h3
    simp (config := { maxSteps := 2000000 }) only [go_sem, ↓reduceIte, Int.reduceToNat, Nat.reduceMul, Int.reduceBEq, Int.reduceBNe, Nat.reduceBEq, Nat.reduceAdd, Nat.reduceSub, Nat.reduceLeDiff, Nat.reduceEqDiff, Nat.reduceLT, reduceCtorEq, e0, e1, e1', e2]
    (repeat (refine And.intro (by first | omega | (refine ⟨by omega, by omega⟩) | (refine ⟨by omega, by omega, by omega⟩) | (simp only [List.length_map, List.length_range, List.length_append, List.length_cons, List.length_nil, List.length_replicate, List.length_set]; omega) | (simp; omega) | (intro hgd; cases hgd) | (intro hgd; refine ⟨hgd, ?_⟩; first | omega | (refine ⟨by omega, by omega⟩) | (simp; omega))) ?_))
    refine AWpL.callv rfl (by kernel_rfl) (s32 c sw n n' f f' cond h4) (by rw [hn]; rfl) fun rg v hv => ?_
    obtain ⟨rfl, rfl⟩ := hv
    rw [retS_nil]
    refine AWpL.ofM hn rfl ?_
    simp (config := { maxSteps := 2000000 }) only [go_sem, ↓reduceIte, Int.reduceToNat, Nat.reduceMul, Int.reduceBEq, Int.reduceBNe, Nat.reduceBEq, Nat.reduceAdd, Nat.reduceSub, Nat.reduceLeDiff, Nat.reduceEqDiff, Nat.reduceLT, reduceCtorEq, e2]
    exact ⟨k - 1, by omega, i + 1, by omega, weak_to [] hp hnp rfl (by simp (config := { maxSteps := 2000000 }) only [go_sem, ↓reduceIte, Int.reduceToNat, Nat.reduceMul, Int.reduceBEq, Int.reduceBNe, Nat.reduceBEq, Nat.reduceAdd, Nat.reduceSub, Nat.reduceLeDiff, Nat.reduceEqDiff, Nat.reduceLT, reduceCtorEq]) rfl⟩
  · have e0 : decide ((i : Int) < (l.length : Int)) = false := by simp; omega
    simp (config := { maxSteps := 2000000 }) only [go_sem, ↓reduceIte, Int.reduceToNat, Nat.reduceMul, Int.reduceBEq, Int.reduceBNe, Nat.reduceBEq, Nat.reduceAdd, Nat.reduceSub, Nat.reduceLeDiff, Nat.reduceEqDiff, Nat.reduceLT, reduceCtorEq, e0]
theorem s17 (nl fl nl' fl') (l l' : List Rul) (hl : l.length ≤ 1000) (hll : l'.length = l.length) (h : ∀ (i : Nat) (h1 : i < l.length) (h2 : i < l'.length), Same l[i] l'[i] ∧ l[i].cond.length ≤ 1000) :
    Aw.Spec Tryd.prog 17 [] [rs nl fl l, rs nl' fl' l'] (Gives (· = B true)) := by
  refine Aw.Spec.givesD k17 mixed rfl rfl rfl fun E hn hnp hp => ?_
  unfold a17
  simp (config := { maxSteps := 2000000 }) only [go_sem, ↓reduceIte, Int.reduceToNat, Nat.reduceMul, Int.reduceBEq, Int.reduceBNe, Nat.reduceBEq, Nat.reduceAdd, Nat.reduceSub, Nat.reduceLeDiff, Nat.reduceEqDiff, Nat.reduceLT, reduceCtorEq]
  (refine AWpL.calle (Aw.Spec.args (s31 nl fl nl' fl' l l' hl hll h) ⟨Ent.refl _, Ent.refl _, entOfunc _, trivial⟩) rfl (by rw [hn]; rfl) (by simp (config := { maxSteps := 2000000 }) only [go_sem, ↓reduceIte, Int.reduceToNat, Nat.reduceMul, Int.reduceBEq, Int.reduceBNe, Nat.reduceBEq, Nat.reduceAdd, Nat.reduceSub, Nat.reduceLeDiff, Nat.reduceEqDiff, Nat.reduceLT, reduceCtorEq]) (AWpL.ofM hn rfl ?_); simp (config := { maxSteps := 2000000 }) only [go_sem, ↓reduceIte, Int.reduceToNat, Nat.reduceMul, Int.reduceBEq, Int.reduceBNe, Nat.reduceBEq, Nat.reduceAdd, Nat.reduceSub, Nat.reduceLeDiff, Nat.reduceEqDiff, Nat.reduceLT, reduceCtorEq])
end Go.Proofs.YtocghkacngoblaaDoor
