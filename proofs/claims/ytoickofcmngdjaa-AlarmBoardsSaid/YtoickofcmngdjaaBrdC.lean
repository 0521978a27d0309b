/- Alarms: entries compared. -/
import Derived.Test.YtoickofcmngdjaaAwZl
import Derived.Test.YtoickofcmngdjaaBrdB
import Derived.Test.YtoickofcmngdjaaBlaL
import Derived.Test.YtoickofcmngdjaaSrtA
import Derived.Shelf.Small.Strs
import Derived.Shelf.Small.Bits
set_option linter.unusedVariables false
set_option linter.unusedSimpArgs false
namespace Go.Proofs.Ytoickofcmngdjaa
open Go.Proofs.Ytoickofcmngdjaa.Aw
attribute [local go_sem] Int.natCast_zero Int.natCast_one bne_self_eq_false beq_self_eq_true Bool.not_true Bool.not_false Option.isSome_none Option.isSome_some Aw.bkM_nil Option.getD_some Option.getD_none Nat.sub_zero Int.toNat_zero Aw.frzS Aw.frzT Aw.frzA Aw.frzL Aw.frzR Aw.frzO Aw.frzOL Aw.frzOT Aw.frzOR Aw.killS Aw.mapT Aw.mapR Aw.killM Aw.resAVs Aw.resAV Aw.quietOps Aw.wpP Aw.wpT Aw.wpS Aw.AOp.mild List.getElem?_cons_zero List.getElem?_cons_succ Bool.and_false Bool.and_self Bool.false_and Aw.opOb Aw.gdB Aw.Rnd Aw.subTm List.length_map Int.toNat_natCast and_self Aw.SeqC Aw.stops Aw.Ends Aw.looks Aw.renA Aw.renL Aw.renT Aw.renS Aw.wpO Aw.aop Aw.putTm Aw.St.ev Aw.St.put Aw.St.putO Aw.binAV Aw.intBin Aw.strBin Aw.pickAV Aw.optInt Aw.AV.strip Aw.AV.guard Aw.AV.cells Aw.gdOb Aw.AOp.opds Aw.AOp.still Aw.ptrCells Aw.St.reg Aw.fillAV Aw.fillOb Aw.elsOb Aw.splice Aw.firm Aw.cellish Aw.AV.shut Aw.shutAll Aw.Seq Aw.Blk Aw.retS_nil Aw.mapA Aw.mapL Aw.borA Aw.borOb Aw.allOb Aw.tupOf Aw.params Aw.Opd.of Array.toList Value.cells List.map_cons List.map_nil List.getD_cons_zero List.getD_cons_succ List.getD_nil List.length_cons List.length_nil List.take_succ_cons List.take_zero List.take_nil List.drop_zero List.drop_succ_cons List.drop_nil List.set_cons_zero List.set_cons_succ List.append_nil List.nil_append List.cons_append List.all_cons List.all_nil cond_false cond_true if_true if_false true_and and_true Bool.and_true Bool.true_and Option.map_some Option.map_none false_implies forall_const implies_true forall_eq imp_self Bool.cond_false_right Bool.cond_true_left beq_true beq_false Bool.not_eq_true' Bool.false_eq_true Nat.zero_add Nat.add_zero Aw.eqCells Aw.stopDraw Aw.skipS Aw.exactCap Aw.revealS Aw.srcEls Aw.srcSz
attribute [local go_sem ↓] Aw.look_nil Aw.look_ite Aw.wpL_nil Aw.wpL_op Aw.wpL_gd Aw.wpQ_nil Aw.wpQ_op Aw.wpQ_gd Aw.wpC_draw Aw.wpC_reg Aw.wpC_skip Aw.wpC_ret Aw.wpC_exit Aw.wpC_seq Aw.wpC_block Aw.wpC_loop Aw.wpC_cond Aw.stopAt_nil Aw.stopAt_cons Aw.wpD_skip Aw.wpD_ret Aw.wpD_exit Aw.wpD_region Aw.wpD_draw Aw.wpM_nil Aw.wpM_op Aw.wpM_gd Aw.wpD_seq Aw.wpD_block Aw.wpD_loop Aw.wpD_cond
/- cmp.isNaN[int] -/
def a55 : ACode :=
  (.seq (.region false [] [
     ⟨(some 2), none, (.mov (.v (.bool false)))⟩])
  (.seq (.region false [] [
     ⟨(some 3), none, (.mov (.t 0))⟩,
     ⟨(some 4), none, (.mov (.t 0))⟩,
     ⟨(some 5), none, (.bin .neq 3 (.t 3) (.t 4))⟩,
     ⟨(some 2), none, (.mov (.t 5))⟩])
  .ret))
theorem k55 : FnIs Try.prog 55 6 [.t 2] a55 := ⟨_, _, Try.func55, rfl, by kernel_rfl, by kernel_rfl, rfl⟩
/- cmp.Compare[int] -/
def a38 : ACode :=
  (.seq (.region false [] [
     ⟨(some 4), none, (.mov (.v (.int .i64 0)))⟩])
  (.seq (.region false [] [
     ⟨(some 7), none, (.mov (.t 0))⟩,
     ⟨(some 8), none, (.call 55 [(.t 7)])⟩,
     ⟨(some 5), none, (.mov (.t 8))⟩])
  (.seq (.region false [] [
     ⟨(some 9), none, (.mov (.t 1))⟩,
     ⟨(some 10), none, (.call 55 [(.t 9)])⟩,
     ⟨(some 6), none, (.mov (.t 10))⟩])
  (.seq (.seq (.region false [] [
     ⟨(some 11), none, (.mov (.t 5))⟩])
  (.cond (.t 11)
    (.seq (.seq (.region false [] [
       ⟨(some 12), none, (.mov (.t 6))⟩])
    (.cond (.t 12)
      (.seq (.region false [] [
         ⟨(some 4), none, (.mov (.v (.int .i64 0)))⟩])
      .ret)
      .skip))
    (.seq (.region false [] [
       ⟨(some 4), none, (.mov (.v (.int .i64 (-1))))⟩])
    .ret))
    .skip))
  (.seq (.seq (.region false [] [
     ⟨(some 13), none, (.mov (.t 6))⟩])
  (.cond (.t 13)
    (.seq (.region false [] [
       ⟨(some 4), none, (.mov (.v (.int .i64 1)))⟩])
    .ret)
    .skip))
  (.seq (.seq (.region false [] [
     ⟨(some 14), none, (.mov (.t 0))⟩,
     ⟨(some 15), none, (.mov (.t 1))⟩,
     ⟨(some 16), none, (.bin .lss 3 (.t 14) (.t 15))⟩])
  (.cond (.t 16)
    (.seq (.region false [] [
       ⟨(some 4), none, (.mov (.v (.int .i64 (-1))))⟩])
    .ret)
    .skip))
  (.seq (.seq (.region false [] [
     ⟨(some 17), none, (.mov (.t 0))⟩,
     ⟨(some 18), none, (.mov (.t 1))⟩,
     ⟨(some 19), none, (.bin .gtr 3 (.t 17) (.t 18))⟩])
  (.cond (.t 19)
    (.seq (.region false [] [
       ⟨(some 4), none, (.mov (.v (.int .i64 1)))⟩])
    .ret)
    .skip))
  (.seq (.region false [] [
     ⟨(some 4), none, (.mov (.v (.int .i64 0)))⟩])
  .ret))))))))
theorem k38 : FnIs Try.prog 38 20 [.t 4] a38 := ⟨_, _, Try.func38, rfl, by kernel_rfl, by kernel_rfl, rfl⟩
/- cmp.Or[int] -/
def a37 : ACode :=
  (.seq (.region false [] [
     ⟨(some 2), none, (.mov (.v (.int .i64 0)))⟩])
  (.seq (.region false [] [
     ⟨(some 3), none, (.mov (.v (.int .i64 0)))⟩])
  (.seq (.seq (.region false [] [
     ⟨(some 6), none, (.mov (.t 0))⟩,
     ⟨(some 7), none, (.len (.t 6))⟩,
     ⟨(some 8), none, (.mov (.v (.int .i64 0)))⟩])
  (.block 0 (.loop (.seq (.region false [] [
       ⟨(some 9), none, (.bin .lss 3 (.t 8) (.t 7))⟩])
    (.seq (.cond (.t 9)
      .skip
      (.exit 0))
    (.seq (.block 1 (.seq (.region false [] [
        ⟨(some 10), none, (.idx 1 (.t 6) (.t 8))⟩,
        ⟨(some 11), none, (.load 1 false (.t 10))⟩,
        ⟨(some 5), none, (.mov (.t 11))⟩])
     (.seq (.region false [] [
        ⟨(some 12), none, (.mov (.t 5))⟩,
        ⟨(some 13), none, (.mov (.t 3))⟩,
        ⟨(some 14), none, (.bin .neq 3 (.t 12) (.t 13))⟩])
     (.cond (.t 14)
       (.seq (.region false [] [
          ⟨(some 15), none, (.mov (.t 5))⟩,
          ⟨(some 2), none, (.mov (.t 15))⟩])
       .ret)
       .skip))))
    (.region false [] [
       ⟨(some 16), none, (.bin .add 3 (.t 8) (.v (.int .i64 1)))⟩,
       ⟨(some 8), none, (.mov (.t 16))⟩])))))))
  (.seq (.region false [] [
     ⟨(some 17), none, (.mov (.t 3))⟩,
     ⟨(some 2), none, (.mov (.t 17))⟩])
  .ret))))
theorem k37 : FnIs Try.prog 37 18 [.t 2] a37 := ⟨_, _, Try.func37, rfl, by kernel_rfl, by kernel_rfl, rfl⟩
/- (*gridhall/alarm.Board).All$1 -/
def a36 : ACode :=
  (.seq (.region false [] [
     ⟨(some 2), none, (.box 48 (.t 0))⟩,
     ⟨(some 3), none, (.box 48 (.t 1))⟩,
     ⟨(some 4), none, (.mov (.v (.int .i64 0)))⟩])
  (.seq (.region true [[], [0], [], [2], [1, 3], [], [5], [], [7], [6, 8, 4], [4, 9], [10, 9], [11, 11, 0, 1, 2, 3, 4, 5, 6, 7, 8, 9, 10, 11]] [
     ⟨(some 5), none, (.fld 1 (.t 2))⟩,
     ⟨(some 6), none, (.load 1 false (.t 5))⟩,
     ⟨(some 7), none, (.fld 1 (.t 3))⟩,
     ⟨(some 8), none, (.load 1 false (.t 7))⟩,
     ⟨(some 9), none, (.call 38 [(.t 6), (.t 8)])⟩,
     ⟨(some 10), none, (.fld 0 (.t 2))⟩,
     ⟨(some 11), none, (.load 1 false (.t 10))⟩,
     ⟨(some 12), none, (.fld 0 (.t 3))⟩,
     ⟨(some 13), none, (.load 1 false (.t 12))⟩,
     ⟨(some 14), none, (.call 39 [(.t 11), (.t 13)])⟩,
     ⟨(some 15), none, (.bsl 3 1 2 [(0, (.t 9)), (1, (.t 14))])⟩,
     ⟨(some 16), none, (.call 37 [(.t 15)])⟩,
     ⟨(some 4), none, (.mov (.t 16))⟩])
  .ret))
theorem k36 : FnIs Try.prog 36 17 [.t 4] a36 := ⟨_, _, Try.func36, rfl, by kernel_rfl, by kernel_rfl, rfl⟩

theorem Spec.ofCalls {P : Program} {f : FuncId} {vs : List Value} {v : Value} (h : ∀ w, Calls P f vs.toArray w fun e w' => e = .returned v ∧ w' = w) : Aw.Spec P f [] (vs.map AV.val) (Gives (· = .val v)) := by
  intro w ρ ok vals hm hr
  have hv : vals = vs.toArray := by
    have : ∀ (vs : List Value) (xs : List Value), RList w ok ρ (vs.map AV.val) xs → xs = vs := by
      intro vs
      induction vs with
      | nil => intro xs hx; cases xs with
        | nil => rfl
        | cons => simp [RList] at hx
      | cons a vs ih => intro xs hx; cases xs with
        | nil => simp [RList] at hx
        | cons x xs =>
          simp only [List.map_cons, RList, R] at hx
          obtain ⟨y, ys, h1, h2, h3⟩ := hx
          injection h1 with h4 h5
          subst h4 h5 h2
          rw [ih _ h3]
    have h2 := this vs vals.toList hr
    cases vals; simp at h2; simp [h2]
  subst hv
  refine (h w).mono fun e w' he => ?_
  obtain ⟨rfl, rfl⟩ := he
  exact ⟨[], .val v, v, ρ, ok, rfl, ⟨rfl, rfl⟩, hm, by simp only [R], fun b hb => .inl hb, fun r p hr => .inr ⟨r, p, hr, rfl⟩, ⟨rfl, rfl, rfl, Nat.le_refl _, fun _ _ _ => rfl⟩, fun r e cs hr => by cases hr⟩
def ren106 : Go.Shelf.Ren := ⟨fun f => if f = 106 then 39 else if f = 213 then 56 else if f = 265 then 70 else f, fun t => if t = 3 then 3 else if t = 9 then 9 else t, fun g => g⟩
set_option maxRecDepth 100000 in
theorem lays106 : Go.Proofs.Lays.n106 Try.prog ren106 := by
  constructor
  all_goals first
    | kernel_rfl
    | (intro w; rfl)
    | (intro w; exact Go.RowKit.run_isAgg_plain (by kernel_rfl) rfl)
/-- How two texts compare. -/
def cmpS (a b : ByteArray) : Int := Lib.compareBytes a.data.toList b.data.toList
theorem s39 (a b : ByteArray) : Aw.Spec Try.prog 39 [] [S a, S b] (Gives (· = I (cmpS a b))) :=
  Spec.ofCalls (vs := [.string a, .string b]) fun w => Any.strings_Compare lays106 a b w
theorem s33 (x : Int) (h0 : 0 ≤ x) (h1 : x ≤ 18446744073709551615) : Aw.Spec Try.prog 33 [] [.val (.int .u64 x)] (Gives (· = I (Lib.bitLen x.toNat))) :=
  Spec.ofCalls (vs := [.int .u64 x]) fun w => Any.bits_Len { lays190 with } x w h0 h1
section
variable {P : Program} {E : Env} {s : St} {m : Bool} {K : St → Prop} {d : Option Nat} {t : Nat} {want : Bool}
theorem AOne.guardT {op : AOp} (h : gdB (Aw.look s.tm t) want = some true) (k : AOne P E m ⟨d, none, op⟩ s K) : AOne P E m ⟨d, some (t, want), op⟩ s K := fun ops o hg a w hrel Q => by
  have h3 := k ops (bare o) (gop_bare hg) a w hrel Q
  obtain ⟨ρ, ok, hr⟩ := hrel
  obtain ⟨j, hg0, hg1⟩ := guard_inv hg
  rw [if_pos (wanted_none (o := bare o) rfl _)] at h3
  rw [if_pos (wanted_gd hr hg0 hg1 h)]
  exact h3
theorem AOne.guardF {op : AOp} (hd : dstOk E.n d = true) (h : gdB (Aw.look s.tm t) want = some false) (k : K (s.putO d (.opt false .any))) : AOne P E m ⟨d, some (t, want), op⟩ s K := fun ops o hg a w hrel Q => by
  obtain ⟨ρ, ok, hr⟩ := hrel
  obtain ⟨j, hg0, hg1⟩ := guard_inv hg
  obtain ⟨_, hdst, _⟩ := gop_guard hg
  rw [if_neg (by rw [wanted_gd hr hg0 hg1 h]; simp)]
  refine ⟨fun _ => Ext.refl w, _, k, ρ, ok, ?_⟩
  rw [← hdst]
  exact hr.putO hd (by unfold R; exact ⟨fun e => (by cases e), fun _ => rfl⟩)
theorem AOne.weakK {g : GOp} (h : AOne P E m g s fun x => ∃ y, Weak E x y ∧ K y) : AOne P E m g s K := fun ops o hg a w hrel Q => by
  have := h ops o hg a w hrel Q
  split at this
  · rename_i hw
    rw [if_pos hw]
    exact this.imp (Oper.wp_mono fun a' w' ⟨h1, s', ⟨y, h2, h4⟩, h3⟩ => ⟨h1, y, h4, h2 _ _ h3⟩) id
  · rename_i hw
    rw [if_neg hw]
    obtain ⟨h1, s', ⟨y, h2, h4⟩, h3⟩ := this
    exact ⟨h1, y, h4, h2 _ _ h3⟩
end
theorem s55 (a : Int) : Aw.Spec Try.prog 55 [] [I a] (Gives (· = B false)) := by
  refine Aw.Spec.givesD k55 mixed rfl rfl rfl fun E hn hnp hp => ?_
  unfold a55
  have e1 : (a != a) = false := by simp
  simp (config := { maxSteps := 2000000 }) only [go_sem, ↓reduceIte, Int.reduceToNat, Nat.reduceMul, Int.reduceBEq, Int.reduceBNe, Nat.reduceBEq, Nat.reduceAdd, Nat.reduceSub, Nat.reduceLeDiff, Nat.reduceEqDiff, Nat.reduceLT, reduceCtorEq, e1]
def cmpI (a b : Int) : Int := if a < b then -1 else if a > b then 1 else 0
theorem s38 (a b : Int) : Aw.Spec Try.prog 38 [] [I a, I b] (Gives (· = I (cmpI a b))) := by
  refine Aw.Spec.givesD k38 mixed rfl rfl rfl fun E hn hnp hp => ?_
  unfold a38
  simp (config := { maxSteps := 2000000 }) only [go_sem, ↓reduceIte, Int.reduceToNat, Nat.reduceMul, Int.reduceBEq, Int.reduceBNe, Nat.reduceBEq, Nat.reduceAdd, Nat.reduceSub, Nat.reduceLeDiff, Nat.reduceEqDiff, Nat.reduceLT, reduceCtorEq]
  (refine AWpL.calle (s55 a) rfl (by rw [hn]; rfl) (by simp (config := { maxSteps := 2000000 }) only [go_sem, ↓reduceIte, Int.reduceToNat, Nat.reduceMul, Int.reduceBEq, Int.reduceBNe, Nat.reduceBEq, Nat.reduceAdd, Nat.reduceSub, Nat.reduceLeDiff, Nat.reduceEqDiff, Nat.reduceLT, reduceCtorEq]) (AWpL.ofM hn rfl ?_); simp (config := { maxSteps := 2000000 }) only [go_sem, ↓reduceIte, Int.reduceToNat, Nat.reduceMul, Int.reduceBEq, Int.reduceBNe, Nat.reduceBEq, Nat.reduceAdd, Nat.reduceSub, Nat.reduceLeDiff, Nat.reduceEqDiff, Nat.reduceLT, reduceCtorEq])
  (refine AWpL.calle (s55 b) rfl (by rw [hn]; rfl) (by simp (config := { maxSteps := 2000000 }) only [go_sem, ↓reduceIte, Int.reduceToNat, Nat.reduceMul, Int.reduceBEq, Int.reduceBNe, Nat.reduceBEq, Nat.reduceAdd, Nat.reduceSub, Nat.reduceLeDiff, Nat.reduceEqDiff, Nat.reduceLT, reduceCtorEq]) (AWpL.ofM hn rfl ?_); simp (config := { maxSteps := 2000000 }) only [go_sem, ↓reduceIte, Int.reduceToNat, Nat.reduceMul, Int.reduceBEq, Int.reduceBNe, Nat.reduceBEq, Nat.reduceAdd, Nat.reduceSub, Nat.reduceLeDiff, Nat.reduceEqDiff, Nat.reduceLT, reduceCtorEq])
  by_cases h1 : a < b
  · have e1 : decide (a < b) = true := decide_eq_true h1
    have e : cmpI a b = -1 := by unfold cmpI; rw [if_pos h1]
    simp (config := { maxSteps := 2000000 }) only [go_sem, ↓reduceIte, Int.reduceToNat, Nat.reduceMul, Int.reduceBEq, Int.reduceBNe, Nat.reduceBEq, Nat.reduceAdd, Nat.reduceSub, Nat.reduceLeDiff, Nat.reduceEqDiff, Nat.reduceLT, reduceCtorEq, e1, e]
  · have e1 : decide (a < b) = false := decide_eq_false h1
    by_cases h2 : a > b
    · have e2 : decide (a > b) = true := decide_eq_true h2
      have e : cmpI a b = 1 := by unfold cmpI; rw [if_neg h1, if_pos h2]
      simp (config := { maxSteps := 2000000 }) only [go_sem, ↓reduceIte, Int.reduceToNat, Nat.reduceMul, Int.reduceBEq, Int.reduceBNe, Nat.reduceBEq, Nat.reduceAdd, Nat.reduceSub, Nat.reduceLeDiff, Nat.reduceEqDiff, Nat.reduceLT, reduceCtorEq, e1, e2, e]
    · have e2 : decide (a > b) = false := decide_eq_false h2
      have e : cmpI a b = 0 := by unfold cmpI; rw [if_neg h1, if_neg h2]
      simp (config := { maxSteps := 2000000 }) only [go_sem, ↓reduceIte, Int.reduceToNat, Nat.reduceMul, Int.reduceBEq, Int.reduceBNe, Nat.reduceBEq, Nat.reduceAdd, Nat.reduceSub, Nat.reduceLeDiff, Nat.reduceEqDiff, Nat.reduceLT, reduceCtorEq, e1, e2, e]
def orI (a b : Int) : Int := if a ≠ 0 then a else b
theorem s37 (nl fl) (a b : Int) : Aw.Spec Try.prog 37 [] [.imm nl fl 1 [[I a], [I b]]] (Gives (· = I (orI a b))) := by
  refine Aw.Spec.givesD k37 mixed rfl rfl rfl fun E hn hnp hp => ?_
  unfold a37
  simp (config := { maxSteps := 2000000 }) only [go_sem, ↓reduceIte, Int.reduceToNat, Nat.reduceMul, Int.reduceBEq, Int.reduceBNe, Nat.reduceBEq, Nat.reduceAdd, Nat.reduceSub, Nat.reduceLeDiff, Nat.reduceEqDiff, Nat.reduceLT, reduceCtorEq]
  refine AWp.loop (fun k s => ∃ i : Nat, i + k = 2 ∧ (1 ≤ i → a = 0) ∧ (2 ≤ i → b = 0) ∧ Weak E s ⟨[(3, I 0), (6, .imm nl fl 1 [[I a], [I b]]), (7, I 2), (8, I i)], []⟩) (n := 2)
    ⟨0, rfl, fun h => by omega, fun h => by omega, weak_to [] hp hnp rfl (by simp (config := { maxSteps := 2000000 }) only [go_sem, ↓reduceIte, Int.reduceToNat, Nat.reduceMul, Int.reduceBEq, Int.reduceBNe, Nat.reduceBEq, Nat.reduceAdd, Nat.reduceSub, Nat.reduceLeDiff, Nat.reduceEqDiff, Nat.reduceLT, reduceCtorEq, Int.natCast_zero]; rfl) rfl⟩ ?_
  rintro k s ⟨i, hik, h1, h2, hw⟩
  refine AWp.weak hw (AWp.ofD [] [] hn mixed rfl ?_)
  rcases (by omega : i = 0 ∨ i = 1 ∨ i = 2) with rfl | rfl | rfl
  · have e0 : decide ((0 : Int) < 2) = true := by decide
    have e2 : IntKind.i64.wrap ((0 : Int) + 1) = 1 := by decide
    by_cases ha : a = 0
    · have e1 : (a != 0) = false := by simp [ha]
      simp (config := { maxSteps := 2000000 }) only [go_sem, ↓reduceIte, Int.reduceToNat, Nat.reduceMul, Int.reduceBEq, Int.reduceBNe, Nat.reduceBEq, Nat.reduceAdd, Nat.reduceSub, Nat.reduceLeDiff, Nat.reduceEqDiff, Nat.reduceLT, reduceCtorEq, e0, e1, e2, Int.natCast_zero]
      exact ⟨⟨Int.le_refl _, by decide⟩, 1, by omega, 1, rfl, fun _ => ha, fun h => by omega, weak_to [] hp hnp rfl (by simp (config := { maxSteps := 2000000 }) only [go_sem, ↓reduceIte, Int.reduceToNat, Nat.reduceMul, Int.reduceBEq, Int.reduceBNe, Nat.reduceBEq, Nat.reduceAdd, Nat.reduceSub, Nat.reduceLeDiff, Nat.reduceEqDiff, Nat.reduceLT, reduceCtorEq, Int.natCast_one]) rfl⟩
    · have e1 : (a != 0) = true := by simp [ha]
      have e : orI a b = a := by unfold orI; rw [if_pos ha]
      simp (config := { maxSteps := 2000000 }) only [go_sem, ↓reduceIte, Int.reduceToNat, Nat.reduceMul, Int.reduceBEq, Int.reduceBNe, Nat.reduceBEq, Nat.reduceAdd, Nat.reduceSub, Nat.reduceLeDiff, Nat.reduceEqDiff, Nat.reduceLT, reduceCtorEq, e0, e1, e, Int.natCast_zero]
      exact ⟨Int.le_refl _, by decide⟩
  · have e0 : decide ((1 : Int) < 2) = true := by decide
    have e2 : IntKind.i64.wrap ((1 : Int) + 1) = 2 := by decide
    have e : orI a b = b := by unfold orI; rw [if_neg (by simp [h1 (Nat.le_refl _)])]
    by_cases hb : b = 0
    · have e1 : (b != 0) = false := by simp [hb]
      simp (config := { maxSteps := 2000000 }) only [go_sem, ↓reduceIte, Int.reduceToNat, Nat.reduceMul, Int.reduceBEq, Int.reduceBNe, Nat.reduceBEq, Nat.reduceAdd, Nat.reduceSub, Nat.reduceLeDiff, Nat.reduceEqDiff, Nat.reduceLT, reduceCtorEq, e0, e1, e2, Int.natCast_one]
      exact ⟨⟨by decide, by decide⟩, 0, by omega, 2, rfl, fun _ => h1 (Nat.le_refl _), fun _ => hb, weak_to [] hp hnp rfl (by simp (config := { maxSteps := 2000000 }) only [go_sem, ↓reduceIte, Int.reduceToNat, Nat.reduceMul, Int.reduceBEq, Int.reduceBNe, Nat.reduceBEq, Nat.reduceAdd, Nat.reduceSub, Nat.reduceLeDiff, Nat.reduceEqDiff, Nat.reduceLT, reduceCtorEq]; rfl) rfl⟩
    · have e1 : (b != 0) = true := by simp [hb]
      simp (config := { maxSteps := 2000000 }) only [go_sem, ↓reduceIte, Int.reduceToNat, Nat.reduceMul, Int.reduceBEq, Int.reduceBNe, Nat.reduceBEq, Nat.reduceAdd, Nat.reduceSub, Nat.reduceLeDiff, Nat.reduceEqDiff, Nat.reduceLT, reduceCtorEq, e0, e1, e, Int.natCast_one]
      exact ⟨by decide, by decide⟩
  · have e0 : decide ((2 : Int) < 2) = false := by decide
    have e : orI a b = 0 := by unfold orI; rw [if_neg (by simp [h1 (by omega)]), h2 (by omega)]
    have e3 : ((2 : Nat) : Int) = 2 := rfl
    simp (config := { maxSteps := 2000000 }) only [go_sem, ↓reduceIte, Int.reduceToNat, Nat.reduceMul, Int.reduceBEq, Int.reduceBNe, Nat.reduceBEq, Nat.reduceAdd, Nat.reduceSub, Nat.reduceLeDiff, Nat.reduceEqDiff, Nat.reduceLT, reduceCtorEq, e3, e0, e]
def cmpA (x y : Ale) : Int := orI (cmpI x.time y.time) (cmpS x.name y.name)
theorem s36 (x y : Ale) : Aw.Spec Try.prog 36 [] [.agg (alc x), .agg (alc y)] (Gives (· = I (cmpA x y))) := by
  refine Aw.Spec.givesW k36 rfl rfl fun E hn hnp hp => ?_
  unfold a36
  refine AWp.ofD [999] [] hn mixed rfl ?_
  simp (config := { maxSteps := 2000000 }) only [go_sem, ↓reduceIte, Int.reduceToNat, Nat.reduceMul, Int.reduceBEq, Int.reduceBNe, Nat.reduceBEq, Nat.reduceAdd, Nat.reduceSub, Nat.reduceLeDiff, Nat.reduceEqDiff, Nat.reduceLT, reduceCtorEq]
  refine AWp.plan (.take 0 [false, false, true, true, false, true, true, true, true, false, false, false, false] (.take 1 [true, false, true, true, false, true, true, true, true, false, false, false, false] (.take 2 [true, true, false, false, false, true, true, true, true, false, false, false, false] (.take 3 [true, true, true, false, false, true, true, true, true, false, false, false, false] (.take 5 [true, true, true, true, true, false, false, true, true, false, false, false, false] (.take 6 [true, true, true, true, true, true, false, true, true, false, false, false, false] (.take 7 [true, true, true, true, true, true, true, false, false, false, false, false, false] (.take 8 [true, true, true, true, true, true, true, true, false, false, false, false, false] (.one 4 (.one 9 (.one 10 (.one 11 (.take 12 [true, true, true, true, true, true, true, true, true, true, true, true, false] .done))))))))))))) [true, true, true, true, true, true, true, true, true, true, true, true, true] mixed hn rfl rfl ?_
  simp (config := { maxSteps := 2000000 }) only [go_sem, ↓reduceIte, Int.reduceToNat, Nat.reduceMul, Int.reduceBEq, Int.reduceBNe, Nat.reduceBEq, Nat.reduceAdd, Nat.reduceSub, Nat.reduceLeDiff, Nat.reduceEqDiff, Nat.reduceLT, reduceCtorEq]
  refine AOne.calle (s38 x.time y.time) rfl (by rw [hn]; rfl) (by simp (config := { maxSteps := 2000000 }) only [go_sem, ↓reduceIte, Int.reduceToNat, Nat.reduceMul, Int.reduceBEq, Int.reduceBNe, Nat.reduceBEq, Nat.reduceAdd, Nat.reduceSub, Nat.reduceLeDiff, Nat.reduceEqDiff, Nat.reduceLT, reduceCtorEq]) ?_
  simp (config := { maxSteps := 2000000 }) only [go_sem, ↓reduceIte, Int.reduceToNat, Nat.reduceMul, Int.reduceBEq, Int.reduceBNe, Nat.reduceBEq, Nat.reduceAdd, Nat.reduceSub, Nat.reduceLeDiff, Nat.reduceEqDiff, Nat.reduceLT, reduceCtorEq]
  refine AOne.calle (s39 x.name y.name) rfl (by rw [hn]; rfl) (by simp (config := { maxSteps := 2000000 }) only [go_sem, ↓reduceIte, Int.reduceToNat, Nat.reduceMul, Int.reduceBEq, Int.reduceBNe, Nat.reduceBEq, Nat.reduceAdd, Nat.reduceSub, Nat.reduceLeDiff, Nat.reduceEqDiff, Nat.reduceLT, reduceCtorEq]) ?_
  simp (config := { maxSteps := 2000000 }) only [go_sem, ↓reduceIte, Int.reduceToNat, Nat.reduceMul, Int.reduceBEq, Int.reduceBNe, Nat.reduceBEq, Nat.reduceAdd, Nat.reduceSub, Nat.reduceLeDiff, Nat.reduceEqDiff, Nat.reduceLT, reduceCtorEq]
  refine AOne.calle (s37 none false (cmpI x.time y.time) (cmpS x.name y.name)) rfl (by rw [hn]; rfl) (by simp (config := { maxSteps := 2000000 }) only [go_sem, ↓reduceIte, Int.reduceToNat, Nat.reduceMul, Int.reduceBEq, Int.reduceBNe, Nat.reduceBEq, Nat.reduceAdd, Nat.reduceSub, Nat.reduceLeDiff, Nat.reduceEqDiff, Nat.reduceLT, reduceCtorEq]) ?_
  simp (config := { maxSteps := 2000000 }) only [go_sem, ↓reduceIte, Int.reduceToNat, Nat.reduceMul, Int.reduceBEq, Int.reduceBNe, Nat.reduceBEq, Nat.reduceAdd, Nat.reduceSub, Nat.reduceLeDiff, Nat.reduceEqDiff, Nat.reduceLT, reduceCtorEq]
  rfl
end Go.Proofs.Ytoickofcmngdjaa
