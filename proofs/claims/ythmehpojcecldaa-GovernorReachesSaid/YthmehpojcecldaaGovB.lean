/- What the generators' functions compute. -/
import Derived.Test.YthmehpojcecldaaAwS
import Derived.Test.YthmehpojcecldaaGovA
import Derived.Test.YthmehpojcecldaaGovM
import Derived.IntWalk
set_option linter.unusedVariables false
set_option linter.unusedSimpArgs false
namespace Go.Proofs.Ythmehpojcecldaa
open Go.Proofs.Ythmehpojcecldaa.Aw
theorem mixed : Try.prog.follows .mixedOrders = true := by kernel_rfl
abbrev I (n : Int) : AV := .val (.int .i64 n)
abbrev B (b : Bool) : AV := .val (.bool b)
abbrev gc (g : Gen) : List AV := [I g.set, I g.least, I g.most, I g.droop, I g.band, I g.ramp]
abbrev ga (g : Gen) : AV := .agg (gc g)
theorem w64 {n : Int} (h0 : -9223372036854775808 ≤ n) (h1 : n ≤ 9223372036854775807) : IntKind.i64.wrap n = n := IntWalk.i64_in n ⟨h0, h1⟩

/-- Whether a deviation is permitted. -/
def okf (f : Int) : Bool := decide (-10000 ≤ f) && decide (f ≤ 10000)
theorem okf_iff (f : Int) : okf f = true ↔ -10000 ≤ f ∧ f ≤ 10000 := by unfold okf; simp
theorem s53 (f : Int) : Aw.Spec Try.prog 53 [] [I f] (Gives (· = B (okf f))) := by
  refine Aw.Spec.gives k53 mixed rfl rfl rfl fun E hn hnp hp => ?_
  unfold a53
  simp (config := { maxSteps := 2000000 }) only [Aw.wpC, Aw.opOb, Aw.gdB, Aw.Rnd, Aw.subTm, List.length_map, Int.toNat_natCast, and_self, Aw.wpL, Aw.wpQ, Aw.SeqC, Aw.stops, Aw.Ends, Aw.looks, Aw.renA, Aw.renL, Aw.renT, Aw.renS, Aw.wpO, Aw.aop, Aw.look, Aw.putTm, Aw.St.ev, Aw.St.put, Aw.St.putO, Aw.binAV, Aw.intBin, Aw.strBin, Aw.pickAV, Aw.optInt, Aw.AV.strip, Aw.AV.guard, Aw.AV.cells, Aw.gdOb, Aw.AOp.opds, Aw.AOp.still, Aw.ptrCells, Aw.St.reg, Aw.fillAV, Aw.fillOb, Aw.elsOb, Aw.splice, Aw.firm, Aw.cellish, Aw.AV.shut, Aw.shutAll, Aw.Seq, Aw.Blk, Aw.retS_nil, Aw.mapA, Aw.mapL, Aw.borA, Aw.borOb, Aw.allOb, Aw.tupOf, Aw.params, Aw.Opd.of, Array.toList, Value.cells, List.map_cons, List.map_nil, List.getD_cons_zero, List.getD_cons_succ, List.getD_nil, List.length_cons, List.length_nil, List.take_succ_cons, List.take_zero, List.take_nil, List.drop_zero, List.drop_succ_cons, List.drop_nil, List.set_cons_zero, List.set_cons_succ, List.append_nil, List.nil_append, List.cons_append, List.all_cons, List.all_nil, Nat.reduceBEq, Nat.reduceAdd, Nat.reduceSub, Nat.reduceLeDiff, Nat.reduceEqDiff, Nat.reduceLT, cond_false, cond_true, if_true, if_false, true_and, and_true, Bool.and_true, Bool.true_and, Option.map_some, Option.map_none, reduceCtorEq, false_implies, forall_const, implies_true, forall_eq, imp_self, Bool.cond_false_right, Bool.cond_true_left, beq_true, beq_false, Bool.not_eq_true', Bool.false_eq_true, Nat.zero_add, Nat.add_zero]
  rfl
def chk (g : Gen) : Int := if Good g then 0 else 4
set_option maxRecDepth 10000 in
theorem s52 (g : Gen) : Aw.Spec Try.prog 52 [] [ga g] (Gives (· = I (chk g))) := by
  refine Aw.Spec.gives k52 mixed rfl rfl rfl fun E hn hnp hp => ?_
  unfold a52
  simp (config := { maxSteps := 2000000 }) only [Aw.wpC, Aw.opOb, Aw.gdB, Aw.Rnd, Aw.subTm, List.length_map, Int.toNat_natCast, and_self, Aw.wpL, Aw.wpQ, Aw.SeqC, Aw.stops, Aw.Ends, Aw.looks, Aw.renA, Aw.renL, Aw.renT, Aw.renS, Aw.wpO, Aw.aop, Aw.look, Aw.putTm, Aw.St.ev, Aw.St.put, Aw.St.putO, Aw.binAV, Aw.intBin, Aw.strBin, Aw.pickAV, Aw.optInt, Aw.AV.strip, Aw.AV.guard, Aw.AV.cells, Aw.gdOb, Aw.AOp.opds, Aw.AOp.still, Aw.ptrCells, Aw.St.reg, Aw.fillAV, Aw.fillOb, Aw.elsOb, Aw.splice, Aw.firm, Aw.cellish, Aw.AV.shut, Aw.shutAll, Aw.Seq, Aw.Blk, Aw.retS_nil, Aw.mapA, Aw.mapL, Aw.borA, Aw.borOb, Aw.allOb, Aw.tupOf, Aw.params, Aw.Opd.of, Array.toList, Value.cells, List.map_cons, List.map_nil, List.getD_cons_zero, List.getD_cons_succ, List.getD_nil, List.length_cons, List.length_nil, List.take_succ_cons, List.take_zero, List.take_nil, List.drop_zero, List.drop_succ_cons, List.drop_nil, List.set_cons_zero, List.set_cons_succ, List.append_nil, List.nil_append, List.cons_append, List.all_cons, List.all_nil, Nat.reduceBEq, Nat.reduceAdd, Nat.reduceSub, Nat.reduceLeDiff, Nat.reduceEqDiff, Nat.reduceLT, cond_false, cond_true, if_true, if_false, true_and, and_true, Bool.and_true, Bool.true_and, Option.map_some, Option.map_none, reduceCtorEq, false_implies, forall_const, implies_true, forall_eq, imp_self, Bool.cond_false_right, Bool.cond_true_left, beq_true, beq_false, Bool.not_eq_true', Bool.false_eq_true, Nat.zero_add, Nat.add_zero, and_self]
  simp only [Bool.or_eq_true, Bool.or_eq_false_iff, decide_eq_true_eq, decide_eq_false_iff_not]
  unfold chk
  refine ⟨fun h => ?_, fun h => ⟨fun h2 => ?_, fun h2 => ?_⟩⟩
  · rw [if_neg (by unfold Good; omega)]
  · rw [if_neg (by unfold Good; omega)]
  · rw [if_pos (by unfold Good; omega)]
theorem s54 (g : Gen) (f : Int) (hg : Good g) (h0 : -10000 ≤ f) (h1 : f ≤ 10000) : Aw.Spec Try.prog 54 [] [ga g, I f] (Gives (· = I (tgt g f))) := by
  refine Aw.Spec.gives k54 mixed rfl rfl rfl fun E hn hnp hp => ?_
  unfold a54
  simp (config := { maxSteps := 2000000 }) only [Aw.wpC, Aw.opOb, Aw.gdB, Aw.Rnd, Aw.subTm, List.length_map, Int.toNat_natCast, and_self, Aw.wpL, Aw.wpQ, Aw.SeqC, Aw.stops, Aw.Ends, Aw.looks, Aw.renA, Aw.renL, Aw.renT, Aw.renS, Aw.wpO, Aw.aop, Aw.look, Aw.putTm, Aw.St.ev, Aw.St.put, Aw.St.putO, Aw.binAV, Aw.intBin, Aw.strBin, Aw.pickAV, Aw.optInt, Aw.AV.strip, Aw.AV.guard, Aw.AV.cells, Aw.gdOb, Aw.AOp.opds, Aw.AOp.still, Aw.ptrCells, Aw.St.reg, Aw.fillAV, Aw.fillOb, Aw.elsOb, Aw.splice, Aw.firm, Aw.cellish, Aw.AV.shut, Aw.shutAll, Aw.Seq, Aw.Blk, Aw.retS_nil, Aw.mapA, Aw.mapL, Aw.borA, Aw.borOb, Aw.allOb, Aw.tupOf, Aw.params, Aw.Opd.of, Array.toList, Value.cells, List.map_cons, List.map_nil, List.getD_cons_zero, List.getD_cons_succ, List.getD_nil, List.length_cons, List.length_nil, List.take_succ_cons, List.take_zero, List.take_nil, List.drop_zero, List.drop_succ_cons, List.drop_nil, List.set_cons_zero, List.set_cons_succ, List.append_nil, List.nil_append, List.cons_append, List.all_cons, List.all_nil, Nat.reduceBEq, Nat.reduceAdd, Nat.reduceSub, Nat.reduceLeDiff, Nat.reduceEqDiff, Nat.reduceLT, cond_false, cond_true, if_true, if_false, true_and, and_true, Bool.and_true, Bool.true_and, Option.map_some, Option.map_none, reduceCtorEq, false_implies, forall_const, implies_true, forall_eq, imp_self, Bool.cond_false_right, Bool.cond_true_left, beq_true, beq_false, Bool.not_eq_true', Bool.false_eq_true, Nat.zero_add, Nat.add_zero]
  have hs := over_small g.band f (by have := hg; unfold Good at this; omega) (by have := hg; unfold Good at this; omega) h0 h1
  have ht := tdiv_small (over g.band f) g.droop hs.1 hs.2
  have hg' := hg
  unfold Good at hg'
  unfold tgt over at *
  simp only [decide_eq_true_eq, decide_eq_false_iff_not]
  have e1 : IntKind.i64.wrap (0 - g.band) = -g.band := by rw [w64 (by omega) (by omega)]; omega
  rw [e1]
  refine ⟨fun c1 => ⟨by omega, ?_⟩, fun c1 => ⟨fun c2 => ⟨by omega, ?_⟩, fun c2 => ⟨by omega, ?_⟩⟩⟩
  · rw [if_pos c1] at ht hs ⊢
    rw [w64 (n := f - g.band) (by omega) (by omega), w64 (n := Int.tdiv (f - g.band) g.droop) (by omega) (by omega), w64 (by omega) (by omega)]
  · rw [if_neg c1, if_pos c2] at ht hs ⊢
    rw [w64 (n := f + g.band) (by omega) (by omega), w64 (n := Int.tdiv (f + g.band) g.droop) (by omega) (by omega), w64 (by omega) (by omega)]
  · rw [if_neg c1, if_neg c2] at ht hs ⊢
    rw [Int.zero_tdiv, w64 (n := 0) (by omega) (by omega), w64 (by omega) (by omega)]
/-- A number cut into a range. -/
def cut (n a b : Int) : Int := a + n % (b - a + 1)
theorem cut_range (n a b : Int) (h : a ≤ b) : a ≤ cut n a b ∧ cut n a b ≤ b := by
  unfold cut
  have h1 := Int.emod_nonneg n (b := b - a + 1) (by omega)
  have h2 := Int.emod_lt_of_pos n (b := b - a + 1) (by omega)
  omega
theorem s19 (n a b : Int) (ha : -1000000000000 ≤ a) (hb : b ≤ 1000000000000) (hab : a ≤ b) : Aw.Spec Try.prog 19 [] [I n, I a, I b] (Gives (· = I (cut n a b))) := by
  refine Aw.Spec.gives k19 mixed rfl rfl rfl fun E hn hnp hp => ?_
  unfold a19
  simp (config := { maxSteps := 2000000 }) only [Aw.wpC, Aw.opOb, Aw.gdB, Aw.Rnd, Aw.subTm, List.length_map, Int.toNat_natCast, and_self, Aw.wpL, Aw.wpQ, Aw.SeqC, Aw.stops, Aw.Ends, Aw.looks, Aw.renA, Aw.renL, Aw.renT, Aw.renS, Aw.wpO, Aw.aop, Aw.look, Aw.putTm, Aw.St.ev, Aw.St.put, Aw.St.putO, Aw.binAV, Aw.intBin, Aw.strBin, Aw.pickAV, Aw.optInt, Aw.AV.strip, Aw.AV.guard, Aw.AV.cells, Aw.gdOb, Aw.AOp.opds, Aw.AOp.still, Aw.ptrCells, Aw.St.reg, Aw.fillAV, Aw.fillOb, Aw.elsOb, Aw.splice, Aw.firm, Aw.cellish, Aw.AV.shut, Aw.shutAll, Aw.Seq, Aw.Blk, Aw.retS_nil, Aw.mapA, Aw.mapL, Aw.borA, Aw.borOb, Aw.allOb, Aw.tupOf, Aw.params, Aw.Opd.of, Array.toList, Value.cells, List.map_cons, List.map_nil, List.getD_cons_zero, List.getD_cons_succ, List.getD_nil, List.length_cons, List.length_nil, List.take_succ_cons, List.take_zero, List.take_nil, List.drop_zero, List.drop_succ_cons, List.drop_nil, List.set_cons_zero, List.set_cons_succ, List.append_nil, List.nil_append, List.cons_append, List.all_cons, List.all_nil, Nat.reduceBEq, Nat.reduceAdd, Nat.reduceSub, Nat.reduceLeDiff, Nat.reduceEqDiff, Nat.reduceLT, cond_false, cond_true, if_true, if_false, true_and, and_true, Bool.and_true, Bool.true_and, Option.map_some, Option.map_none, reduceCtorEq, false_implies, forall_const, implies_true, forall_eq, imp_self, Bool.cond_false_right, Bool.cond_true_left, beq_true, beq_false, Bool.not_eq_true', Bool.false_eq_true, Nat.zero_add, Nat.add_zero]
  rw [w64 (n := b - a) (by omega) (by omega), w64 (n := b - a + 1) (by omega) (by omega)]
  simp only [decide_eq_true_eq, decide_eq_false_iff_not]
  unfold cut
  have h1 := Int.emod_nonneg n (b := b - a + 1) (by omega)
  have h2 := Int.emod_lt_of_pos n (b := b - a + 1) (by omega)
  have h3 : n.tmod (b - a + 1) = if 0 ≤ n ∨ (b - a + 1) ∣ n then n % (b - a + 1) else n % (b - a + 1) - (b - a + 1) := by
    rw [Int.tmod_eq_emod]; split <;> omega
  refine ⟨by omega, fun h => ?_, fun h => ?_⟩
  · rw [h3] at h ⊢
    split at h
    · omega
    · rename_i hc
      rw [if_neg hc, w64 (n := n % (b - a + 1) - (b - a + 1) + (b - a + 1)) (by omega) (by omega), w64 (by omega) (by omega)]
      congr 3; omega
  · rw [h3] at h ⊢
    split at h
    · rename_i hc
      rw [if_pos hc, w64 (by omega) (by omega)]
    · omega
end Go.Proofs.Ythmehpojcecldaa
