/- Orders: states as bits, which steps may be made. -/
import Derived.Test.YtkbipopkemfhaaaAwZg
import Derived.Test.YtkbipopkemfhaaaOrdD
set_option linter.unusedVariables false
set_option linter.unusedSimpArgs false
namespace Go.Proofs.Ytkbipopkemfhaaa
open Go.Proofs.Ytkbipopkemfhaaa.Aw
attribute [local go_sem] Int.natCast_zero Int.natCast_one bne_self_eq_false beq_self_eq_true Bool.not_true Bool.not_false Option.isSome_none Option.isSome_some Aw.bkM_nil Option.getD_some Option.getD_none Nat.sub_zero Int.toNat_zero Aw.frzS Aw.frzT Aw.frzA Aw.frzL Aw.frzR Aw.frzO Aw.frzOL Aw.frzOT Aw.frzOR Aw.killS Aw.mapT Aw.mapR Aw.killM Aw.resAVs Aw.resAV Aw.quietOps Aw.wpP Aw.wpT Aw.wpS Aw.AOp.mild List.getElem?_cons_zero List.getElem?_cons_succ Bool.and_false Bool.and_self Bool.false_and Aw.opOb Aw.gdB Aw.Rnd Aw.subTm List.length_map Int.toNat_natCast and_self Aw.SeqC Aw.stops Aw.Ends Aw.looks Aw.renA Aw.renL Aw.renT Aw.renS Aw.wpO Aw.aop Aw.putTm Aw.St.ev Aw.St.put Aw.St.putO Aw.binAV Aw.intBin Aw.strBin Aw.pickAV Aw.optInt Aw.AV.strip Aw.AV.guard Aw.AV.cells Aw.gdOb Aw.AOp.opds Aw.AOp.still Aw.ptrCells Aw.St.reg Aw.fillAV Aw.fillOb Aw.elsOb Aw.splice Aw.firm Aw.cellish Aw.AV.shut Aw.shutAll Aw.Seq Aw.Blk Aw.retS_nil Aw.mapA Aw.mapL Aw.borA Aw.borOb Aw.allOb Aw.tupOf Aw.params Aw.Opd.of Array.toList Value.cells List.map_cons List.map_nil List.getD_cons_zero List.getD_cons_succ List.getD_nil List.length_cons List.length_nil List.take_succ_cons List.take_zero List.take_nil List.drop_zero List.drop_succ_cons List.drop_nil List.set_cons_zero List.set_cons_succ List.append_nil List.nil_append List.cons_append List.all_cons List.all_nil cond_false cond_true if_true if_false true_and and_true Bool.and_true Bool.true_and Option.map_some Option.map_none false_implies forall_const implies_true forall_eq imp_self Bool.cond_false_right Bool.cond_true_left beq_true beq_false Bool.not_eq_true' Bool.false_eq_true Nat.zero_add Nat.add_zero Aw.eqCells Aw.stopDraw Aw.skipS Aw.exactCap Aw.revealS Aw.srcEls Aw.srcSz
attribute [local go_sem ↓] Aw.look_nil Aw.look_ite Aw.wpL_nil Aw.wpL_op Aw.wpL_gd Aw.wpQ_nil Aw.wpQ_op Aw.wpQ_gd Aw.wpC_draw Aw.wpC_reg Aw.wpC_skip Aw.wpC_ret Aw.wpC_exit Aw.wpC_seq Aw.wpC_block Aw.wpC_loop Aw.wpC_cond Aw.stopAt_nil Aw.stopAt_cons Aw.wpD_skip Aw.wpD_ret Aw.wpD_exit Aw.wpD_region Aw.wpD_draw Aw.wpM_nil Aw.wpM_op Aw.wpM_gd Aw.wpD_seq Aw.wpD_block Aw.wpD_loop Aw.wpD_cond

/- gridhall/order.states -/
def a35 : ACode :=
  (.seq (.region false [] [
     ⟨(some 4), none, (.mov (.v (.slice none 0 0)))⟩])
  (.seq (.region false [] [
     ⟨(some 6), none, (.mov (.t 0))⟩,
     ⟨(some 7), none, (.call 14 [(.t 6)])⟩,
     ⟨(some 0), none, (.mov (.t 7))⟩])
  (.seq (.seq (.region false [] [
     ⟨(some 8), none, (.mov (.t 0))⟩,
     ⟨(some 9), none, (.len (.t 8))⟩,
     ⟨(some 10), none, (.mov (.v (.int .i64 0)))⟩])
  (.block 0 (.loop (.seq (.region false [] [
       ⟨(some 11), none, (.bin .lss 3 (.t 10) (.t 9))⟩])
    (.seq (.cond (.t 11)
      .skip
      (.exit 0))
    (.seq (.block 1 (.seq (.region false [] [
        ⟨(some 12), none, (.mov (.t 10))⟩,
        ⟨(some 5), none, (.mov (.t 12))⟩])
     (.region false [] [
        ⟨(some 13), none, (.mov (.t 0))⟩,
        ⟨(some 14), none, (.mov (.t 5))⟩,
        ⟨(some 15), none, (.mov (.t 1))⟩,
        ⟨(some 16), none, (.mov (.t 5))⟩,
        ⟨(some 17), none, (.bin .shr 3 (.t 15) (.t 16))⟩,
        ⟨(some 18), none, (.bin .and 3 (.t 17) (.v (.int .i64 1)))⟩,
        ⟨(some 19), none, (.bin .eql 3 (.t 18) (.v (.int .i64 1)))⟩,
        ⟨(some 20), none, (.idx 2 (.t 13) (.t 14))⟩,
        ⟨(some 21), none, (.fld 1 (.t 20))⟩,
        ⟨none, none, (.store 1 (.t 21) (.t 19))⟩])))
    (.region false [] [
       ⟨(some 22), none, (.bin .add 3 (.t 10) (.v (.int .i64 1)))⟩,
       ⟨(some 10), none, (.mov (.t 22))⟩])))))))
  (.seq (.region false [] [
     ⟨(some 23), none, (.mov (.t 0))⟩,
     ⟨(some 4), none, (.mov (.t 23))⟩])
  .ret))))
theorem k35 : FnIs Try.prog 35 24 [.t 4] a35 := ⟨_, _, Try.func35, rfl, by kernel_rfl, by kernel_rfl, rfl⟩
/- gridhall/order.number -/
def a23 : ACode :=
  (.seq (.region false [] [
     ⟨(some 2), none, (.mov (.v (.int .i64 0)))⟩])
  (.seq (.region false [] [
     ⟨(some 3), none, (.mov (.v (.int .i64 0)))⟩])
  (.seq (.seq (.region false [] [
     ⟨(some 6), none, (.mov (.t 0))⟩,
     ⟨(some 7), none, (.len (.t 6))⟩,
     ⟨(some 8), none, (.mov (.v (.int .i64 0)))⟩])
  (.block 0 (.loop (.seq (.region false [] [
       ⟨(some 9), none, (.bin .lss 3 (.t 8) (.t 7))⟩])
    (.seq (.cond (.t 9)
      .skip
      (.exit 0))
    (.seq (.block 1 (.seq (.region false [] [
        ⟨(some 10), none, (.mov (.t 8))⟩,
        ⟨(some 11), none, (.idx 2 (.t 6) (.t 8))⟩,
        ⟨(some 12), none, (.load 2 true (.t 11))⟩,
        ⟨(some 5), none, (.alloc 33 (.agg #[(.string ⟨#[]⟩), (.bool false)]))⟩,
        ⟨(some 4), none, (.mov (.t 10))⟩,
        ⟨none, none, (.store 2 (.t 5) (.t 12))⟩])
     (.seq (.region false [] [
        ⟨(some 13), none, (.fld 1 (.t 5))⟩,
        ⟨(some 14), none, (.load 1 false (.t 13))⟩])
     (.cond (.t 14)
       (.region false [] [
          ⟨(some 15), none, (.mov (.t 3))⟩,
          ⟨(some 16), none, (.mov (.t 4))⟩,
          ⟨(some 17), none, (.bin .shl 3 (.v (.int .i64 1)) (.t 16))⟩,
          ⟨(some 18), none, (.bin .or 3 (.t 15) (.t 17))⟩,
          ⟨(some 3), none, (.mov (.t 18))⟩])
       .skip))))
    (.region false [] [
       ⟨(some 19), none, (.bin .add 3 (.t 8) (.v (.int .i64 1)))⟩,
       ⟨(some 8), none, (.mov (.t 19))⟩])))))))
  (.seq (.region false [] [
     ⟨(some 20), none, (.mov (.t 3))⟩,
     ⟨(some 2), none, (.mov (.t 20))⟩])
  .ret))))
theorem k23 : FnIs Try.prog 23 21 [.t 2] a23 := ⟨_, _, Try.func23, rfl, by kernel_rfl, by kernel_rfl, rfl⟩
/- (*gridhall/order.planner).may -/
def a24 : ACode :=
  (.seq (.region false [] [
     ⟨(some 6), none, (.mov (.v (.bool false)))⟩])
  (.seq (.seq (.region true [[], [0], [1], [2], [], [4], [5], [6], [], [7, 8], [9], [10], [3, 11]] [
     ⟨(some 9), none, (.mov (.t 0))⟩,
     ⟨(some 10), none, (.nilc (.t 9))⟩,
     ⟨(some 11), none, (.fld 2 (.t 10))⟩,
     ⟨(some 12), none, (.load 1 false (.t 11))⟩,
     ⟨(some 13), none, (.mov (.t 0))⟩,
     ⟨(some 14), none, (.nilc (.t 13))⟩,
     ⟨(some 15), none, (.fld 1 (.t 14))⟩,
     ⟨(some 16), none, (.load 1 false (.t 15))⟩,
     ⟨(some 17), none, (.mov (.t 2))⟩,
     ⟨(some 18), none, (.idx 2 (.t 16) (.t 17))⟩,
     ⟨(some 19), none, (.fld 0 (.t 18))⟩,
     ⟨(some 20), none, (.load 1 false (.t 19))⟩,
     ⟨(some 21), none, (.call 28 [(.t 12), (.t 20)])⟩])
  (.cond (.t 21)
    (.seq (.region false [] [
       ⟨(some 6), none, (.mov (.v (.bool false)))⟩])
    .ret)
    .skip))
  (.seq (.region true [[], [0], [1], [2], [], [4], [5], [6], [], [7, 8], [], [], [10, 11], [12], [13], [], [15], [16], [17], [], [18, 19], [20], [21], [3, 9, 14, 22, 9], [23], [24], [24], [25, 23, 0, 1, 2, 3, 4, 5, 6, 7, 8, 9, 10, 11, 12, 13, 14, 15, 16, 17, 18, 19, 20, 21, 22, 23, 24, 25], [26, 27, 0, 1, 2, 3, 4, 5, 6, 7, 8, 9, 10, 11, 12, 13, 14, 15, 16, 17, 18, 19, 20, 21, 22, 23, 24, 25, 26, 27]] [
     ⟨(some 23), none, (.mov (.t 0))⟩,
     ⟨(some 24), none, (.nilc (.t 23))⟩,
     ⟨(some 25), none, (.fld 0 (.t 24))⟩,
     ⟨(some 26), none, (.load 1 false (.t 25))⟩,
     ⟨(some 27), none, (.mov (.t 0))⟩,
     ⟨(some 28), none, (.nilc (.t 27))⟩,
     ⟨(some 29), none, (.fld 1 (.t 28))⟩,
     ⟨(some 30), none, (.load 1 false (.t 29))⟩,
     ⟨(some 31), none, (.mov (.t 1))⟩,
     ⟨(some 32), none, (.call 35 [(.t 30), (.t 31)])⟩,
     ⟨(some 33), none, (.mov (.t 1))⟩,
     ⟨(some 34), none, (.mov (.t 2))⟩,
     ⟨(some 35), none, (.bin .shr 3 (.t 33) (.t 34))⟩,
     ⟨(some 36), none, (.bin .and 3 (.t 35) (.v (.int .i64 1)))⟩,
     ⟨(some 37), none, (.bin .eql 3 (.t 36) (.v (.int .i64 0)))⟩,
     ⟨(some 38), none, (.mov (.t 0))⟩,
     ⟨(some 39), none, (.nilc (.t 38))⟩,
     ⟨(some 40), none, (.fld 1 (.t 39))⟩,
     ⟨(some 41), none, (.load 1 false (.t 40))⟩,
     ⟨(some 42), none, (.mov (.t 2))⟩,
     ⟨(some 43), none, (.idx 2 (.t 41) (.t 42))⟩,
     ⟨(some 44), none, (.fld 0 (.t 43))⟩,
     ⟨(some 45), none, (.load 1 false (.t 44))⟩,
     ⟨(some 46), none, (.call 29 [(.t 26), (.t 32), (.t 37), (.t 45)])⟩,
     ⟨(some 22), none, (.mov (.t 46))⟩,
     ⟨(some 47), none, (.ext 0 (.t 22))⟩,
     ⟨(some 48), none, (.ext 1 (.t 22))⟩,
     ⟨(some 7), none, (.mov (.t 47))⟩,
     ⟨(some 8), none, (.mov (.t 48))⟩])
  (.seq (.region false [] [
     ⟨(some 49), none, (.mov (.t 7))⟩,
     ⟨(some 6), none, (.mov (.t 49))⟩])
  .ret))))
theorem k24 : FnIs Try.prog 24 50 [.t 6] a24 := ⟨_, _, Try.func24, rfl, by kernel_rfl, by kernel_rfl, rfl⟩

/-- The k-th switch operated. -/
def flip (n k : Nat) : Nat := n ^^^ 2 ^ k
theorem bitsX : ∀ n : Fin 256, ∀ k : Fin 8, IntKind.i64.wrap ((BitVec.ofInt 64 (n.val : Int) ^^^ BitVec.ofInt 64 ((2 ^ k.val : Nat) : Int)).toNat) = ((flip n.val k.val : Nat) : Int) := by decide +kernel
theorem bitsO : ∀ n : Fin 256, ∀ k : Fin 8, IntKind.i64.wrap ((BitVec.ofInt 64 (n.val : Int) ||| BitVec.ofInt 64 ((2 ^ k.val : Nat) : Int)).toNat) = ((n.val ||| 2 ^ k.val : Nat) : Int) := by decide +kernel
theorem bitsA : ∀ n : Fin 256, ∀ k : Fin 8, (IntKind.i64.wrap ((BitVec.ofInt 64 ((n.val : Int).fdiv (2 ^ k.val)) &&& BitVec.ofInt 64 1).toNat) == 1) = n.val.testBit k.val := by decide +kernel
theorem bitsA0 : ∀ n : Fin 256, ∀ k : Fin 8, (IntKind.i64.wrap ((BitVec.ofInt 64 ((n.val : Int).fdiv (2 ^ k.val)) &&& BitVec.ofInt 64 1).toNat) == 0) = !n.val.testBit k.val := by decide +kernel
theorem bitsS : ∀ k : Fin 9, IntKind.i64.wrap (1 * 2 ^ k.val) = ((2 ^ k.val : Nat) : Int) := by decide +kernel
theorem bitX {n k : Nat} (hn : n < 256) (hk : k < 8) : IntKind.i64.wrap (BitVec.toNat (w := 64) (@HXor.hXor (BitVec 64) (BitVec 64) (BitVec 64) (@instHXorOfXorOp (BitVec IntKind.i64.bits) (@BitVec.instXorOp IntKind.i64.bits)) (BitVec.ofInt 64 (n : Int)) (BitVec.ofInt 64 ((2 ^ k : Nat) : Int)))) = ((flip n k : Nat) : Int) := bitsX ⟨n, hn⟩ ⟨k, hk⟩
theorem bitO {n k : Nat} (hn : n < 256) (hk : k < 8) : IntKind.i64.wrap (BitVec.toNat (w := 64) (@HOr.hOr (BitVec 64) (BitVec 64) (BitVec 64) (@instHOrOfOrOp (BitVec IntKind.i64.bits) (@BitVec.instOrOp IntKind.i64.bits)) (BitVec.ofInt 64 (n : Int)) (BitVec.ofInt 64 ((2 ^ k : Nat) : Int)))) = ((n ||| 2 ^ k : Nat) : Int) := bitsO ⟨n, hn⟩ ⟨k, hk⟩
theorem bitA {n k : Nat} (hn : n < 256) (hk : k < 8) : (IntKind.i64.wrap (BitVec.toNat (w := 64) (@HAnd.hAnd (BitVec 64) (BitVec 64) (BitVec 64) (@instHAndOfAndOp (BitVec IntKind.i64.bits) (@BitVec.instAndOp IntKind.i64.bits)) (BitVec.ofInt 64 ((n : Int).fdiv (2 ^ k))) (BitVec.ofInt 64 1))) == 1) = n.testBit k := bitsA ⟨n, hn⟩ ⟨k, hk⟩
theorem bitA0 {n k : Nat} (hn : n < 256) (hk : k < 8) : (IntKind.i64.wrap (BitVec.toNat (w := 64) (@HAnd.hAnd (BitVec 64) (BitVec 64) (BitVec 64) (@instHAndOfAndOp (BitVec IntKind.i64.bits) (@BitVec.instAndOp IntKind.i64.bits)) (BitVec.ofInt 64 ((n : Int).fdiv (2 ^ k))) (BitVec.ofInt 64 1))) == 0) = !n.testBit k := bitsA0 ⟨n, hn⟩ ⟨k, hk⟩
theorem bitS {k : Nat} (hk : k < 9) : IntKind.i64.wrap (1 * 2 ^ k) = ((2 ^ k : Nat) : Int) := bitsS ⟨k, hk⟩
/-- The states with certain bits. -/
def stL (l : List Sta) (n : Nat) : List Sta := l.mapIdx fun k s => ⟨s.name, n.testBit k⟩
set_option maxRecDepth 20000 in
theorem s35 (nl fl) (l : List Sta) (n : Nat) (hn8 : l.length ≤ 8) (hn2 : n < 256) : Aw.Spec Try.prog 35 [] [sts' nl fl l, I n] (fun rg v => rg = [] ∧ v = sts' none false (stL l n)) := by
  refine Aw.Spec.regsD k35 mixed rfl rfl rfl fun E hn hnp hp => ?_
  unfold a35
  have pin : ∀ r, E.pin r = none := fun r => hp.none hnp (Nat.zero_le _)
  simp (config := { maxSteps := 2000000 }) only [go_sem, ↓reduceIte, Int.reduceToNat, Nat.reduceMul, Int.reduceBEq, Int.reduceBNe, Nat.reduceBEq, Nat.reduceAdd, Nat.reduceSub, Nat.reduceLeDiff, Nat.reduceEqDiff, Nat.reduceLT, reduceCtorEq]
  refine AWpL.callA [] (o14 nl fl l (by omega)) rfl rfl (by rw [hn]; rfl) rfl (fun r hr => by cases hr) fun rg v hv => ?_
  obtain ⟨rfl, rfl⟩ := hv
  refine ⟨Nat.zero_le _, AWpL.ofM hn rfl ?_⟩
  simp (config := { maxSteps := 2000000 }) only [go_sem, ↓reduceIte, Int.reduceToNat, Nat.reduceMul, Int.reduceBEq, Int.reduceBNe, Nat.reduceBEq, Nat.reduceAdd, Nat.reduceSub, Nat.reduceLeDiff, Nat.reduceEqDiff, Nat.reduceLT, reduceCtorEq, Aw.retS, Aw.retRg, Aw.kpM, Aw.bkM, Aw.pos, Aw.isBox, List.getElem?_nil, List.length_map]
  refine AWp.loop (fun k s => ∃ i : Nat, i + k = l.length ∧ Weak E s ⟨[(0, .hnd 0 0 l.length l.length false), (1, I n), (9, I l.length), (10, I i)], [.arr 33 2 (((stL l n).take i ++ l.drop i).map stc)]⟩) (n := l.length)
    ⟨0, by omega, weak_to [0] hp hnp rfl (by simp (config := { maxSteps := 2000000 }) only [go_sem, ↓reduceIte, Int.reduceToNat, Nat.reduceMul, Int.reduceBEq, Int.reduceBNe, Nat.reduceBEq, Nat.reduceAdd, Nat.reduceSub, Nat.reduceLeDiff, Nat.reduceEqDiff, Nat.reduceLT, reduceCtorEq, Aw.pos, Int.natCast_zero]) (by simp (config := { maxSteps := 2000000 }) only [go_sem, ↓reduceIte, Int.reduceToNat, Nat.reduceMul, Int.reduceBEq, Int.reduceBNe, Nat.reduceBEq, Nat.reduceAdd, Nat.reduceSub, Nat.reduceLeDiff, Nat.reduceEqDiff, Nat.reduceLT, reduceCtorEq, Aw.renR, Aw.pos, List.take_zero])⟩ ?_
  rintro k s ⟨i, hik, hw⟩
  refine AWp.weak hw (AWp.ofD [] [] hn mixed rfl ?_)
  have hsl : (stL l n).length = l.length := by unfold stL; simp
  have hml : ((stL l n).take i ++ l.drop i).length = l.length := by rw [List.length_append, List.length_take, List.length_drop, hsl]; omega
  rcases Nat.lt_or_ge i l.length with hlt | hge
  · have e0 : decide ((i : Int) < (l.length : Int)) = true := decide_eq_true (by omega)
    have e2 : IntKind.i64.wrap ((i : Int) + 1) = ((i + 1 : Nat) : Int) := by rw [w64 (by omega) (by omega)]; omega
    have h64 : min i 64 = i := Nat.min_eq_left (by omega)
    have hb := bitA (n := n) (k := i) hn2 (by omega)
    have e1 : (((stL l n).take i ++ l.drop i).map stc).getD i [] = stc l[i] := by
      rw [getD_map stc (by omega), List.getElem_append_right (by rw [List.length_take]; omega)]
      simp only [List.length_take, hsl, List.getElem_drop]
      congr 2; omega
    have hst : (((stL l n).take i ++ l.drop i).map stc).set i [S l[i].name, B (n.testBit i)] = ((stL l n).take (i + 1) ++ l.drop (i + 1)).map stc := by
      have h7 : [S l[i].name, B (n.testBit i)] = stc ⟨l[i].name, n.testBit i⟩ := rfl
      have h8 : (stL l n).take (i + 1) = (stL l n).take i ++ [⟨l[i].name, n.testBit i⟩] := by
        rw [take_get (by omega)]
        congr 2
        unfold stL; simp
      rw [h7, ← List.map_set, h8, List.set_append, if_neg (by rw [List.length_take]; omega), List.append_assoc]
      congr 2
      rw [List.length_take, hsl, Nat.min_eq_left (by omega), Nat.sub_self, List.drop_eq_getElem_cons hlt]; rfl
    simp (config := { maxSteps := 2000000 }) only [go_sem, ↓reduceIte, Int.reduceToNat, Nat.reduceMul, Int.reduceBEq, Int.reduceBNe, Nat.reduceBEq, Nat.reduceAdd, Nat.reduceSub, Nat.reduceLeDiff, Nat.reduceEqDiff, Nat.reduceLT, reduceCtorEq, e0, e2, e1, List.length_map, hml, h64, hb, hst]
    (repeat (refine And.intro (by first | omega | (refine ⟨by omega, by omega⟩) | (refine ⟨by omega, by omega, by omega⟩) | (simp only [List.length_map, List.length_range, List.length_append, List.length_cons, List.length_nil, List.length_replicate, List.length_set]; omega) | (simp; omega) | (intro hgd; cases hgd) | (intro hgd; refine ⟨hgd, ?_⟩; first | omega | (refine ⟨by omega, by omega⟩) | (simp; omega))) ?_))
    exact ⟨k - 1, by omega, i + 1, by omega, weak_to [0] hp hnp rfl (by simp (config := { maxSteps := 2000000 }) only [go_sem, ↓reduceIte, Int.reduceToNat, Nat.reduceMul, Int.reduceBEq, Int.reduceBNe, Nat.reduceBEq, Nat.reduceAdd, Nat.reduceSub, Nat.reduceLeDiff, Nat.reduceEqDiff, Nat.reduceLT, reduceCtorEq, Aw.pos]) (by simp (config := { maxSteps := 2000000 }) only [go_sem, ↓reduceIte, Int.reduceToNat, Nat.reduceMul, Int.reduceBEq, Int.reduceBNe, Nat.reduceBEq, Nat.reduceAdd, Nat.reduceSub, Nat.reduceLeDiff, Nat.reduceEqDiff, Nat.reduceLT, reduceCtorEq, Aw.renR, Aw.pos])⟩
  · have e0 : decide ((i : Int) < (l.length : Int)) = false := decide_eq_false (by omega)
    rw [List.take_of_length_le (by omega), List.drop_of_length_le hge, List.append_nil]
    simp (config := { maxSteps := 2000000 }) only [go_sem, ↓reduceIte, Int.reduceToNat, Nat.reduceMul, Int.reduceBEq, Int.reduceBNe, Nat.reduceBEq, Nat.reduceAdd, Nat.reduceSub, Nat.reduceLeDiff, Nat.reduceEqDiff, Nat.reduceLT, reduceCtorEq, e0]
    have h5 : ((stL l n).map stc).take l.length = (stL l n).map stc := List.take_of_length_le (by simp; omega)
    refine Retn.weak (weak_freeze 0 rfl (pin 0) (by simp (config := { maxSteps := 2000000 }) only [go_sem, ↓reduceIte, Int.reduceToNat, Nat.reduceMul, Int.reduceBEq, Int.reduceBNe, Nat.reduceBEq, Nat.reduceAdd, Nat.reduceSub, Nat.reduceLeDiff, Nat.reduceEqDiff, Nat.reduceLT, reduceCtorEq, List.length_map, hsl, Nat.le_refl])) _ ?_
    refine Retn.weak (weak_ent 4 (by rfl) (Ent.plain _ _ _ _)) _ (Retn.ret (π := []) hp hnp ⟨rfl, ?_⟩)
    simp (config := { maxSteps := 2000000 }) only [go_sem, ↓reduceIte, Int.reduceToNat, Nat.reduceMul, Int.reduceBEq, Int.reduceBNe, Nat.reduceBEq, Nat.reduceAdd, Nat.reduceSub, Nat.reduceLeDiff, Nat.reduceEqDiff, Nat.reduceLT, reduceCtorEq, h5]
/-- The bits of states. -/
def numGo : Nat → Nat → List Sta → Nat
  | _, n, [] => n
  | k, n, s :: l => numGo (k + 1) (if s.closed = true then n ||| 2 ^ k else n) l
def numF (l : List Sta) : Nat := numGo 0 0 l
theorem numGo_drop {l : List Sta} {j n : Nat} (h : j < l.length) : numGo j n (l.drop j) = numGo (j + 1) (if l[j].closed = true then n ||| 2 ^ j else n) (l.drop (j + 1)) := by
  rw [List.drop_eq_getElem_cons h]; rfl
theorem orlt {n k : Nat} (hn : n < 2 ^ k) : n ||| 2 ^ k < 2 ^ (k + 1) := Nat.or_lt_two_pow (Nat.lt_of_lt_of_le hn (Nat.pow_le_pow_right (by decide) (by omega))) (Nat.pow_lt_pow_right (by decide) (by omega))
theorem numGo_lt : ∀ (l : List Sta) (k n : Nat), n < 2 ^ k → numGo k n l < 2 ^ (k + l.length)
  | [], k, n, h => h
  | s :: l, k, n, h => by
    unfold numGo
    have h1 : (if s.closed = true then n ||| 2 ^ k else n) < 2 ^ (k + 1) := by
      split
      · exact orlt h
      · exact Nat.lt_trans h (Nat.pow_lt_pow_right (by decide) (by omega))
    have := numGo_lt l (k + 1) _ h1
    rw [List.length_cons, show k + (l.length + 1) = k + 1 + l.length by omega]; exact this
theorem numF_lt (l : List Sta) : numF l < 2 ^ l.length := by
  have := numGo_lt l 0 0 (by decide)
  rwa [Nat.zero_add] at this
theorem pow8 {k : Nat} (h : k ≤ 8) : 2 ^ k ≤ 256 := Nat.pow_le_pow_right (by decide) h
set_option maxRecDepth 20000 in
theorem s23 (nl fl) (l : List Sta) (hn8 : l.length ≤ 8) : Aw.Spec Try.prog 23 [] [sts' nl fl l] (Gives (· = I (numF l))) := by
  refine Aw.Spec.givesD k23 mixed rfl rfl rfl fun E hn hnp hp => ?_
  unfold a23
  simp (config := { maxSteps := 2000000 }) only [go_sem, ↓reduceIte, Int.reduceToNat, Nat.reduceMul, Int.reduceBEq, Int.reduceBNe, Nat.reduceBEq, Nat.reduceAdd, Nat.reduceSub, Nat.reduceLeDiff, Nat.reduceEqDiff, Nat.reduceLT, reduceCtorEq]
  refine AWp.loop (fun k s => ∃ (i n : Nat), i + k = l.length ∧ n < 2 ^ i ∧ numF l = numGo i n (l.drop i) ∧ Weak E s ⟨[(3, I n), (6, sts' nl fl l), (7, I l.length), (8, I i)], []⟩) (n := l.length)
    ⟨0, 0, by omega, by decide, rfl, weak_to [] hp hnp rfl (by simp (config := { maxSteps := 2000000 }) only [go_sem, ↓reduceIte, Int.reduceToNat, Nat.reduceMul, Int.reduceBEq, Int.reduceBNe, Nat.reduceBEq, Nat.reduceAdd, Nat.reduceSub, Nat.reduceLeDiff, Nat.reduceEqDiff, Nat.reduceLT, reduceCtorEq, Int.natCast_zero]) rfl⟩ ?_
  rintro k s ⟨i, n, hik, hlt2, hc, hw⟩
  refine AWp.weak hw (AWp.ofD [] [] hn mixed rfl ?_)
  rcases Nat.lt_or_ge i l.length with hlt | hge
  · have e0 : decide ((i : Int) < (l.length : Int)) = true := decide_eq_true (by omega)
    have e1 := getD_map stc hlt
    have e2 : IntKind.i64.wrap ((i : Int) + 1) = ((i + 1 : Nat) : Int) := by rw [w64 (by omega) (by omega)]; omega
    have h64 : min i 64 = i := Nat.min_eq_left (by omega)
    have h256 := pow8 (k := i) (by omega)
    have hb := bitO (n := n) (k := i) (by omega) (by omega)
    have hs := bitS (k := i) (by omega)
    rw [numGo_drop hlt] at hc
    generalize l[i] = x at *
    simp (config := { maxSteps := 2000000 }) only [go_sem, ↓reduceIte, Int.reduceToNat, Nat.reduceMul, Int.reduceBEq, Int.reduceBNe, Nat.reduceBEq, Nat.reduceAdd, Nat.reduceSub, Nat.reduceLeDiff, Nat.reduceEqDiff, Nat.reduceLT, reduceCtorEq, e0, e1, e2, h64, hs, hb]
    (repeat (refine And.intro (by first | omega | (refine ⟨by omega, by omega⟩) | (refine ⟨by omega, by omega, by omega⟩) | (simp only [List.length_map, List.length_range, List.length_append, List.length_cons, List.length_nil, List.length_replicate, List.length_set]; omega) | (simp; omega) | (intro hgd; cases hgd) | (intro hgd; refine ⟨hgd, ?_⟩; first | omega | (refine ⟨by omega, by omega⟩) | (simp; omega))) ?_))
    refine ⟨fun h => ?_, fun h => ?_⟩
    · (repeat (refine And.intro (by first | omega | (refine ⟨by omega, by omega⟩) | (refine ⟨by omega, by omega, by omega⟩) | (simp only [List.length_map, List.length_range, List.length_append, List.length_cons, List.length_nil, List.length_replicate, List.length_set]; omega) | (simp; omega) | (intro hgd; cases hgd) | (intro hgd; refine ⟨hgd, ?_⟩; first | omega | (refine ⟨by omega, by omega⟩) | (simp; omega))) ?_))
      rw [if_pos h] at hc
      exact ⟨k - 1, by omega, i + 1, n ||| 2 ^ i, by omega, orlt hlt2, hc, weak_to [] hp hnp rfl (by simp (config := { maxSteps := 2000000 }) only [go_sem, ↓reduceIte, Int.reduceToNat, Nat.reduceMul, Int.reduceBEq, Int.reduceBNe, Nat.reduceBEq, Nat.reduceAdd, Nat.reduceSub, Nat.reduceLeDiff, Nat.reduceEqDiff, Nat.reduceLT, reduceCtorEq]) rfl⟩
    · rw [if_neg (by simp [h])] at hc
      exact ⟨k - 1, by omega, i + 1, n, by omega, Nat.lt_trans hlt2 (Nat.pow_lt_pow_right (by decide) (by omega)), hc, weak_to [] hp hnp rfl (by simp (config := { maxSteps := 2000000 }) only [go_sem, ↓reduceIte, Int.reduceToNat, Nat.reduceMul, Int.reduceBEq, Int.reduceBNe, Nat.reduceBEq, Nat.reduceAdd, Nat.reduceSub, Nat.reduceLeDiff, Nat.reduceEqDiff, Nat.reduceLT, reduceCtorEq]) rfl⟩
  · have e0 : decide ((i : Int) < (l.length : Int)) = false := decide_eq_false (by omega)
    rw [List.drop_of_length_le hge] at hc
    rw [hc]
    simp (config := { maxSteps := 2000000 }) only [go_sem, ↓reduceIte, Int.reduceToNat, Nat.reduceMul, Int.reduceBEq, Int.reduceBNe, Nat.reduceBEq, Nat.reduceAdd, Nat.reduceSub, Nat.reduceLeDiff, Nat.reduceEqDiff, Nat.reduceLT, reduceCtorEq, e0]
    rfl
end Go.Proofs.Ytkbipopkemfhaaa
