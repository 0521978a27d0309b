/- Rationals: Add, Sub, Mul, Quo, Cmp. -/
import Derived.Test.YtjaakbkneeojnaaDoorAwZl
import Derived.Test.YtjaakbkneeojnaaDoorRatA
set_option linter.unusedVariables false
set_option linter.unusedSimpArgs false
namespace Go.Proofs.YtjaakbkneeojnaaDoor
open Go.Proofs.YtjaakbkneeojnaaDoor.Aw
attribute [local go_sem] Int.natCast_zero Int.natCast_one bne_self_eq_false beq_self_eq_true Bool.not_true Bool.not_false Option.isSome_none Option.isSome_some Aw.bkM_nil Option.getD_some Option.getD_none Nat.sub_zero Int.toNat_zero Aw.frzS Aw.frzT Aw.frzA Aw.frzL Aw.frzR Aw.frzO Aw.frzOL Aw.frzOT Aw.frzOR Aw.killS Aw.mapT Aw.mapR Aw.killM Aw.resAVs Aw.resAV Aw.quietOps Aw.wpP Aw.wpT Aw.wpS Aw.AOp.mild List.getElem?_cons_zero List.getElem?_cons_succ Bool.and_false Bool.and_self Bool.false_and Aw.opOb Aw.gdB Aw.Rnd Aw.subTm List.length_map Int.toNat_natCast and_self Aw.SeqC Aw.stops Aw.Ends Aw.looks Aw.renA Aw.renL Aw.renT Aw.renS Aw.wpO Aw.aop Aw.putTm Aw.St.ev Aw.St.put Aw.St.putO Aw.binAV Aw.intBin Aw.strBin Aw.pickAV Aw.optInt Aw.AV.strip Aw.AV.guard Aw.AV.cells Aw.gdOb Aw.AOp.opds Aw.AOp.still Aw.ptrCells Aw.St.reg Aw.fillAV Aw.fillOb Aw.elsOb Aw.splice Aw.firm Aw.cellish Aw.AV.shut Aw.shutAll Aw.Seq Aw.Blk Aw.retS_nil Aw.mapA Aw.mapL Aw.borA Aw.borOb Aw.allOb Aw.tupOf Aw.params Aw.Opd.of Array.toList Value.cells List.map_cons List.map_nil List.getD_cons_zero List.getD_cons_succ List.getD_nil List.length_cons List.length_nil List.take_succ_cons List.take_zero List.take_nil List.drop_zero List.drop_succ_cons List.drop_nil List.set_cons_zero List.set_cons_succ List.append_nil List.nil_append List.cons_append List.all_cons List.all_nil cond_false cond_true if_true if_false true_and and_true Bool.and_true Bool.true_and Option.map_some Option.map_none false_implies forall_const implies_true forall_eq imp_self Bool.cond_false_right Bool.cond_true_left beq_true beq_false Bool.not_eq_true' Bool.false_eq_true Nat.zero_add Nat.add_zero Aw.eqCells Aw.stopDraw Aw.skipS Aw.exactCap Aw.revealS Aw.srcEls Aw.srcSz
attribute [local go_sem ↓] Aw.look_nil Aw.look_ite Aw.wpL_nil Aw.wpL_op Aw.wpL_gd Aw.wpQ_nil Aw.wpQ_op Aw.wpQ_gd Aw.wpC_draw Aw.wpC_reg Aw.wpC_skip Aw.wpC_ret Aw.wpC_exit Aw.wpC_seq Aw.wpC_block Aw.wpC_loop Aw.wpC_cond Aw.stopAt_nil Aw.stopAt_cons Aw.wpD_skip Aw.wpD_ret Aw.wpD_exit Aw.wpD_region Aw.wpD_draw Aw.wpM_nil Aw.wpM_op Aw.wpM_gd Aw.wpD_seq Aw.wpD_block Aw.wpD_loop Aw.wpD_cond
/- (gridhall/rat.Q).Add -/
def a46 : ACode :=
  (.seq (.region false [] [
     ⟨(some 2), none, (.box 62 (.t 0))⟩,
     ⟨(some 3), none, (.box 62 (.t 1))⟩,
     ⟨(some 4), none, (.alloc 62 (.agg #[(.bool false), (.slice none 0 0), (.slice none 0 0)]))⟩])
  (.seq (.block 0 (.seq (.region false [] [
      ⟨(some 9), none, (.fld 1 (.t 2))⟩,
      ⟨(some 10), none, (.load 1 false (.t 9))⟩,
      ⟨(some 11), none, (.len (.t 10))⟩,
      ⟨(some 12), none, (.bin .eql 3 (.t 11) (.v (.int .i64 0)))⟩,
      ⟨(some 8), none, (.mov (.t 12))⟩])
   (.cond (.t 8)
     (.seq (.region false [] [
        ⟨(some 13), none, (.load 3 true (.t 3))⟩,
        ⟨none, none, (.store 3 (.t 4) (.t 13))⟩])
     .ret)
     (.seq (.region false [] [
        ⟨(some 15), none, (.fld 1 (.t 3))⟩,
        ⟨(some 16), none, (.load 1 false (.t 15))⟩,
        ⟨(some 17), none, (.len (.t 16))⟩,
        ⟨(some 18), none, (.bin .eql 3 (.t 17) (.v (.int .i64 0)))⟩,
        ⟨(some 14), none, (.mov (.t 18))⟩])
     (.cond (.t 14)
       (.seq (.region false [] [
          ⟨(some 19), none, (.load 3 true (.t 2))⟩,
          ⟨none, none, (.store 3 (.t 4) (.t 19))⟩])
       .ret)
       .skip)))))
  (.seq (.region true [[], [0], [], [2], [1, 3, 3], [], [5], [], [7, 4], [6, 8, 8], [4, 9, 0, 1, 2, 3, 4], [9, 10, 0, 1, 2, 3, 4, 5, 6, 7, 8, 9, 10]] [
     ⟨(some 20), none, (.fld 1 (.t 2))⟩,
     ⟨(some 21), none, (.load 1 false (.t 20))⟩,
     ⟨(some 22), none, (.load 3 true (.t 3))⟩,
     ⟨(some 23), none, (.call 68 [(.t 22)])⟩,
     ⟨(some 24), none, (.call 67 [(.t 21), (.t 23)])⟩,
     ⟨(some 25), none, (.fld 1 (.t 3))⟩,
     ⟨(some 26), none, (.load 1 false (.t 25))⟩,
     ⟨(some 27), none, (.load 3 true (.t 2))⟩,
     ⟨(some 28), none, (.call 68 [(.t 27)])⟩,
     ⟨(some 29), none, (.call 67 [(.t 26), (.t 28)])⟩,
     ⟨(some 5), none, (.mov (.t 24))⟩,
     ⟨(some 6), none, (.mov (.t 29))⟩])
  (.seq (.region true [[], [0], [], [2, 1], [1, 3, 3], [4, 4, 0, 1, 2, 3, 4]] [
     ⟨(some 30), none, (.load 3 true (.t 2))⟩,
     ⟨(some 31), none, (.call 68 [(.t 30)])⟩,
     ⟨(some 32), none, (.load 3 true (.t 3))⟩,
     ⟨(some 33), none, (.call 68 [(.t 32)])⟩,
     ⟨(some 34), none, (.call 67 [(.t 31), (.t 33)])⟩,
     ⟨(some 7), none, (.mov (.t 34))⟩])
  (.seq (.seq (.region false [] [
     ⟨(some 35), none, (.fld 0 (.t 2))⟩,
     ⟨(some 36), none, (.load 1 false (.t 35))⟩,
     ⟨(some 37), none, (.fld 0 (.t 3))⟩,
     ⟨(some 38), none, (.load 1 false (.t 37))⟩,
     ⟨(some 39), none, (.beq false (.t 36) (.t 38))⟩])
  (.cond (.t 39)
    (.seq (.region true [[], [0], [], [], [2, 3], [], [1, 4, 5, 4], [6, 6, 0, 1, 2, 3, 4, 5, 6]] [
       ⟨(some 40), none, (.fld 0 (.t 2))⟩,
       ⟨(some 41), none, (.load 1 false (.t 40))⟩,
       ⟨(some 42), none, (.mov (.t 5))⟩,
       ⟨(some 43), none, (.mov (.t 6))⟩,
       ⟨(some 44), none, (.call 69 [(.t 42), (.t 43)])⟩,
       ⟨(some 45), none, (.mov (.t 7))⟩,
       ⟨(some 46), none, (.call 50 [(.t 41), (.t 44), (.t 45)])⟩,
       ⟨none, none, (.store 3 (.t 4) (.t 46))⟩])
    .ret)
    .skip))
  (.seq (.seq (.region false [] [
     ⟨(some 47), none, (.mov (.t 5))⟩,
     ⟨(some 48), none, (.mov (.t 6))⟩,
     ⟨(some 49), none, (.call 70 [(.t 47), (.t 48)])⟩,
     ⟨(some 50), none, (.bin .geq 3 (.t 49) (.v (.int .i64 0)))⟩])
  (.cond (.t 50)
    (.seq (.region true [[], [0], [], [], [2, 3], [], [1, 4, 5, 4], [6, 6, 0, 1, 2, 3, 4, 5, 6]] [
       ⟨(some 51), none, (.fld 0 (.t 2))⟩,
       ⟨(some 52), none, (.load 1 false (.t 51))⟩,
       ⟨(some 53), none, (.mov (.t 5))⟩,
       ⟨(some 54), none, (.mov (.t 6))⟩,
       ⟨(some 55), none, (.call 71 [(.t 53), (.t 54)])⟩,
       ⟨(some 56), none, (.mov (.t 7))⟩,
       ⟨(some 57), none, (.call 50 [(.t 52), (.t 55), (.t 56)])⟩,
       ⟨none, none, (.store 3 (.t 4) (.t 57))⟩])
    .ret)
    .skip))
  (.seq (.region true [[], [0], [], [], [2, 3], [], [1, 4, 5, 4], [6, 6, 0, 1, 2, 3, 4, 5, 6]] [
     ⟨(some 58), none, (.fld 0 (.t 3))⟩,
     ⟨(some 59), none, (.load 1 false (.t 58))⟩,
     ⟨(some 60), none, (.mov (.t 6))⟩,
     ⟨(some 61), none, (.mov (.t 5))⟩,
     ⟨(some 62), none, (.call 71 [(.t 60), (.t 61)])⟩,
     ⟨(some 63), none, (.mov (.t 7))⟩,
     ⟨(some 64), none, (.call 50 [(.t 59), (.t 62), (.t 63)])⟩,
     ⟨none, none, (.store 3 (.t 4) (.t 64))⟩])
  .ret)))))))
theorem k46 : FnIs Tryd.prog 46 65 [.c 4 3 true] a46 := ⟨_, _, Tryd.func46, rfl, by kernel_rfl, by kernel_rfl, rfl⟩
/- (gridhall/rat.Q).Sub -/
def a48 : ACode :=
  (.seq (.region false [] [
     ⟨(some 2), none, (.box 62 (.t 0))⟩,
     ⟨(some 3), none, (.box 62 (.t 1))⟩,
     ⟨(some 4), none, (.alloc 62 (.agg #[(.bool false), (.slice none 0 0), (.slice none 0 0)]))⟩])
  (.seq (.region true [[], [], [1], [0, 2, 2], [3, 3, 0, 1, 2, 3]] [
     ⟨(some 5), none, (.load 3 true (.t 2))⟩,
     ⟨(some 6), none, (.load 3 true (.t 3))⟩,
     ⟨(some 7), none, (.call 74 [(.t 6)])⟩,
     ⟨(some 8), none, (.call 46 [(.t 5), (.t 7)])⟩,
     ⟨none, none, (.store 3 (.t 4) (.t 8))⟩])
  .ret))
theorem k48 : FnIs Tryd.prog 48 9 [.c 4 3 true] a48 := ⟨_, _, Tryd.func48, rfl, by kernel_rfl, by kernel_rfl, rfl⟩
/- (gridhall/rat.Q).Mul -/
def a43 : ACode :=
  (.seq (.region false [] [
     ⟨(some 2), none, (.box 62 (.t 0))⟩,
     ⟨(some 3), none, (.box 62 (.t 1))⟩,
     ⟨(some 4), none, (.alloc 62 (.agg #[(.bool false), (.slice none 0 0), (.slice none 0 0)]))⟩])
  (.seq (.seq (.region false [] [
     ⟨(some 5), none, (.fld 1 (.t 2))⟩,
     ⟨(some 6), none, (.load 1 false (.t 5))⟩,
     ⟨(some 7), none, (.len (.t 6))⟩,
     ⟨(some 8), none, (.bin .eql 3 (.t 7) (.v (.int .i64 0)))⟩,
     ⟨(some 9), none, (.mov (.t 8))⟩,
     ⟨(some 10), (some (9, false)), (.fld 1 (.t 3))⟩,
     ⟨(some 11), (some (9, false)), (.load 1 false (.t 10))⟩,
     ⟨(some 12), (some (9, false)), (.len (.t 11))⟩,
     ⟨(some 13), (some (9, false)), (.bin .eql 3 (.t 12) (.v (.int .i64 0)))⟩,
     ⟨(some 14), none, (.pick (.t 9) (.v (.bool true)) (.t 13))⟩])
  (.cond (.t 14)
    (.seq (.region false [] [
       ⟨(some 15), none, (.build (.agg #[(.bool false), (.slice none 0 0), (.slice none 0 0)]) [])⟩,
       ⟨none, none, (.store 3 (.t 4) (.t 15))⟩])
    .ret)
    .skip))
  (.seq (.region true [[], [0], [], [2], [1, 3], [], [5], [], [7], [6, 8], [], [10, 9], [], [12, 11], [11, 13, 13], [4, 9, 14, 14], [15, 15, 0, 1, 2, 3, 4, 5, 6, 7, 8, 9, 10, 11, 12, 13, 14, 15]] [
     ⟨(some 16), none, (.fld 0 (.t 2))⟩,
     ⟨(some 17), none, (.load 1 false (.t 16))⟩,
     ⟨(some 18), none, (.fld 0 (.t 3))⟩,
     ⟨(some 19), none, (.load 1 false (.t 18))⟩,
     ⟨(some 20), none, (.beq true (.t 17) (.t 19))⟩,
     ⟨(some 21), none, (.fld 1 (.t 2))⟩,
     ⟨(some 22), none, (.load 1 false (.t 21))⟩,
     ⟨(some 23), none, (.fld 1 (.t 3))⟩,
     ⟨(some 24), none, (.load 1 false (.t 23))⟩,
     ⟨(some 25), none, (.call 67 [(.t 22), (.t 24)])⟩,
     ⟨(some 26), none, (.load 3 true (.t 2))⟩,
     ⟨(some 27), none, (.call 68 [(.t 26)])⟩,
     ⟨(some 28), none, (.load 3 true (.t 3))⟩,
     ⟨(some 29), none, (.call 68 [(.t 28)])⟩,
     ⟨(some 30), none, (.call 67 [(.t 27), (.t 29)])⟩,
     ⟨(some 31), none, (.call 50 [(.t 20), (.t 25), (.t 30)])⟩,
     ⟨none, none, (.store 3 (.t 4) (.t 31))⟩])
  .ret)))
theorem k43 : FnIs Tryd.prog 43 32 [.c 4 3 true] a43 := ⟨_, _, Tryd.func43, rfl, by kernel_rfl, by kernel_rfl, rfl⟩
/- (gridhall/rat.Q).Quo -/
def a52 : ACode :=
  (.seq (.region false [] [
     ⟨(some 2), none, (.box 62 (.t 0))⟩,
     ⟨(some 3), none, (.box 62 (.t 1))⟩,
     ⟨(some 4), none, (.alloc 62 (.agg #[(.bool false), (.slice none 0 0), (.slice none 0 0)]))⟩])
  (.seq (.seq (.region false [] [
     ⟨(some 5), none, (.fld 1 (.t 2))⟩,
     ⟨(some 6), none, (.load 1 false (.t 5))⟩,
     ⟨(some 7), none, (.len (.t 6))⟩,
     ⟨(some 8), none, (.bin .eql 3 (.t 7) (.v (.int .i64 0)))⟩,
     ⟨(some 9), none, (.mov (.t 8))⟩,
     ⟨(some 10), (some (9, false)), (.fld 1 (.t 3))⟩,
     ⟨(some 11), (some (9, false)), (.load 1 false (.t 10))⟩,
     ⟨(some 12), (some (9, false)), (.len (.t 11))⟩,
     ⟨(some 13), (some (9, false)), (.bin .eql 3 (.t 12) (.v (.int .i64 0)))⟩,
     ⟨(some 14), none, (.pick (.t 9) (.v (.bool true)) (.t 13))⟩])
  (.cond (.t 14)
    (.seq (.region false [] [
       ⟨(some 15), none, (.build (.agg #[(.bool false), (.slice none 0 0), (.slice none 0 0)]) [])⟩,
       ⟨none, none, (.store 3 (.t 4) (.t 15))⟩])
    .ret)
    .skip))
  (.seq (.region true [[], [0], [], [2], [1, 3], [], [5], [], [7], [6, 8, 8], [], [10, 9], [], [12], [11, 13, 11], [4, 9, 14, 14], [15, 15, 0, 1, 2, 3, 4, 5, 6, 7, 8, 9, 10, 11, 12, 13, 14, 15]] [
     ⟨(some 16), none, (.fld 0 (.t 2))⟩,
     ⟨(some 17), none, (.load 1 false (.t 16))⟩,
     ⟨(some 18), none, (.fld 0 (.t 3))⟩,
     ⟨(some 19), none, (.load 1 false (.t 18))⟩,
     ⟨(some 20), none, (.beq true (.t 17) (.t 19))⟩,
     ⟨(some 21), none, (.fld 1 (.t 2))⟩,
     ⟨(some 22), none, (.load 1 false (.t 21))⟩,
     ⟨(some 23), none, (.load 3 true (.t 3))⟩,
     ⟨(some 24), none, (.call 68 [(.t 23)])⟩,
     ⟨(some 25), none, (.call 67 [(.t 22), (.t 24)])⟩,
     ⟨(some 26), none, (.load 3 true (.t 2))⟩,
     ⟨(some 27), none, (.call 68 [(.t 26)])⟩,
     ⟨(some 28), none, (.fld 1 (.t 3))⟩,
     ⟨(some 29), none, (.load 1 false (.t 28))⟩,
     ⟨(some 30), none, (.call 67 [(.t 27), (.t 29)])⟩,
     ⟨(some 31), none, (.call 50 [(.t 20), (.t 25), (.t 30)])⟩,
     ⟨none, none, (.store 3 (.t 4) (.t 31))⟩])
  .ret)))
theorem k52 : FnIs Tryd.prog 52 32 [.c 4 3 true] a52 := ⟨_, _, Tryd.func52, rfl, by kernel_rfl, by kernel_rfl, rfl⟩
/- (gridhall/rat.Q).Cmp -/
def a62 : ACode :=
  (.seq (.region false [] [
     ⟨(some 2), none, (.box 62 (.t 0))⟩,
     ⟨(some 3), none, (.box 62 (.t 1))⟩,
     ⟨(some 4), none, (.mov (.v (.int .i64 0)))⟩])
  (.seq (.region false [] [
     ⟨(some 5), none, (.load 3 true (.t 2))⟩,
     ⟨(some 6), none, (.load 3 true (.t 3))⟩,
     ⟨(some 7), none, (.call 48 [(.t 5), (.t 6)])⟩,
     ⟨(some 8), none, (.call 78 [(.t 7)])⟩,
     ⟨(some 4), none, (.mov (.t 8))⟩])
  .ret))
theorem k62 : FnIs Tryd.prog 62 9 [.t 4] a62 := ⟨_, _, Tryd.func62, rfl, by kernel_rfl, by kernel_rfl, rfl⟩

/-- The size of a rational. -/
def QB (k : Nat) (q : QQ) : Prop := nl q.num ≤ k ∧ nl q.den ≤ k
theorem whole_pos (q : QQ) : 0 < q.whole := by
  unfold QQ.whole
  split <;> omega
theorem whole_nl {q : QQ} {k : Nat} (h : QB k q) (hk : 1 ≤ k) : nl q.whole ≤ k := by
  unfold QQ.whole
  split
  · rw [nl_one]; exact hk
  · exact h.2
def addQ (a b : QQ) : QQ :=
  if a.num = 0 then b else if b.num = 0 then a else
  if a.neg = b.neg then lowQ a.neg (a.num * b.whole + b.num * a.whole) (a.whole * b.whole)
  else if b.num * a.whole ≤ a.num * b.whole then lowQ a.neg (a.num * b.whole - b.num * a.whole) (a.whole * b.whole)
  else lowQ b.neg (b.num * a.whole - a.num * b.whole) (a.whole * b.whole)
def subQ (a b : QQ) : QQ := addQ a b.negQ
def mulQ (a b : QQ) : QQ := if a.num = 0 ∨ b.num = 0 then QQ.zero else lowQ (a.neg != b.neg) (a.num * b.num) (a.whole * b.whole)
def quoQ (a b : QQ) : QQ := if a.num = 0 ∨ b.num = 0 then QQ.zero else lowQ (a.neg != b.neg) (a.num * b.whole) (a.whole * b.num)
theorem cmpN_ge {n m : Nat} : decide (cmpN n m ≥ 0) = decide (m ≤ n) := by
  unfold cmpN
  by_cases h : n < m
  · rw [if_pos h, decide_eq_false (show ¬ m ≤ n by omega)]; rfl
  · rw [if_neg h, decide_eq_true (show m ≤ n by omega)]
    by_cases h2 : n = m
    · rw [if_pos h2]; rfl
    · rw [if_neg h2]; rfl
set_option maxRecDepth 20000 in
theorem s46 (a b : QQ) (ha : QB 300000 a) (hb : QB 300000 b) : Aw.Spec Tryd.prog 46 [] [qv a, qv b] (fun rg v => rg = [] ∧ v = qv (addQ a b)) := by
  refine Spec.shut (Post := fun rg v => v = qv (addQ a b)) ?_ fun rg v h => by subst h; exact ⟨rfl, rfl, rfl⟩
  refine Aw.Spec.regsW k46 rfl rfl fun E hn hnp hp => ?_
  unfold a46
  have pin : ∀ r, E.pin r = none := fun r => hp.none hnp (Nat.zero_le _)
  refine AWp.ofD [999] [] hn mixed rfl ?_
  simp (config := { maxSteps := 2000000 }) only [go_sem, ↓reduceIte, Int.reduceToNat, Nat.reduceMul, Int.reduceBEq, Int.reduceBNe, Nat.reduceBEq, Nat.reduceAdd, Nat.reduceSub, Nat.reduceLeDiff, Nat.reduceEqDiff, Nat.reduceLT, reduceCtorEq, len_beq]
  unfold addQ
  refine ⟨fun h => ?_, fun h => ⟨fun h2 => ?_, fun h2 => ?_⟩⟩
  · rw [if_pos (of_decide_eq_true h)]
    refine Retn.ret (π := [2]) hp hnp ⟨rfl, ?_⟩
    simp (config := { maxSteps := 2000000 }) only [go_sem, ↓reduceIte, Int.reduceToNat, Nat.reduceMul, Int.reduceBEq, Int.reduceBNe, Nat.reduceBEq, Nat.reduceAdd, Nat.reduceSub, Nat.reduceLeDiff, Nat.reduceEqDiff, Nat.reduceLT, reduceCtorEq, Aw.renR, Aw.pos]
  · rw [if_neg (of_decide_eq_false h), if_pos (of_decide_eq_true h2)]
    refine Retn.ret (π := [2]) hp hnp ⟨rfl, ?_⟩
    simp (config := { maxSteps := 2000000 }) only [go_sem, ↓reduceIte, Int.reduceToNat, Nat.reduceMul, Int.reduceBEq, Int.reduceBNe, Nat.reduceBEq, Nat.reduceAdd, Nat.reduceSub, Nat.reduceLeDiff, Nat.reduceEqDiff, Nat.reduceLT, reduceCtorEq, Aw.renR, Aw.pos]
  rw [if_neg (of_decide_eq_false h), if_neg (of_decide_eq_false h2)]
  have hwa := whole_nl ha (by decide)
  have hwb := whole_nl hb (by decide)
  have hx := nl_mul a.num b.whole
  have hy := nl_mul b.num a.whole
  have hd := nl_mul a.whole b.whole
  have hdp : 0 < a.whole * b.whole := Nat.mul_pos (whole_pos a) (whole_pos b)
  obtain ⟨ha1, ha2⟩ := ha
  obtain ⟨hb1, hb2⟩ := hb
  refine AWp.cut ⟨[(2, .ptr 0 0 0), (3, .ptr 1 0 0), (4, .ptr 2 0 0), (5, nv (a.num * b.whole)), (6, nv (b.num * a.whole))], [.box 62 [B a.neg, nv a.num, nv a.den], .box 62 [B b.neg, nv b.num, nv b.den], .box 62 [B false, .val (.slice none 0 0), .val (.slice none 0 0)]]⟩ ?_ ?_
  · refine AWp.plan (.take 0 [false, false, true, true, false, true, true, true, false, false, false, false] (.take 1 [true, false, true, true, false, true, true, true, false, false, false, false] (.take 2 [true, true, false, false, false, true, true, true, false, false, false, false] (.take 5 [true, true, true, true, true, false, false, true, true, false, false, false] (.take 6 [true, true, true, true, true, true, false, true, true, false, false, false] (.take 7 [true, true, true, true, true, true, true, false, false, false, false, false] (.one 3 (.one 4 (.one 8 (.one 9 (.take 10 [true, true, true, true, true, true, true, true, true, true, false, false] (.take 11 [true, true, true, true, true, true, true, true, true, true, true, false] .done)))))))))))) [true, true, true, true, true, true, true, true, true, true, true, true] mixed hn rfl rfl ?_
    simp (config := { maxSteps := 2000000 }) only [go_sem, ↓reduceIte, Int.reduceToNat, Nat.reduceMul, Int.reduceBEq, Int.reduceBNe, Nat.reduceBEq, Nat.reduceAdd, Nat.reduceSub, Nat.reduceLeDiff, Nat.reduceEqDiff, Nat.reduceLT, reduceCtorEq]
    repeat' first | (refine And.intro ?_ ?_) | (refine AOne.callA (s68 a) rfl (by rw [hn]; rfl) (fun rg v hv => ?_); obtain ⟨rfl, rfl⟩ := hv; rw [retS_nil]; simp (config := { maxSteps := 2000000 }) only [go_sem, ↓reduceIte, Int.reduceToNat, Nat.reduceMul, Int.reduceBEq, Int.reduceBNe, Nat.reduceBEq, Nat.reduceAdd, Nat.reduceSub, Nat.reduceLeDiff, Nat.reduceEqDiff, Nat.reduceLT, reduceCtorEq]) | (refine AOne.callA (s68 b) rfl (by rw [hn]; rfl) (fun rg v hv => ?_); obtain ⟨rfl, rfl⟩ := hv; rw [retS_nil]; simp (config := { maxSteps := 2000000 }) only [go_sem, ↓reduceIte, Int.reduceToNat, Nat.reduceMul, Int.reduceBEq, Int.reduceBNe, Nat.reduceBEq, Nat.reduceAdd, Nat.reduceSub, Nat.reduceLeDiff, Nat.reduceEqDiff, Nat.reduceLT, reduceCtorEq]) | (refine AOne.callA (s67 a.num b.whole (by omega) (by omega)) rfl (by rw [hn]; rfl) (fun rg v hv => ?_); obtain ⟨rfl, rfl⟩ := hv; rw [retS_nil]; simp (config := { maxSteps := 2000000 }) only [go_sem, ↓reduceIte, Int.reduceToNat, Nat.reduceMul, Int.reduceBEq, Int.reduceBNe, Nat.reduceBEq, Nat.reduceAdd, Nat.reduceSub, Nat.reduceLeDiff, Nat.reduceEqDiff, Nat.reduceLT, reduceCtorEq]) | (refine AOne.callA (s67 b.num a.whole (by omega) (by omega)) rfl (by rw [hn]; rfl) (fun rg v hv => ?_); obtain ⟨rfl, rfl⟩ := hv; rw [retS_nil]; simp (config := { maxSteps := 2000000 }) only [go_sem, ↓reduceIte, Int.reduceToNat, Nat.reduceMul, Int.reduceBEq, Int.reduceBNe, Nat.reduceBEq, Nat.reduceAdd, Nat.reduceSub, Nat.reduceLeDiff, Nat.reduceEqDiff, Nat.reduceLT, reduceCtorEq]) | exact weak_tm (by simp (config := { maxSteps := 2000000 }) only [go_sem, ↓reduceIte, Int.reduceToNat, Nat.reduceMul, Int.reduceBEq, Int.reduceBNe, Nat.reduceBEq, Nat.reduceAdd, Nat.reduceSub, Nat.reduceLeDiff, Nat.reduceEqDiff, Nat.reduceLT, reduceCtorEq])
  generalize hX : a.num * b.whole = X at *
  generalize hY : b.num * a.whole = Y at *
  simp (config := { maxSteps := 2000000 }) only [go_sem, ↓reduceIte, Int.reduceToNat, Nat.reduceMul, Int.reduceBEq, Int.reduceBNe, Nat.reduceBEq, Nat.reduceAdd, Nat.reduceSub, Nat.reduceLeDiff, Nat.reduceEqDiff, Nat.reduceLT, reduceCtorEq]
  refine AWp.cut ⟨[(2, .ptr 0 0 0), (3, .ptr 1 0 0), (4, .ptr 2 0 0), (5, nv X), (6, nv Y), (7, nv (a.whole * b.whole))], [.box 62 [B a.neg, nv a.num, nv a.den], .box 62 [B b.neg, nv b.num, nv b.den], .box 62 [B false, .val (.slice none 0 0), .val (.slice none 0 0)]]⟩ ?_ ?_
  · refine AWp.plan (.take 0 [false, false, true, false, false, false] (.take 2 [true, true, false, false, false, false] (.one 1 (.one 3 (.one 4 (.take 5 [true, true, true, true, true, false] .done)))))) [true, true, true, true, true, true] mixed hn rfl rfl ?_
    simp (config := { maxSteps := 2000000 }) only [go_sem, ↓reduceIte, Int.reduceToNat, Nat.reduceMul, Int.reduceBEq, Int.reduceBNe, Nat.reduceBEq, Nat.reduceAdd, Nat.reduceSub, Nat.reduceLeDiff, Nat.reduceEqDiff, Nat.reduceLT, reduceCtorEq]
    repeat' first | (refine And.intro ?_ ?_) | (refine AOne.callA (s68 a) rfl (by rw [hn]; rfl) (fun rg v hv => ?_); obtain ⟨rfl, rfl⟩ := hv; rw [retS_nil]; simp (config := { maxSteps := 2000000 }) only [go_sem, ↓reduceIte, Int.reduceToNat, Nat.reduceMul, Int.reduceBEq, Int.reduceBNe, Nat.reduceBEq, Nat.reduceAdd, Nat.reduceSub, Nat.reduceLeDiff, Nat.reduceEqDiff, Nat.reduceLT, reduceCtorEq]) | (refine AOne.callA (s68 b) rfl (by rw [hn]; rfl) (fun rg v hv => ?_); obtain ⟨rfl, rfl⟩ := hv; rw [retS_nil]; simp (config := { maxSteps := 2000000 }) only [go_sem, ↓reduceIte, Int.reduceToNat, Nat.reduceMul, Int.reduceBEq, Int.reduceBNe, Nat.reduceBEq, Nat.reduceAdd, Nat.reduceSub, Nat.reduceLeDiff, Nat.reduceEqDiff, Nat.reduceLT, reduceCtorEq]) | (refine AOne.callA (s67 a.whole b.whole (by omega) (by omega)) rfl (by rw [hn]; rfl) (fun rg v hv => ?_); obtain ⟨rfl, rfl⟩ := hv; rw [retS_nil]; simp (config := { maxSteps := 2000000 }) only [go_sem, ↓reduceIte, Int.reduceToNat, Nat.reduceMul, Int.reduceBEq, Int.reduceBNe, Nat.reduceBEq, Nat.reduceAdd, Nat.reduceSub, Nat.reduceLeDiff, Nat.reduceEqDiff, Nat.reduceLT, reduceCtorEq]) | exact weak_tm (by simp (config := { maxSteps := 2000000 }) only [go_sem, ↓reduceIte, Int.reduceToNat, Nat.reduceMul, Int.reduceBEq, Int.reduceBNe, Nat.reduceBEq, Nat.reduceAdd, Nat.reduceSub, Nat.reduceLeDiff, Nat.reduceEqDiff, Nat.reduceLT, reduceCtorEq])
  generalize hD : a.whole * b.whole = D at *
  simp (config := { maxSteps := 2000000 }) only [go_sem, ↓reduceIte, Int.reduceToNat, Nat.reduceMul, Int.reduceBEq, Int.reduceBNe, Nat.reduceBEq, Nat.reduceAdd, Nat.reduceSub, Nat.reduceLeDiff, Nat.reduceEqDiff, Nat.reduceLT, reduceCtorEq]
  have hXY := nl_add X Y
  refine ⟨fun h3 => ?_, fun h3 => ?_⟩
  · rw [if_pos (by simpa using h3)]
    refine AWp.plan (.take 0 [false, false, true, true, true, true, false, false] (.take 1 [true, false, true, true, true, true, false, false] (.take 2 [true, true, false, true, false, true, false, false] (.take 3 [true, true, true, false, false, true, false, false] (.take 5 [true, true, true, true, true, false, false, false] (.one 4 (.one 6 (.one 7 .done)))))))) [true, true, true, true, true, true, true, false] mixed hn rfl rfl ?_
    simp (config := { maxSteps := 2000000 }) only [go_sem, ↓reduceIte, Int.reduceToNat, Nat.reduceMul, Int.reduceBEq, Int.reduceBNe, Nat.reduceBEq, Nat.reduceAdd, Nat.reduceSub, Nat.reduceLeDiff, Nat.reduceEqDiff, Nat.reduceLT, reduceCtorEq]
    repeat' first | (refine And.intro ?_ ?_) | (refine AOne.callA (s69 X Y (by omega) (by omega)) rfl (by rw [hn]; rfl) (fun rg v hv => ?_); obtain ⟨rfl, rfl⟩ := hv; rw [retS_nil]; simp (config := { maxSteps := 2000000 }) only [go_sem, ↓reduceIte, Int.reduceToNat, Nat.reduceMul, Int.reduceBEq, Int.reduceBNe, Nat.reduceBEq, Nat.reduceAdd, Nat.reduceSub, Nat.reduceLeDiff, Nat.reduceEqDiff, Nat.reduceLT, reduceCtorEq]) | (refine AOne.callA (s50 a.neg (X + Y) D hdp (by omega) (by omega)) rfl (by rw [hn]; rfl) (fun rg v hv => ?_); obtain ⟨rfl, rfl⟩ := hv; rw [retS_nil]; simp (config := { maxSteps := 2000000 }) only [go_sem, ↓reduceIte, Int.reduceToNat, Nat.reduceMul, Int.reduceBEq, Int.reduceBNe, Nat.reduceBEq, Nat.reduceAdd, Nat.reduceSub, Nat.reduceLeDiff, Nat.reduceEqDiff, Nat.reduceLT, reduceCtorEq])
    refine Retn.ret (π := [2]) hp hnp ⟨rfl, ?_⟩
    simp (config := { maxSteps := 2000000 }) only [go_sem, ↓reduceIte, Int.reduceToNat, Nat.reduceMul, Int.reduceBEq, Int.reduceBNe, Nat.reduceBEq, Nat.reduceAdd, Nat.reduceSub, Nat.reduceLeDiff, Nat.reduceEqDiff, Nat.reduceLT, reduceCtorEq, Aw.renR, Aw.pos]
  rw [if_neg (by simpa using h3)]
  refine AWpL.calle (s70 X Y (by unfold nl at *; omega) (by unfold nl at *; omega)) rfl (by rw [hn]; rfl) (by simp (config := { maxSteps := 2000000 }) only [go_sem, ↓reduceIte, Int.reduceToNat, Nat.reduceMul, Int.reduceBEq, Int.reduceBNe, Nat.reduceBEq, Nat.reduceAdd, Nat.reduceSub, Nat.reduceLeDiff, Nat.reduceEqDiff, Nat.reduceLT, reduceCtorEq]) (AWpL.ofM hn rfl ?_)
  simp (config := { maxSteps := 2000000 }) only [go_sem, ↓reduceIte, Int.reduceToNat, Nat.reduceMul, Int.reduceBEq, Int.reduceBNe, Nat.reduceBEq, Nat.reduceAdd, Nat.reduceSub, Nat.reduceLeDiff, Nat.reduceEqDiff, Nat.reduceLT, reduceCtorEq, cmpN_ge]
  refine ⟨fun h4 => ?_, fun h4 => ?_⟩
  · have h5 := of_decide_eq_true h4
    rw [if_pos h5]
    have hXY2 : nl (X - Y) ≤ nl X := nl_mono (Nat.sub_le _ _)
    refine AWp.plan (.take 0 [false, false, true, true, true, true, false, false] (.take 1 [true, false, true, true, true, true, false, false] (.take 2 [true, true, false, true, false, true, false, false] (.take 3 [true, true, true, false, false, true, false, false] (.take 5 [true, true, true, true, true, false, false, false] (.one 4 (.one 6 (.one 7 .done)))))))) [true, true, true, true, true, true, true, false] mixed hn rfl rfl ?_
    simp (config := { maxSteps := 2000000 }) only [go_sem, ↓reduceIte, Int.reduceToNat, Nat.reduceMul, Int.reduceBEq, Int.reduceBNe, Nat.reduceBEq, Nat.reduceAdd, Nat.reduceSub, Nat.reduceLeDiff, Nat.reduceEqDiff, Nat.reduceLT, reduceCtorEq]
    repeat' first | (refine And.intro ?_ ?_) | (refine AOne.callA (s71 X Y h5 (by omega)) rfl (by rw [hn]; rfl) (fun rg v hv => ?_); obtain ⟨rfl, rfl⟩ := hv; rw [retS_nil]; simp (config := { maxSteps := 2000000 }) only [go_sem, ↓reduceIte, Int.reduceToNat, Nat.reduceMul, Int.reduceBEq, Int.reduceBNe, Nat.reduceBEq, Nat.reduceAdd, Nat.reduceSub, Nat.reduceLeDiff, Nat.reduceEqDiff, Nat.reduceLT, reduceCtorEq]) | (refine AOne.callA (s50 a.neg (X - Y) D hdp (by omega) (by omega)) rfl (by rw [hn]; rfl) (fun rg v hv => ?_); obtain ⟨rfl, rfl⟩ := hv; rw [retS_nil]; simp (config := { maxSteps := 2000000 }) only [go_sem, ↓reduceIte, Int.reduceToNat, Nat.reduceMul, Int.reduceBEq, Int.reduceBNe, Nat.reduceBEq, Nat.reduceAdd, Nat.reduceSub, Nat.reduceLeDiff, Nat.reduceEqDiff, Nat.reduceLT, reduceCtorEq])
    refine Retn.ret (π := [2]) hp hnp ⟨rfl, ?_⟩
    simp (config := { maxSteps := 2000000 }) only [go_sem, ↓reduceIte, Int.reduceToNat, Nat.reduceMul, Int.reduceBEq, Int.reduceBNe, Nat.reduceBEq, Nat.reduceAdd, Nat.reduceSub, Nat.reduceLeDiff, Nat.reduceEqDiff, Nat.reduceLT, reduceCtorEq, Aw.renR, Aw.pos]
  · have h5 := of_decide_eq_false h4
    rw [if_neg h5]
    have hXY2 : nl (Y - X) ≤ nl Y := nl_mono (Nat.sub_le _ _)
    refine AWp.plan (.take 0 [false, false, true, true, true, true, false, false] (.take 1 [true, false, true, true, true, true, false, false] (.take 2 [true, true, false, true, false, true, false, false] (.take 3 [true, true, true, false, false, true, false, false] (.take 5 [true, true, true, true, true, false, false, false] (.one 4 (.one 6 (.one 7 .done)))))))) [true, true, true, true, true, true, true, false] mixed hn rfl rfl ?_
    simp (config := { maxSteps := 2000000 }) only [go_sem, ↓reduceIte, Int.reduceToNat, Nat.reduceMul, Int.reduceBEq, Int.reduceBNe, Nat.reduceBEq, Nat.reduceAdd, Nat.reduceSub, Nat.reduceLeDiff, Nat.reduceEqDiff, Nat.reduceLT, reduceCtorEq]
    repeat' first | (refine And.intro ?_ ?_) | (refine AOne.callA (s71 Y X (by omega) (by omega)) rfl (by rw [hn]; rfl) (fun rg v hv => ?_); obtain ⟨rfl, rfl⟩ := hv; rw [retS_nil]; simp (config := { maxSteps := 2000000 }) only [go_sem, ↓reduceIte, Int.reduceToNat, Nat.reduceMul, Int.reduceBEq, Int.reduceBNe, Nat.reduceBEq, Nat.reduceAdd, Nat.reduceSub, Nat.reduceLeDiff, Nat.reduceEqDiff, Nat.reduceLT, reduceCtorEq]) | (refine AOne.callA (s50 b.neg (Y - X) D hdp (by omega) (by omega)) rfl (by rw [hn]; rfl) (fun rg v hv => ?_); obtain ⟨rfl, rfl⟩ := hv; rw [retS_nil]; simp (config := { maxSteps := 2000000 }) only [go_sem, ↓reduceIte, Int.reduceToNat, Nat.reduceMul, Int.reduceBEq, Int.reduceBNe, Nat.reduceBEq, Nat.reduceAdd, Nat.reduceSub, Nat.reduceLeDiff, Nat.reduceEqDiff, Nat.reduceLT, reduceCtorEq])
    refine Retn.ret (π := [2]) hp hnp ⟨rfl, ?_⟩
    simp (config := { maxSteps := 2000000 }) only [go_sem, ↓reduceIte, Int.reduceToNat, Nat.reduceMul, Int.reduceBEq, Int.reduceBNe, Nat.reduceBEq, Nat.reduceAdd, Nat.reduceSub, Nat.reduceLeDiff, Nat.reduceEqDiff, Nat.reduceLT, reduceCtorEq, Aw.renR, Aw.pos]
theorem negQ_QB {k : Nat} {q : QQ} (h : QB k q) : QB k q.negQ := by
  unfold QQ.negQ
  split
  · exact h
  · exact h
theorem s48 (a b : QQ) (ha : QB 300000 a) (hb : QB 300000 b) : Aw.Spec Tryd.prog 48 [] [qv a, qv b] (fun rg v => rg = [] ∧ v = qv (subQ a b)) := by
  refine Spec.shut (Post := fun rg v => v = qv (subQ a b)) ?_ fun rg v h => by subst h; exact ⟨rfl, rfl, rfl⟩
  refine Aw.Spec.regsW k48 rfl rfl fun E hn hnp hp => ?_
  unfold a48
  have pin : ∀ r, E.pin r = none := fun r => hp.none hnp (Nat.zero_le _)
  refine AWp.ofD [999] [] hn mixed rfl ?_
  simp (config := { maxSteps := 2000000 }) only [go_sem, ↓reduceIte, Int.reduceToNat, Nat.reduceMul, Int.reduceBEq, Int.reduceBNe, Nat.reduceBEq, Nat.reduceAdd, Nat.reduceSub, Nat.reduceLeDiff, Nat.reduceEqDiff, Nat.reduceLT, reduceCtorEq]
  refine AWp.plan (.take 0 [false, true, true, false, false] (.take 1 [true, false, false, false, false] (.one 2 (.one 3 (.one 4 .done))))) [true, true, true, true, false] mixed hn rfl rfl ?_
  simp (config := { maxSteps := 2000000 }) only [go_sem, ↓reduceIte, Int.reduceToNat, Nat.reduceMul, Int.reduceBEq, Int.reduceBNe, Nat.reduceBEq, Nat.reduceAdd, Nat.reduceSub, Nat.reduceLeDiff, Nat.reduceEqDiff, Nat.reduceLT, reduceCtorEq]
  repeat' first | (refine And.intro ?_ ?_) | (refine AOne.callA (s74 b) rfl (by rw [hn]; rfl) (fun rg v hv => ?_); obtain ⟨rfl, rfl⟩ := hv; rw [retS_nil]; simp (config := { maxSteps := 2000000 }) only [go_sem, ↓reduceIte, Int.reduceToNat, Nat.reduceMul, Int.reduceBEq, Int.reduceBNe, Nat.reduceBEq, Nat.reduceAdd, Nat.reduceSub, Nat.reduceLeDiff, Nat.reduceEqDiff, Nat.reduceLT, reduceCtorEq]) | (refine AOne.callA (s46 a b.negQ ha (negQ_QB hb)) rfl (by rw [hn]; rfl) (fun rg v hv => ?_); obtain ⟨rfl, rfl⟩ := hv; rw [retS_nil]; simp (config := { maxSteps := 2000000 }) only [go_sem, ↓reduceIte, Int.reduceToNat, Nat.reduceMul, Int.reduceBEq, Int.reduceBNe, Nat.reduceBEq, Nat.reduceAdd, Nat.reduceSub, Nat.reduceLeDiff, Nat.reduceEqDiff, Nat.reduceLT, reduceCtorEq])
  refine Retn.ret (π := [2]) hp hnp ⟨rfl, ?_⟩
  simp (config := { maxSteps := 2000000 }) only [go_sem, ↓reduceIte, Int.reduceToNat, Nat.reduceMul, Int.reduceBEq, Int.reduceBNe, Nat.reduceBEq, Nat.reduceAdd, Nat.reduceSub, Nat.reduceLeDiff, Nat.reduceEqDiff, Nat.reduceLT, reduceCtorEq, Aw.renR, Aw.pos]
  rfl
theorem s62 (a b : QQ) (ha : QB 300000 a) (hb : QB 300000 b) : Aw.Spec Tryd.prog 62 [] [qv a, qv b] (Gives (· = I (subQ a b).sign)) := by
  refine Spec.shut (Post := fun rg v => v = I (subQ a b).sign) ?_ fun rg v h => by subst h; exact ⟨rfl, rfl, rfl⟩
  refine Aw.Spec.regsW k62 rfl rfl fun E hn hnp hp => ?_
  unfold a62
  have pin : ∀ r, E.pin r = none := fun r => hp.none hnp (Nat.zero_le _)
  refine AWp.ofD [] [] hn mixed rfl ?_
  simp (config := { maxSteps := 2000000 }) only [go_sem, ↓reduceIte, Int.reduceToNat, Nat.reduceMul, Int.reduceBEq, Int.reduceBNe, Nat.reduceBEq, Nat.reduceAdd, Nat.reduceSub, Nat.reduceLeDiff, Nat.reduceEqDiff, Nat.reduceLT, reduceCtorEq]
  (refine AWpL.callA [] (s48 a b ha hb) rfl rfl (by rw [hn]; rfl) rfl (fun r hr => .inr (pin r)) fun rg v hv => ?_; obtain ⟨rfl, rfl⟩ := hv; refine ⟨Nat.le_refl _, AWpL.ofM hn rfl ?_⟩)
  simp (config := { maxSteps := 2000000 }) only [go_sem, ↓reduceIte, Int.reduceToNat, Nat.reduceMul, Int.reduceBEq, Int.reduceBNe, Nat.reduceBEq, Nat.reduceAdd, Nat.reduceSub, Nat.reduceLeDiff, Nat.reduceEqDiff, Nat.reduceLT, reduceCtorEq, Aw.retS, Aw.retRg, Aw.kpM, Aw.bkM, Aw.pos, Aw.isBox]
  (refine AWpL.calle (s78 (subQ a b)) rfl (by rw [hn]; rfl) (by simp (config := { maxSteps := 2000000 }) only [go_sem, ↓reduceIte, Int.reduceToNat, Nat.reduceMul, Int.reduceBEq, Int.reduceBNe, Nat.reduceBEq, Nat.reduceAdd, Nat.reduceSub, Nat.reduceLeDiff, Nat.reduceEqDiff, Nat.reduceLT, reduceCtorEq]) (AWpL.ofM hn rfl ?_); simp (config := { maxSteps := 2000000 }) only [go_sem, ↓reduceIte, Int.reduceToNat, Nat.reduceMul, Int.reduceBEq, Int.reduceBNe, Nat.reduceBEq, Nat.reduceAdd, Nat.reduceSub, Nat.reduceLeDiff, Nat.reduceEqDiff, Nat.reduceLT, reduceCtorEq])
  refine Retn.ret (π := []) hp hnp ⟨rfl, ?_⟩
  simp (config := { maxSteps := 2000000 }) only [go_sem, ↓reduceIte, Int.reduceToNat, Nat.reduceMul, Int.reduceBEq, Int.reduceBNe, Nat.reduceBEq, Nat.reduceAdd, Nat.reduceSub, Nat.reduceLeDiff, Nat.reduceEqDiff, Nat.reduceLT, reduceCtorEq, Aw.renR, Aw.pos]
theorem s43 (a b : QQ) (ha : QB 300000 a) (hb : QB 300000 b) : Aw.Spec Tryd.prog 43 [] [qv a, qv b] (fun rg v => rg = [] ∧ v = qv (mulQ a b)) := by
  refine Spec.shut (Post := fun rg v => v = qv (mulQ a b)) ?_ fun rg v h => by subst h; exact ⟨rfl, rfl, rfl⟩
  refine Aw.Spec.regsW k43 rfl rfl fun E hn hnp hp => ?_
  unfold a43
  have pin : ∀ r, E.pin r = none := fun r => hp.none hnp (Nat.zero_le _)
  refine AWp.ofD [999] [] hn mixed rfl ?_
  simp (config := { maxSteps := 2000000 }) only [go_sem, ↓reduceIte, Int.reduceToNat, Nat.reduceMul, Int.reduceBEq, Int.reduceBNe, Nat.reduceBEq, Nat.reduceAdd, Nat.reduceSub, Nat.reduceLeDiff, Nat.reduceEqDiff, Nat.reduceLT, reduceCtorEq, len_beq]
  unfold mulQ
  refine ⟨fun h => ?_, fun h => ?_⟩
  · rw [if_pos (by simpa using h)]
    refine Retn.weak (weak_box 2 1 rfl (by rfl) (Ent.ofnil0 1)) _ ?_
    simp (config := { maxSteps := 2000000 }) only [go_sem, ↓reduceIte, Int.reduceToNat, Nat.reduceMul, Int.reduceBEq, Int.reduceBNe, Nat.reduceBEq, Nat.reduceAdd, Nat.reduceSub, Nat.reduceLeDiff, Nat.reduceEqDiff, Nat.reduceLT, reduceCtorEq]
    refine Retn.weak (weak_box 2 2 rfl (by rfl) (Ent.ofnil0 1)) _ ?_
    refine Retn.ret (π := [2]) hp hnp ⟨rfl, ?_⟩
    simp (config := { maxSteps := 2000000 }) only [go_sem, ↓reduceIte, Int.reduceToNat, Nat.reduceMul, Int.reduceBEq, Int.reduceBNe, Nat.reduceBEq, Nat.reduceAdd, Nat.reduceSub, Nat.reduceLeDiff, Nat.reduceEqDiff, Nat.reduceLT, reduceCtorEq, Aw.renR, Aw.pos]
    show _ = AV.agg [B false, nv 0, nv 0]
    rw [nv_zero]
  · rw [if_neg (by simpa using h)]
    have hwa := whole_nl ha (by decide)
    have hwb := whole_nl hb (by decide)
    have hx := nl_mul a.num b.num
    have hd := nl_mul a.whole b.whole
    have hdp : 0 < a.whole * b.whole := Nat.mul_pos (whole_pos a) (whole_pos b)
    obtain ⟨ha1, ha2⟩ := ha
    obtain ⟨hb1, hb2⟩ := hb
    refine AWp.plan (.take 0 [false, false, true, true, false, true, true, true, true, true, true, true, true, true, true, false, false] (.take 1 [true, false, true, true, false, true, true, true, true, true, true, true, true, true, true, false, false] (.take 2 [true, true, false, false, false, true, true, true, true, true, true, true, true, true, true, false, false] (.take 3 [true, true, true, false, false, true, true, true, true, true, true, true, true, true, true, false, false] (.take 4 [true, true, true, true, false, true, true, true, true, true, true, true, true, true, true, false, false] (.take 5 [true, true, true, true, true, false, false, true, true, false, true, false, true, false, false, false, false] (.take 6 [true, true, true, true, true, true, false, true, true, false, true, false, true, false, false, false, false] (.take 7 [true, true, true, true, true, true, true, false, false, false, true, false, true, false, false, false, false] (.take 8 [true, true, true, true, true, true, true, true, false, false, true, false, true, false, false, false, false] (.take 10 [true, true, true, true, true, true, true, true, true, true, false, false, true, false, false, false, false] (.take 12 [true, true, true, true, true, true, true, true, true, true, true, true, false, false, false, false, false] (.one 9 (.one 11 (.one 13 (.one 14 (.one 15 (.one 16 .done))))))))))))))))) [true, true, true, true, true, true, true, true, true, true, true, true, true, true, true, true, false] mixed hn rfl rfl ?_
    simp (config := { maxSteps := 2000000 }) only [go_sem, ↓reduceIte, Int.reduceToNat, Nat.reduceMul, Int.reduceBEq, Int.reduceBNe, Nat.reduceBEq, Nat.reduceAdd, Nat.reduceSub, Nat.reduceLeDiff, Nat.reduceEqDiff, Nat.reduceLT, reduceCtorEq]
    repeat' first | (refine And.intro ?_ ?_) | (refine AOne.callA (s67 a.num b.num (by omega) (by omega)) rfl (by rw [hn]; rfl) (fun rg v hv => ?_); obtain ⟨rfl, rfl⟩ := hv; rw [retS_nil]; simp (config := { maxSteps := 2000000 }) only [go_sem, ↓reduceIte, Int.reduceToNat, Nat.reduceMul, Int.reduceBEq, Int.reduceBNe, Nat.reduceBEq, Nat.reduceAdd, Nat.reduceSub, Nat.reduceLeDiff, Nat.reduceEqDiff, Nat.reduceLT, reduceCtorEq]) | (refine AOne.callA (s68 a) rfl (by rw [hn]; rfl) (fun rg v hv => ?_); obtain ⟨rfl, rfl⟩ := hv; rw [retS_nil]; simp (config := { maxSteps := 2000000 }) only [go_sem, ↓reduceIte, Int.reduceToNat, Nat.reduceMul, Int.reduceBEq, Int.reduceBNe, Nat.reduceBEq, Nat.reduceAdd, Nat.reduceSub, Nat.reduceLeDiff, Nat.reduceEqDiff, Nat.reduceLT, reduceCtorEq]) | (refine AOne.callA (s68 b) rfl (by rw [hn]; rfl) (fun rg v hv => ?_); obtain ⟨rfl, rfl⟩ := hv; rw [retS_nil]; simp (config := { maxSteps := 2000000 }) only [go_sem, ↓reduceIte, Int.reduceToNat, Nat.reduceMul, Int.reduceBEq, Int.reduceBNe, Nat.reduceBEq, Nat.reduceAdd, Nat.reduceSub, Nat.reduceLeDiff, Nat.reduceEqDiff, Nat.reduceLT, reduceCtorEq]) | (refine AOne.callA (s67 a.whole b.whole (by omega) (by omega)) rfl (by rw [hn]; rfl) (fun rg v hv => ?_); obtain ⟨rfl, rfl⟩ := hv; rw [retS_nil]; simp (config := { maxSteps := 2000000 }) only [go_sem, ↓reduceIte, Int.reduceToNat, Nat.reduceMul, Int.reduceBEq, Int.reduceBNe, Nat.reduceBEq, Nat.reduceAdd, Nat.reduceSub, Nat.reduceLeDiff, Nat.reduceEqDiff, Nat.reduceLT, reduceCtorEq]) | (refine AOne.callA (s50 (a.neg != b.neg) (a.num * b.num) (a.whole * b.whole) hdp (by omega) (by omega)) rfl (by rw [hn]; rfl) (fun rg v hv => ?_); obtain ⟨rfl, rfl⟩ := hv; rw [retS_nil]; simp (config := { maxSteps := 2000000 }) only [go_sem, ↓reduceIte, Int.reduceToNat, Nat.reduceMul, Int.reduceBEq, Int.reduceBNe, Nat.reduceBEq, Nat.reduceAdd, Nat.reduceSub, Nat.reduceLeDiff, Nat.reduceEqDiff, Nat.reduceLT, reduceCtorEq])
    all_goals (refine Retn.ret (π := [2]) hp hnp ⟨rfl, ?_⟩; simp (config := { maxSteps := 2000000 }) only [go_sem, ↓reduceIte, Int.reduceToNat, Nat.reduceMul, Int.reduceBEq, Int.reduceBNe, Nat.reduceBEq, Nat.reduceAdd, Nat.reduceSub, Nat.reduceLeDiff, Nat.reduceEqDiff, Nat.reduceLT, reduceCtorEq, Aw.renR, Aw.pos])
theorem s52 (a b : QQ) (ha : QB 300000 a) (hb : QB 300000 b) : Aw.Spec Tryd.prog 52 [] [qv a, qv b] (fun rg v => rg = [] ∧ v = qv (quoQ a b)) := by
  refine Spec.shut (Post := fun rg v => v = qv (quoQ a b)) ?_ fun rg v h => by subst h; exact ⟨rfl, rfl, rfl⟩
  refine Aw.Spec.regsW k52 rfl rfl fun E hn hnp hp => ?_
  unfold a52
  have pin : ∀ r, E.pin r = none := fun r => hp.none hnp (Nat.zero_le _)
  refine AWp.ofD [999] [] hn mixed rfl ?_
  simp (config := { maxSteps := 2000000 }) only [go_sem, ↓reduceIte, Int.reduceToNat, Nat.reduceMul, Int.reduceBEq, Int.reduceBNe, Nat.reduceBEq, Nat.reduceAdd, Nat.reduceSub, Nat.reduceLeDiff, Nat.reduceEqDiff, Nat.reduceLT, reduceCtorEq, len_beq]
  unfold quoQ
  refine ⟨fun h => ?_, fun h => ?_⟩
  · rw [if_pos (by simpa using h)]
    refine Retn.weak (weak_box 2 1 rfl (by rfl) (Ent.ofnil0 1)) _ ?_
    simp (config := { maxSteps := 2000000 }) only [go_sem, ↓reduceIte, Int.reduceToNat, Nat.reduceMul, Int.reduceBEq, Int.reduceBNe, Nat.reduceBEq, Nat.reduceAdd, Nat.reduceSub, Nat.reduceLeDiff, Nat.reduceEqDiff, Nat.reduceLT, reduceCtorEq]
    refine Retn.weak (weak_box 2 2 rfl (by rfl) (Ent.ofnil0 1)) _ ?_
    refine Retn.ret (π := [2]) hp hnp ⟨rfl, ?_⟩
    simp (config := { maxSteps := 2000000 }) only [go_sem, ↓reduceIte, Int.reduceToNat, Nat.reduceMul, Int.reduceBEq, Int.reduceBNe, Nat.reduceBEq, Nat.reduceAdd, Nat.reduceSub, Nat.reduceLeDiff, Nat.reduceEqDiff, Nat.reduceLT, reduceCtorEq, Aw.renR, Aw.pos]
    show _ = AV.agg [B false, nv 0, nv 0]
    rw [nv_zero]
  · rw [if_neg (by simpa using h)]
    have hwa := whole_nl ha (by decide)
    have hwb := whole_nl hb (by decide)
    have hx := nl_mul a.num b.whole
    have hd := nl_mul a.whole b.num
    have hdp : 0 < a.whole * b.num := Nat.mul_pos (whole_pos a) (Nat.pos_of_ne_zero (by simp at h; exact h.2))
    obtain ⟨ha1, ha2⟩ := ha
    obtain ⟨hb1, hb2⟩ := hb
    refine AWp.plan (.take 0 [false, false, true, true, false, true, true, true, true, true, true, true, true, true, true, false, false] (.take 1 [true, false, true, true, false, true, true, true, true, true, true, true, true, true, true, false, false] (.take 2 [true, true, false, false, false, true, true, true, true, true, true, true, true, true, true, false, false] (.take 3 [true, true, true, false, false, true, true, true, true, true, true, true, true, true, true, false, false] (.take 4 [true, true, true, true, false, true, true, true, true, true, true, true, true, true, true, false, false] (.take 5 [true, true, true, true, true, false, false, true, true, false, true, false, true, true, false, false, false] (.take 6 [true, true, true, true, true, true, false, true, true, false, true, false, true, true, false, false, false] (.take 7 [true, true, true, true, true, true, true, false, false, false, true, false, true, true, false, false, false] (.take 10 [true, true, true, true, true, true, true, true, true, true, false, false, true, true, false, false, false] (.take 12 [true, true, true, true, true, true, true, true, true, true, true, true, false, false, false, false, false] (.take 13 [true, true, true, true, true, true, true, true, true, true, true, true, true, false, false, false, false] (.one 8 (.one 9 (.one 11 (.one 14 (.one 15 (.one 16 .done))))))))))))))))) [true, true, true, true, true, true, true, true, true, true, true, true, true, true, true, true, false] mixed hn rfl rfl ?_
    simp (config := { maxSteps := 2000000 }) only [go_sem, ↓reduceIte, Int.reduceToNat, Nat.reduceMul, Int.reduceBEq, Int.reduceBNe, Nat.reduceBEq, Nat.reduceAdd, Nat.reduceSub, Nat.reduceLeDiff, Nat.reduceEqDiff, Nat.reduceLT, reduceCtorEq]
    repeat' first | (refine And.intro ?_ ?_) | (refine AOne.callA (s68 b) rfl (by rw [hn]; rfl) (fun rg v hv => ?_); obtain ⟨rfl, rfl⟩ := hv; rw [retS_nil]; simp (config := { maxSteps := 2000000 }) only [go_sem, ↓reduceIte, Int.reduceToNat, Nat.reduceMul, Int.reduceBEq, Int.reduceBNe, Nat.reduceBEq, Nat.reduceAdd, Nat.reduceSub, Nat.reduceLeDiff, Nat.reduceEqDiff, Nat.reduceLT, reduceCtorEq]) | (refine AOne.callA (s67 a.num b.whole (by omega) (by omega)) rfl (by rw [hn]; rfl) (fun rg v hv => ?_); obtain ⟨rfl, rfl⟩ := hv; rw [retS_nil]; simp (config := { maxSteps := 2000000 }) only [go_sem, ↓reduceIte, Int.reduceToNat, Nat.reduceMul, Int.reduceBEq, Int.reduceBNe, Nat.reduceBEq, Nat.reduceAdd, Nat.reduceSub, Nat.reduceLeDiff, Nat.reduceEqDiff, Nat.reduceLT, reduceCtorEq]) | (refine AOne.callA (s68 a) rfl (by rw [hn]; rfl) (fun rg v hv => ?_); obtain ⟨rfl, rfl⟩ := hv; rw [retS_nil]; simp (config := { maxSteps := 2000000 }) only [go_sem, ↓reduceIte, Int.reduceToNat, Nat.reduceMul, Int.reduceBEq, Int.reduceBNe, Nat.reduceBEq, Nat.reduceAdd, Nat.reduceSub, Nat.reduceLeDiff, Nat.reduceEqDiff, Nat.reduceLT, reduceCtorEq]) | (refine AOne.callA (s67 a.whole b.num (by omega) (by omega)) rfl (by rw [hn]; rfl) (fun rg v hv => ?_); obtain ⟨rfl, rfl⟩ := hv; rw [retS_nil]; simp (config := { maxSteps := 2000000 }) only [go_sem, ↓reduceIte, Int.reduceToNat, Nat.reduceMul, Int.reduceBEq, Int.reduceBNe, Nat.reduceBEq, Nat.reduceAdd, Nat.reduceSub, Nat.reduceLeDiff, Nat.reduceEqDiff, Nat.reduceLT, reduceCtorEq]) | (refine AOne.callA (s50 (a.neg != b.neg) (a.num * b.whole) (a.whole * b.num) hdp (by omega) (by omega)) rfl (by rw [hn]; rfl) (fun rg v hv => ?_); obtain ⟨rfl, rfl⟩ := hv; rw [retS_nil]; simp (config := { maxSteps := 2000000 }) only [go_sem, ↓reduceIte, Int.reduceToNat, Nat.reduceMul, Int.reduceBEq, Int.reduceBNe, Nat.reduceBEq, Nat.reduceAdd, Nat.reduceSub, Nat.reduceLeDiff, Nat.reduceEqDiff, Nat.reduceLT, reduceCtorEq])
    all_goals (refine Retn.ret (π := [2]) hp hnp ⟨rfl, ?_⟩; simp (config := { maxSteps := 2000000 }) only [go_sem, ↓reduceIte, Int.reduceToNat, Nat.reduceMul, Int.reduceBEq, Int.reduceBNe, Nat.reduceBEq, Nat.reduceAdd, Nat.reduceSub, Nat.reduceLeDiff, Nat.reduceEqDiff, Nat.reduceLT, reduceCtorEq, Aw.renR, Aw.pos])
end Go.Proofs.YtjaakbkneeojnaaDoor
