/- Rationals: low, whole, Int and their like. -/
import Derived.Test.YtjaakbkneeojnaaDoorAwZl
import Derived.Test.YtjaakbkneeojnaaDoorNatK
set_option linter.unusedVariables false
set_option linter.unusedSimpArgs false
namespace Go.Proofs.YtjaakbkneeojnaaDoor
open Go.Proofs.YtjaakbkneeojnaaDoor.Aw
attribute [local go_sem] Int.natCast_zero Int.natCast_one bne_self_eq_false beq_self_eq_true Bool.not_true Bool.not_false Option.isSome_none Option.isSome_some Aw.bkM_nil Option.getD_some Option.getD_none Nat.sub_zero Int.toNat_zero Aw.frzS Aw.frzT Aw.frzA Aw.frzL Aw.frzR Aw.frzO Aw.frzOL Aw.frzOT Aw.frzOR Aw.killS Aw.mapT Aw.mapR Aw.killM Aw.resAVs Aw.resAV Aw.quietOps Aw.wpP Aw.wpT Aw.wpS Aw.AOp.mild List.getElem?_cons_zero List.getElem?_cons_succ Bool.and_false Bool.and_self Bool.false_and Aw.opOb Aw.gdB Aw.Rnd Aw.subTm List.length_map Int.toNat_natCast and_self Aw.SeqC Aw.stops Aw.Ends Aw.looks Aw.renA Aw.renL Aw.renT Aw.renS Aw.wpO Aw.aop Aw.putTm Aw.St.ev Aw.St.put Aw.St.putO Aw.binAV Aw.intBin Aw.strBin Aw.pickAV Aw.optInt Aw.AV.strip Aw.AV.guard Aw.AV.cells Aw.gdOb Aw.AOp.opds Aw.AOp.still Aw.ptrCells Aw.St.reg Aw.fillAV Aw.fillOb Aw.elsOb Aw.splice Aw.firm Aw.cellish Aw.AV.shut Aw.shutAll Aw.Seq Aw.Blk Aw.retS_nil Aw.mapA Aw.mapL Aw.borA Aw.borOb Aw.allOb Aw.tupOf Aw.params Aw.Opd.of Array.toList Value.cells List.map_cons List.map_nil List.getD_cons_zero List.getD_cons_succ List.getD_nil List.length_cons List.length_nil List.take_succ_cons List.take_zero List.take_nil List.drop_zero List.drop_succ_cons List.drop_nil List.set_cons_zero List.set_cons_succ List.append_nil List.nil_append List.cons_append List.all_cons List.all_nil cond_false cond_true if_true if_false true_and and_true Bool.and_true Bool.true_and Option.map_some Option.map_none false_implies forall_const implies_true forall_eq imp_self Bool.cond_false_right Bool.cond_true_left beq_true beq_false Bool.not_eq_true' Bool.false_eq_true Nat.zero_add Nat.add_zero Aw.eqCells Aw.stopDraw Aw.skipS Aw.exactCap Aw.revealS Aw.srcEls Aw.srcSz
attribute [local go_sem ↓] Aw.look_nil Aw.look_ite Aw.wpL_nil Aw.wpL_op Aw.wpL_gd Aw.wpQ_nil Aw.wpQ_op Aw.wpQ_gd Aw.wpC_draw Aw.wpC_reg Aw.wpC_skip Aw.wpC_ret Aw.wpC_exit Aw.wpC_seq Aw.wpC_block Aw.wpC_loop Aw.wpC_cond Aw.stopAt_nil Aw.stopAt_cons Aw.wpD_skip Aw.wpD_ret Aw.wpD_exit Aw.wpD_region Aw.wpD_draw Aw.wpM_nil Aw.wpM_op Aw.wpM_gd Aw.wpD_seq Aw.wpD_block Aw.wpD_loop Aw.wpD_cond
/- (gridhall/rat.Q).whole -/
def a68 : ACode :=
  (.seq (.region false [] [
     ⟨(some 1), none, (.box 62 (.t 0))⟩,
     ⟨(some 2), none, (.mov (.v (.slice none 0 0)))⟩])
  (.seq (.seq (.region false [] [
     ⟨(some 3), none, (.fld 2 (.t 1))⟩,
     ⟨(some 4), none, (.load 1 false (.t 3))⟩,
     ⟨(some 5), none, (.len (.t 4))⟩,
     ⟨(some 6), none, (.bin .eql 3 (.t 5) (.v (.int .i64 0)))⟩])
  (.cond (.t 6)
    (.seq (.region false [] [
       ⟨(some 7), none, (.call 66 [(.v (.int .i64 1))])⟩,
       ⟨(some 2), none, (.mov (.t 7))⟩])
    .ret)
    .skip))
  (.seq (.region false [] [
     ⟨(some 8), none, (.fld 2 (.t 1))⟩,
     ⟨(some 9), none, (.load 1 false (.t 8))⟩,
     ⟨(some 2), none, (.mov (.t 9))⟩])
  .ret)))
theorem k68 : FnIs Tryd.prog 68 10 [.t 2] a68 := ⟨_, _, Tryd.func68, rfl, by kernel_rfl, by kernel_rfl, rfl⟩
/- gridhall/rat.low -/
def a50 : ACode :=
  (.seq (.region false [] [
     ⟨(some 6), none, (.alloc 62 (.agg #[(.bool false), (.slice none 0 0), (.slice none 0 0)]))⟩])
  (.seq (.seq (.region false [] [
     ⟨(some 8), none, (.mov (.t 1))⟩,
     ⟨(some 9), none, (.len (.t 8))⟩,
     ⟨(some 10), none, (.bin .eql 3 (.t 9) (.v (.int .i64 0)))⟩])
  (.cond (.t 10)
    (.seq (.region false [] [
       ⟨(some 11), none, (.build (.agg #[(.bool false), (.slice none 0 0), (.slice none 0 0)]) [])⟩,
       ⟨none, none, (.store 3 (.t 6) (.t 11))⟩])
    .ret)
    .skip))
  (.seq (.seq (.region false [] [
     ⟨(some 12), none, (.mov (.t 1))⟩,
     ⟨(some 13), none, (.mov (.t 2))⟩,
     ⟨(some 14), none, (.call 73 [(.t 12), (.t 13)])⟩,
     ⟨(some 7), none, (.mov (.t 14))⟩])
  (.seq (.region false [] [
     ⟨(some 15), none, (.mov (.t 7))⟩,
     ⟨(some 16), none, (.call 66 [(.v (.int .i64 1))])⟩,
     ⟨(some 17), none, (.call 70 [(.t 15), (.t 16)])⟩,
     ⟨(some 18), none, (.bin .gtr 3 (.t 17) (.v (.int .i64 0)))⟩])
  (.cond (.t 18)
    (.seq (.region false [] [
       ⟨(some 20), none, (.mov (.t 1))⟩,
       ⟨(some 21), none, (.mov (.t 7))⟩,
       ⟨(some 22), none, (.call 75 [(.t 20), (.t 21)])⟩,
       ⟨(some 19), none, (.mov (.t 22))⟩,
       ⟨(some 23), none, (.ext 0 (.t 19))⟩,
       ⟨(some 24), none, (.ext 1 (.t 19))⟩,
       ⟨(some 1), none, (.mov (.t 23))⟩])
    (.region false [] [
       ⟨(some 26), none, (.mov (.t 2))⟩,
       ⟨(some 27), none, (.mov (.t 7))⟩,
       ⟨(some 28), none, (.call 75 [(.t 26), (.t 27)])⟩,
       ⟨(some 25), none, (.mov (.t 28))⟩,
       ⟨(some 29), none, (.ext 0 (.t 25))⟩,
       ⟨(some 30), none, (.ext 1 (.t 25))⟩,
       ⟨(some 2), none, (.mov (.t 29))⟩]))
    .skip)))
  (.seq (.region false [] [
     ⟨(some 31), none, (.mov (.t 0))⟩,
     ⟨(some 32), none, (.mov (.t 1))⟩,
     ⟨(some 33), none, (.mov (.t 2))⟩,
     ⟨(some 34), none, (.build (.agg #[(.bool false), (.slice none 0 0), (.slice none 0 0)]) [(0, (1, (.t 31))), (1, (1, (.t 32))), (2, (1, (.t 33)))])⟩,
     ⟨none, none, (.store 3 (.t 6) (.t 34))⟩])
  .ret))))
theorem k50 : FnIs Tryd.prog 50 35 [.c 6 3 true] a50 := ⟨_, _, Tryd.func50, rfl, by kernel_rfl, by kernel_rfl, rfl⟩
/- gridhall/rat.Int -/
def a42 : ACode :=
  (.seq (.region false [] [
     ⟨(some 2), none, (.alloc 62 (.agg #[(.bool false), (.slice none 0 0), (.slice none 0 0)]))⟩])
  (.seq (.seq (.region false [] [
     ⟨(some 3), none, (.mov (.t 0))⟩,
     ⟨(some 4), none, (.bin .lss 3 (.t 3) (.v (.int .i64 0)))⟩])
  (.cond (.t 4)
    (.seq (.region false [] [
       ⟨(some 5), none, (.mov (.t 0))⟩,
       ⟨(some 6), none, (.un .neg (.t 5))⟩,
       ⟨(some 7), none, (.call 66 [(.t 6)])⟩,
       ⟨(some 8), none, (.call 66 [(.v (.int .i64 1))])⟩,
       ⟨(some 9), none, (.build (.agg #[(.bool false), (.slice none 0 0), (.slice none 0 0)]) [(0, (1, (.v (.bool true)))), (1, (1, (.t 7))), (2, (1, (.t 8)))])⟩,
       ⟨none, none, (.store 3 (.t 2) (.t 9))⟩])
    .ret)
    .skip))
  (.seq (.region false [] [
     ⟨(some 10), none, (.mov (.t 0))⟩,
     ⟨(some 11), none, (.call 66 [(.t 10)])⟩,
     ⟨(some 12), none, (.call 66 [(.v (.int .i64 1))])⟩,
     ⟨(some 13), none, (.build (.agg #[(.bool false), (.slice none 0 0), (.slice none 0 0)]) [(1, (1, (.t 11))), (2, (1, (.t 12)))])⟩,
     ⟨none, none, (.store 3 (.t 2) (.t 13))⟩])
  .ret)))
theorem k42 : FnIs Tryd.prog 42 14 [.c 2 3 true] a42 := ⟨_, _, Tryd.func42, rfl, by kernel_rfl, by kernel_rfl, rfl⟩
/- gridhall/rat.size -/
def a51 : ACode :=
  (.seq (.region false [] [
     ⟨(some 2), none, (.mov (.v (.slice none 0 0)))⟩])
  (.seq (.seq (.region false [] [
     ⟨(some 3), none, (.mov (.t 0))⟩,
     ⟨(some 4), none, (.bin .geq 3 (.t 3) (.v (.int .i64 0)))⟩])
  (.cond (.t 4)
    (.seq (.region false [] [
       ⟨(some 5), none, (.mov (.t 0))⟩,
       ⟨(some 6), none, (.call 66 [(.t 5)])⟩,
       ⟨(some 2), none, (.mov (.t 6))⟩])
    .ret)
    .skip))
  (.seq (.region false [] [
     ⟨(some 7), none, (.mov (.t 0))⟩,
     ⟨(some 8), none, (.bin .add 3 (.t 7) (.v (.int .i64 1)))⟩,
     ⟨(some 9), none, (.un .neg (.t 8))⟩,
     ⟨(some 10), none, (.call 66 [(.t 9)])⟩,
     ⟨(some 11), none, (.call 66 [(.v (.int .i64 1))])⟩,
     ⟨(some 12), none, (.call 69 [(.t 10), (.t 11)])⟩,
     ⟨(some 2), none, (.mov (.t 12))⟩])
  .ret)))
theorem k51 : FnIs Tryd.prog 51 13 [.t 2] a51 := ⟨_, _, Tryd.func51, rfl, by kernel_rfl, by kernel_rfl, rfl⟩
/- (gridhall/rat.Q).Neg -/
def a74 : ACode :=
  (.seq (.region false [] [
     ⟨(some 1), none, (.box 62 (.t 0))⟩,
     ⟨(some 2), none, (.alloc 62 (.agg #[(.bool false), (.slice none 0 0), (.slice none 0 0)]))⟩])
  (.seq (.seq (.region false [] [
     ⟨(some 3), none, (.fld 1 (.t 1))⟩,
     ⟨(some 4), none, (.load 1 false (.t 3))⟩,
     ⟨(some 5), none, (.len (.t 4))⟩,
     ⟨(some 6), none, (.bin .eql 3 (.t 5) (.v (.int .i64 0)))⟩])
  (.cond (.t 6)
    (.seq (.region false [] [
       ⟨(some 7), none, (.load 3 true (.t 1))⟩,
       ⟨none, none, (.store 3 (.t 2) (.t 7))⟩])
    .ret)
    .skip))
  (.seq (.region false [] [
     ⟨(some 8), none, (.fld 0 (.t 1))⟩,
     ⟨(some 9), none, (.load 1 false (.t 8))⟩,
     ⟨(some 10), none, (.un .not (.t 9))⟩,
     ⟨(some 11), none, (.fld 1 (.t 1))⟩,
     ⟨(some 12), none, (.load 1 false (.t 11))⟩,
     ⟨(some 13), none, (.fld 2 (.t 1))⟩,
     ⟨(some 14), none, (.load 1 false (.t 13))⟩,
     ⟨(some 15), none, (.build (.agg #[(.bool false), (.slice none 0 0), (.slice none 0 0)]) [(0, (1, (.t 10))), (1, (1, (.t 12))), (2, (1, (.t 14)))])⟩,
     ⟨none, none, (.store 3 (.t 2) (.t 15))⟩])
  .ret)))
theorem k74 : FnIs Tryd.prog 74 16 [.c 2 3 true] a74 := ⟨_, _, Tryd.func74, rfl, by kernel_rfl, by kernel_rfl, rfl⟩
/- (gridhall/rat.Q).Sign -/
def a78 : ACode :=
  (.seq (.region false [] [
     ⟨(some 1), none, (.box 62 (.t 0))⟩,
     ⟨(some 2), none, (.mov (.v (.int .i64 0)))⟩])
  (.seq (.block 0 (.seq (.region false [] [
      ⟨(some 4), none, (.fld 1 (.t 1))⟩,
      ⟨(some 5), none, (.load 1 false (.t 4))⟩,
      ⟨(some 6), none, (.len (.t 5))⟩,
      ⟨(some 7), none, (.bin .eql 3 (.t 6) (.v (.int .i64 0)))⟩,
      ⟨(some 3), none, (.mov (.t 7))⟩])
   (.cond (.t 3)
     (.seq (.region false [] [
        ⟨(some 2), none, (.mov (.v (.int .i64 0)))⟩])
     .ret)
     (.seq (.region false [] [
        ⟨(some 9), none, (.fld 0 (.t 1))⟩,
        ⟨(some 10), none, (.load 1 false (.t 9))⟩,
        ⟨(some 8), none, (.mov (.t 10))⟩])
     (.cond (.t 8)
       (.seq (.region false [] [
          ⟨(some 2), none, (.mov (.v (.int .i64 (-1))))⟩])
       .ret)
       .skip)))))
  (.seq (.region false [] [
     ⟨(some 2), none, (.mov (.v (.int .i64 1)))⟩])
  .ret)))
theorem k78 : FnIs Tryd.prog 78 11 [.t 2] a78 := ⟨_, _, Tryd.func78, rfl, by kernel_rfl, by kernel_rfl, rfl⟩

/-- Regions that the result does not look at are forgotten. -/
theorem Spec.shut {P : Program} {f : FuncId} {args : List AV} {Post Post' : List Reg → AV → Prop} (h : Aw.Spec P f [] args Post) (hp : ∀ rg v, Post rg v → v.shut = true ∧ Post' [] v) : Aw.Spec P f [] args Post' := fun w ρ ok vals hm ha => by
  refine (h w ρ ok vals hm ha).mono ?_
  rintro e w' ⟨rg, x, v, ρ', ok', h1, h2, h3, h4, h5, h6, h7, h8⟩
  obtain ⟨k1, k2⟩ := hp rg x h2
  exact ⟨[], x, v, fun _ => none, ok', h1, k2, Mem.none h3.okl, R_of_Rc _ _ (Rc_of_R _ _ k1 h4), h5, fun r p hr => (by cases hr), h7, fun r e cs hr => (by cases hr)⟩
/-- A rational: sign, numerator, denominator (0 counts as 1). -/
structure QQ where
  neg : Bool
  num : Nat
  den : Nat
  deriving DecidableEq
abbrev qv (q : QQ) : AV := .agg [B q.neg, nv q.num, nv q.den]
def QQ.zero : QQ := ⟨false, 0, 0⟩
def QQ.whole (q : QQ) : Nat := if q.den = 0 then 1 else q.den
def lowQ (neg : Bool) (num den : Nat) : QQ := if num = 0 then QQ.zero else ⟨neg, num / Nat.gcd num den, den / Nat.gcd num den⟩
def intQ (n : Int) : QQ := ⟨decide (n < 0), n.natAbs, 1⟩
def QQ.negQ (q : QQ) : QQ := if q.num = 0 then q else ⟨!q.neg, q.num, q.den⟩
def QQ.sign (q : QQ) : Int := if q.num = 0 then 0 else if q.neg = true then -1 else 1
theorem nv_zero : nv 0 = .imm none false 1 [] := by rw [nv, digs_zero]; rfl
theorem len_beq (n : Nat) : ((((digs n).length : Nat) : Int) == 0) = decide (n = 0) := by
  by_cases h : n = 0
  · subst h; rw [digs_zero]; rfl
  · have := nl_pos (Nat.pos_of_ne_zero h)
    unfold nl at this
    rw [decide_eq_false h, beq_eq_false_iff_ne]; omega
theorem s68 (q : QQ) : Aw.Spec Tryd.prog 68 [] [qv q] (fun rg v => rg = [] ∧ v = nv q.whole) := by
  refine Aw.Spec.regsW k68 rfl rfl fun E hn hnp hp => ?_
  unfold a68
  have pin : ∀ r, E.pin r = none := fun r => hp.none hnp (Nat.zero_le _)
  refine AWp.ofD [] [] hn mixed rfl ?_
  simp (config := { maxSteps := 2000000 }) only [go_sem, ↓reduceIte, Int.reduceToNat, Nat.reduceMul, Int.reduceBEq, Int.reduceBNe, Nat.reduceBEq, Nat.reduceAdd, Nat.reduceSub, Nat.reduceLeDiff, Nat.reduceEqDiff, Nat.reduceLT, reduceCtorEq, len_beq]
  unfold QQ.whole
  refine ⟨fun h => ?_, fun h => ?_⟩
  · rw [if_pos (of_decide_eq_true h)]
    (refine AWpL.callA [] (s66 1 (by decide)) rfl rfl (by rw [hn]; rfl) rfl (fun r hr => .inr (pin r)) fun rg v hv => ?_; obtain ⟨rfl, rfl⟩ := hv; refine ⟨Nat.le_refl _, AWpL.ofM hn rfl ?_⟩)
    simp (config := { maxSteps := 2000000 }) only [go_sem, ↓reduceIte, Int.reduceToNat, Nat.reduceMul, Int.reduceBEq, Int.reduceBNe, Nat.reduceBEq, Nat.reduceAdd, Nat.reduceSub, Nat.reduceLeDiff, Nat.reduceEqDiff, Nat.reduceLT, reduceCtorEq, Aw.retS, Aw.retRg, Aw.kpM, Aw.bkM, Aw.pos, Aw.isBox]
    refine Retn.ret (π := []) hp hnp ⟨rfl, ?_⟩
    simp (config := { maxSteps := 2000000 }) only [go_sem, ↓reduceIte, Int.reduceToNat, Nat.reduceMul, Int.reduceBEq, Int.reduceBNe, Nat.reduceBEq, Nat.reduceAdd, Nat.reduceSub, Nat.reduceLeDiff, Nat.reduceEqDiff, Nat.reduceLT, reduceCtorEq]
  · rw [if_neg (of_decide_eq_false h)]
    refine Retn.ret (π := []) hp hnp ⟨rfl, ?_⟩
    simp (config := { maxSteps := 2000000 }) only [go_sem, ↓reduceIte, Int.reduceToNat, Nat.reduceMul, Int.reduceBEq, Int.reduceBNe, Nat.reduceBEq, Nat.reduceAdd, Nat.reduceSub, Nat.reduceLeDiff, Nat.reduceEqDiff, Nat.reduceLT, reduceCtorEq]
theorem cmpN_one {g : Nat} : decide (cmpN g 1 > 0) = decide (1 < g) := by
  unfold cmpN
  by_cases h : g < 1
  · rw [if_pos h, decide_eq_false (show ¬ 1 < g by omega)]; rfl
  · rw [if_neg h]
    by_cases h2 : g = 1
    · rw [if_pos h2, decide_eq_false (show ¬ 1 < g by omega)]; rfl
    · rw [if_neg h2, decide_eq_true (show 1 < g by omega)]; rfl
set_option maxRecDepth 20000 in
theorem s500 (neg : Bool) (num den : Nat) (hd : 0 < den) (hn0 : nl num ≤ 900000) (hd0 : nl den ≤ 900000) : Aw.Spec Tryd.prog 50 [] [B neg, nv num, nv den] (fun rg v => v = qv (lowQ neg num den)) := by
  refine Aw.Spec.regsW k50 rfl rfl fun E hn hnp hp => ?_
  unfold a50
  have pin : ∀ r, E.pin r = none := fun r => hp.none hnp (Nat.zero_le _)
  refine AWp.seq (AWp.ofD [] [] hn mixed rfl ?_)
  simp (config := { maxSteps := 2000000 }) only [go_sem, ↓reduceIte, Int.reduceToNat, Nat.reduceMul, Int.reduceBEq, Int.reduceBNe, Nat.reduceBEq, Nat.reduceAdd, Nat.reduceSub, Nat.reduceLeDiff, Nat.reduceEqDiff, Nat.reduceLT, reduceCtorEq]
  refine AWp.seq (AWp.ofD [] [10] hn mixed rfl ?_)
  simp (config := { maxSteps := 2000000 }) only [go_sem, ↓reduceIte, Int.reduceToNat, Nat.reduceMul, Int.reduceBEq, Int.reduceBNe, Nat.reduceBEq, Nat.reduceAdd, Nat.reduceSub, Nat.reduceLeDiff, Nat.reduceEqDiff, Nat.reduceLT, reduceCtorEq, len_beq]
  refine AWp.cond (by rfl) (fun h => ?_) (fun h => ?_)
  · refine AWp.ofD [] [] hn mixed rfl ?_
    simp (config := { maxSteps := 2000000 }) only [go_sem, ↓reduceIte, Int.reduceToNat, Nat.reduceMul, Int.reduceBEq, Int.reduceBNe, Nat.reduceBEq, Nat.reduceAdd, Nat.reduceSub, Nat.reduceLeDiff, Nat.reduceEqDiff, Nat.reduceLT, reduceCtorEq]
    refine Retn.weak (weak_box 0 1 rfl (by rfl) (Ent.ofnil0 1)) _ ?_
    simp (config := { maxSteps := 2000000 }) only [go_sem, ↓reduceIte, Int.reduceToNat, Nat.reduceMul, Int.reduceBEq, Int.reduceBNe, Nat.reduceBEq, Nat.reduceAdd, Nat.reduceSub, Nat.reduceLeDiff, Nat.reduceEqDiff, Nat.reduceLT, reduceCtorEq]
    refine Retn.weak (weak_box 0 2 rfl (by rfl) (Ent.ofnil0 1)) _ ?_
    refine Retn.ret (π := [0]) hp hnp ⟨rfl, ?_⟩
    simp (config := { maxSteps := 2000000 }) only [go_sem, ↓reduceIte, Int.reduceToNat, Nat.reduceMul, Int.reduceBEq, Int.reduceBNe, Nat.reduceBEq, Nat.reduceAdd, Nat.reduceSub, Nat.reduceLeDiff, Nat.reduceEqDiff, Nat.reduceLT, reduceCtorEq, Aw.renR, Aw.pos]
    unfold lowQ
    rw [if_pos (of_decide_eq_true h)]
    show _ = AV.agg [B false, nv 0, nv 0]
    rw [nv_zero]
  have hnz : num ≠ 0 := of_decide_eq_false h
  have hg0 : 0 < Nat.gcd num den := Nat.gcd_pos_of_pos_right _ hd
  have hgn : nl (Nat.gcd num den) ≤ 900000 := Nat.le_trans (nl_mono (Nat.gcd_le_right _ hd)) hd0
  refine AWp.ofD [] [] hn mixed rfl ?_
  simp (config := { maxSteps := 2000000 }) only [go_sem, ↓reduceIte, Int.reduceToNat, Nat.reduceMul, Int.reduceBEq, Int.reduceBNe, Nat.reduceBEq, Nat.reduceAdd, Nat.reduceSub, Nat.reduceLeDiff, Nat.reduceEqDiff, Nat.reduceLT, reduceCtorEq]
  refine AWp.seq (AWp.seq (AWp.ofD [] [] hn mixed rfl ?_))
  simp (config := { maxSteps := 2000000 }) only [go_sem, ↓reduceIte, Int.reduceToNat, Nat.reduceMul, Int.reduceBEq, Int.reduceBNe, Nat.reduceBEq, Nat.reduceAdd, Nat.reduceSub, Nat.reduceLeDiff, Nat.reduceEqDiff, Nat.reduceLT, reduceCtorEq]
  (refine AWpL.callA [] (s73 num den hn0 hd0) rfl rfl (by rw [hn]; rfl) rfl (fun r hr => .inr (pin r)) fun rg v hv => ?_; obtain ⟨rfl, rfl⟩ := hv; refine ⟨Nat.le_refl _, AWpL.ofM hn rfl ?_⟩)
  simp (config := { maxSteps := 2000000 }) only [go_sem, ↓reduceIte, Int.reduceToNat, Nat.reduceMul, Int.reduceBEq, Int.reduceBNe, Nat.reduceBEq, Nat.reduceAdd, Nat.reduceSub, Nat.reduceLeDiff, Nat.reduceEqDiff, Nat.reduceLT, reduceCtorEq, Aw.retS, Aw.retRg, Aw.kpM, Aw.bkM, Aw.pos, Aw.isBox]
  refine AWp.seq (AWp.ofD [] [] hn mixed rfl ?_)
  simp (config := { maxSteps := 2000000 }) only [go_sem, ↓reduceIte, Int.reduceToNat, Nat.reduceMul, Int.reduceBEq, Int.reduceBNe, Nat.reduceBEq, Nat.reduceAdd, Nat.reduceSub, Nat.reduceLeDiff, Nat.reduceEqDiff, Nat.reduceLT, reduceCtorEq]
  (refine AWpL.callA [] (s66 1 (by decide)) rfl rfl (by rw [hn]; rfl) rfl (fun r hr => .inr (pin r)) fun rg v hv => ?_; obtain ⟨rfl, rfl⟩ := hv; refine ⟨Nat.le_refl _, AWpL.ofM hn rfl ?_⟩)
  simp (config := { maxSteps := 2000000 }) only [go_sem, ↓reduceIte, Int.reduceToNat, Nat.reduceMul, Int.reduceBEq, Int.reduceBNe, Nat.reduceBEq, Nat.reduceAdd, Nat.reduceSub, Nat.reduceLeDiff, Nat.reduceEqDiff, Nat.reduceLT, reduceCtorEq, Aw.retS, Aw.retRg, Aw.kpM, Aw.bkM, Aw.pos, Aw.isBox]
  refine AWpL.calle (s70 (Nat.gcd num den) 1 (Nat.le_trans hgn (by decide)) (by show nl 1 ≤ 1000000; rw [nl_one]; decide)) rfl (by rw [hn]; rfl) (by simp (config := { maxSteps := 2000000 }) only [go_sem, ↓reduceIte, Int.reduceToNat, Nat.reduceMul, Int.reduceBEq, Int.reduceBNe, Nat.reduceBEq, Nat.reduceAdd, Nat.reduceSub, Nat.reduceLeDiff, Nat.reduceEqDiff, Nat.reduceLT, reduceCtorEq]) (AWpL.ofM hn rfl ?_)
  simp (config := { maxSteps := 2000000 }) only [go_sem, ↓reduceIte, Int.reduceToNat, Nat.reduceMul, Int.reduceBEq, Int.reduceBNe, Nat.reduceBEq, Nat.reduceAdd, Nat.reduceSub, Nat.reduceLeDiff, Nat.reduceEqDiff, Nat.reduceLT, reduceCtorEq, cmpN_one]
  refine AWp.cut ⟨[(0, B neg), (1, nv (num / Nat.gcd num den)), (2, nv (den / Nat.gcd num den)), (6, .ptr 0 0 0)], [.box 62 [B false, .val (.slice none 0 0), .val (.slice none 0 0)]]⟩ ?_ ?_
  · refine AWp.cond (by rfl) (fun h1 => ?_) (fun h1 => ?_)
    · refine AWp.ofD [] [] hn mixed rfl ?_
      simp (config := { maxSteps := 2000000 }) only [go_sem, ↓reduceIte, Int.reduceToNat, Nat.reduceMul, Int.reduceBEq, Int.reduceBNe, Nat.reduceBEq, Nat.reduceAdd, Nat.reduceSub, Nat.reduceLeDiff, Nat.reduceEqDiff, Nat.reduceLT, reduceCtorEq]
      (refine AWpL.callA [] (s75 num (Nat.gcd num den) hg0 hn0 hgn) rfl rfl (by rw [hn]; rfl) rfl (fun r hr => .inr (pin r)) fun rg v hv => ?_; obtain ⟨rfl, rfl⟩ := hv; refine ⟨Nat.le_refl _, AWpL.ofM hn rfl ?_⟩)
      simp (config := { maxSteps := 2000000 }) only [go_sem, ↓reduceIte, Int.reduceToNat, Nat.reduceMul, Int.reduceBEq, Int.reduceBNe, Nat.reduceBEq, Nat.reduceAdd, Nat.reduceSub, Nat.reduceLeDiff, Nat.reduceEqDiff, Nat.reduceLT, reduceCtorEq, Aw.retS, Aw.retRg, Aw.kpM, Aw.bkM, Aw.pos, Aw.isBox]
      (refine AWpL.callA [] (s75 den (Nat.gcd num den) hg0 hd0 hgn) rfl rfl (by rw [hn]; rfl) rfl (fun r hr => .inr (pin r)) fun rg v hv => ?_; obtain ⟨rfl, rfl⟩ := hv; refine ⟨Nat.le_refl _, AWpL.ofM hn rfl ?_⟩)
      simp (config := { maxSteps := 2000000 }) only [go_sem, ↓reduceIte, Int.reduceToNat, Nat.reduceMul, Int.reduceBEq, Int.reduceBNe, Nat.reduceBEq, Nat.reduceAdd, Nat.reduceSub, Nat.reduceLeDiff, Nat.reduceEqDiff, Nat.reduceLT, reduceCtorEq, Aw.retS, Aw.retRg, Aw.kpM, Aw.bkM, Aw.pos, Aw.isBox]
      exact weak_to [0] hp hnp rfl (by simp (config := { maxSteps := 2000000 }) only [go_sem, ↓reduceIte, Int.reduceToNat, Nat.reduceMul, Int.reduceBEq, Int.reduceBNe, Nat.reduceBEq, Nat.reduceAdd, Nat.reduceSub, Nat.reduceLeDiff, Nat.reduceEqDiff, Nat.reduceLT, reduceCtorEq, Aw.pos]) (by simp (config := { maxSteps := 2000000 }) only [go_sem, ↓reduceIte, Int.reduceToNat, Nat.reduceMul, Int.reduceBEq, Int.reduceBNe, Nat.reduceBEq, Nat.reduceAdd, Nat.reduceSub, Nat.reduceLeDiff, Nat.reduceEqDiff, Nat.reduceLT, reduceCtorEq, Aw.renR, Aw.pos] <;> rfl)
    · have h2 := of_decide_eq_false h1
      have h3 : Nat.gcd num den = 1 := by omega
      rw [h3, Nat.div_one, Nat.div_one]
      refine AWp.ofD [] [] hn mixed rfl ?_
      simp (config := { maxSteps := 2000000 }) only [go_sem, ↓reduceIte, Int.reduceToNat, Nat.reduceMul, Int.reduceBEq, Int.reduceBNe, Nat.reduceBEq, Nat.reduceAdd, Nat.reduceSub, Nat.reduceLeDiff, Nat.reduceEqDiff, Nat.reduceLT, reduceCtorEq]
      exact weak_to [0] hp hnp rfl (by simp (config := { maxSteps := 2000000 }) only [go_sem, ↓reduceIte, Int.reduceToNat, Nat.reduceMul, Int.reduceBEq, Int.reduceBNe, Nat.reduceBEq, Nat.reduceAdd, Nat.reduceSub, Nat.reduceLeDiff, Nat.reduceEqDiff, Nat.reduceLT, reduceCtorEq, Aw.pos]) (by simp (config := { maxSteps := 2000000 }) only [go_sem, ↓reduceIte, Int.reduceToNat, Nat.reduceMul, Int.reduceBEq, Int.reduceBNe, Nat.reduceBEq, Nat.reduceAdd, Nat.reduceSub, Nat.reduceLeDiff, Nat.reduceEqDiff, Nat.reduceLT, reduceCtorEq, Aw.renR, Aw.pos] <;> rfl)
  simp (config := { maxSteps := 2000000 }) only [go_sem, ↓reduceIte, Int.reduceToNat, Nat.reduceMul, Int.reduceBEq, Int.reduceBNe, Nat.reduceBEq, Nat.reduceAdd, Nat.reduceSub, Nat.reduceLeDiff, Nat.reduceEqDiff, Nat.reduceLT, reduceCtorEq]
  refine AWp.ofD [] [] hn mixed rfl ?_
  simp (config := { maxSteps := 2000000 }) only [go_sem, ↓reduceIte, Int.reduceToNat, Nat.reduceMul, Int.reduceBEq, Int.reduceBNe, Nat.reduceBEq, Nat.reduceAdd, Nat.reduceSub, Nat.reduceLeDiff, Nat.reduceEqDiff, Nat.reduceLT, reduceCtorEq]
  refine Retn.ret (π := [0]) hp hnp ⟨rfl, ?_⟩
  simp (config := { maxSteps := 2000000 }) only [go_sem, ↓reduceIte, Int.reduceToNat, Nat.reduceMul, Int.reduceBEq, Int.reduceBNe, Nat.reduceBEq, Nat.reduceAdd, Nat.reduceSub, Nat.reduceLeDiff, Nat.reduceEqDiff, Nat.reduceLT, reduceCtorEq, Aw.renR, Aw.pos]
  unfold lowQ
  rw [if_neg hnz]
theorem shut_qv (q : QQ) : (qv q).shut = true := rfl
theorem s50 (neg : Bool) (num den : Nat) (hd : 0 < den) (hn0 : nl num ≤ 900000) (hd0 : nl den ≤ 900000) : Aw.Spec Tryd.prog 50 [] [B neg, nv num, nv den] (fun rg v => rg = [] ∧ v = qv (lowQ neg num den)) :=
  Spec.shut (s500 neg num den hd hn0 hd0) fun rg v h => by subst h; exact ⟨rfl, rfl, rfl⟩
theorem s42 (n : Int) (h0 : -9223372036854775807 ≤ n) (h1 : n ≤ 9223372036854775807) : Aw.Spec Tryd.prog 42 [] [I n] (fun rg v => rg = [] ∧ v = qv (intQ n)) := by
  refine Spec.shut (Post := fun rg v => v = qv (intQ n)) ?_ fun rg v h => by subst h; exact ⟨rfl, rfl, rfl⟩
  refine Aw.Spec.regsW k42 rfl rfl fun E hn hnp hp => ?_
  unfold a42
  have pin : ∀ r, E.pin r = none := fun r => hp.none hnp (Nat.zero_le _)
  refine AWp.ofD [] [] hn mixed rfl ?_
  simp (config := { maxSteps := 2000000 }) only [go_sem, ↓reduceIte, Int.reduceToNat, Nat.reduceMul, Int.reduceBEq, Int.reduceBNe, Nat.reduceBEq, Nat.reduceAdd, Nat.reduceSub, Nat.reduceLeDiff, Nat.reduceEqDiff, Nat.reduceLT, reduceCtorEq]
  unfold intQ
  refine ⟨fun h => ?_, fun h => ?_⟩
  · have h2 := of_decide_eq_true h
    have e1 : IntKind.i64.wrap (0 - n) = ((n.natAbs : Nat) : Int) := by rw [w64 (by omega) (by omega)]; omega
    simp (config := { maxSteps := 2000000 }) only [go_sem, ↓reduceIte, Int.reduceToNat, Nat.reduceMul, Int.reduceBEq, Int.reduceBNe, Nat.reduceBEq, Nat.reduceAdd, Nat.reduceSub, Nat.reduceLeDiff, Nat.reduceEqDiff, Nat.reduceLT, reduceCtorEq, e1]
    (refine AWpL.callA [] (s66 n.natAbs (by omega)) rfl rfl (by rw [hn]; rfl) rfl (fun r hr => .inr (pin r)) fun rg v hv => ?_; obtain ⟨rfl, rfl⟩ := hv; refine ⟨Nat.le_refl _, AWpL.ofM hn rfl ?_⟩)
    simp (config := { maxSteps := 2000000 }) only [go_sem, ↓reduceIte, Int.reduceToNat, Nat.reduceMul, Int.reduceBEq, Int.reduceBNe, Nat.reduceBEq, Nat.reduceAdd, Nat.reduceSub, Nat.reduceLeDiff, Nat.reduceEqDiff, Nat.reduceLT, reduceCtorEq, Aw.retS, Aw.retRg, Aw.kpM, Aw.bkM, Aw.pos, Aw.isBox]
    (refine AWpL.callA [] (s66 1 (by decide)) rfl rfl (by rw [hn]; rfl) rfl (fun r hr => .inr (pin r)) fun rg v hv => ?_; obtain ⟨rfl, rfl⟩ := hv; refine ⟨Nat.le_refl _, AWpL.ofM hn rfl ?_⟩)
    simp (config := { maxSteps := 2000000 }) only [go_sem, ↓reduceIte, Int.reduceToNat, Nat.reduceMul, Int.reduceBEq, Int.reduceBNe, Nat.reduceBEq, Nat.reduceAdd, Nat.reduceSub, Nat.reduceLeDiff, Nat.reduceEqDiff, Nat.reduceLT, reduceCtorEq, Aw.retS, Aw.retRg, Aw.kpM, Aw.bkM, Aw.pos, Aw.isBox]
    refine Retn.ret (π := [0]) hp hnp ⟨rfl, ?_⟩
    simp (config := { maxSteps := 2000000 }) only [go_sem, ↓reduceIte, Int.reduceToNat, Nat.reduceMul, Int.reduceBEq, Int.reduceBNe, Nat.reduceBEq, Nat.reduceAdd, Nat.reduceSub, Nat.reduceLeDiff, Nat.reduceEqDiff, Nat.reduceLT, reduceCtorEq, Aw.renR, Aw.pos]
    rw [h]
  · have h2 := of_decide_eq_false h
    have e1 : n = ((n.natAbs : Nat) : Int) := by omega
    refine AWpL.callA [] (s66 n.natAbs (by omega)) rfl (by rw [← e1]; rfl) (by rw [hn]; rfl) rfl (fun r hr => by cases hr) fun rg v hv => ?_
    obtain ⟨rfl, rfl⟩ := hv
    refine ⟨Nat.le_refl _, AWpL.ofM hn rfl ?_⟩
    simp (config := { maxSteps := 2000000 }) only [go_sem, ↓reduceIte, Int.reduceToNat, Nat.reduceMul, Int.reduceBEq, Int.reduceBNe, Nat.reduceBEq, Nat.reduceAdd, Nat.reduceSub, Nat.reduceLeDiff, Nat.reduceEqDiff, Nat.reduceLT, reduceCtorEq, Aw.retS, Aw.retRg, Aw.kpM, Aw.bkM, Aw.pos, Aw.isBox]
    (refine AWpL.callA [] (s66 1 (by decide)) rfl rfl (by rw [hn]; rfl) rfl (fun r hr => .inr (pin r)) fun rg v hv => ?_; obtain ⟨rfl, rfl⟩ := hv; refine ⟨Nat.le_refl _, AWpL.ofM hn rfl ?_⟩)
    simp (config := { maxSteps := 2000000 }) only [go_sem, ↓reduceIte, Int.reduceToNat, Nat.reduceMul, Int.reduceBEq, Int.reduceBNe, Nat.reduceBEq, Nat.reduceAdd, Nat.reduceSub, Nat.reduceLeDiff, Nat.reduceEqDiff, Nat.reduceLT, reduceCtorEq, Aw.retS, Aw.retRg, Aw.kpM, Aw.bkM, Aw.pos, Aw.isBox]
    refine Retn.ret (π := [0]) hp hnp ⟨rfl, ?_⟩
    simp (config := { maxSteps := 2000000 }) only [go_sem, ↓reduceIte, Int.reduceToNat, Nat.reduceMul, Int.reduceBEq, Int.reduceBNe, Nat.reduceBEq, Nat.reduceAdd, Nat.reduceSub, Nat.reduceLeDiff, Nat.reduceEqDiff, Nat.reduceLT, reduceCtorEq, Aw.renR, Aw.pos]
    rw [h]
theorem s51 (n : Int) (h0 : -9223372036854775808 ≤ n) (h1 : n ≤ 9223372036854775807) : Aw.Spec Tryd.prog 51 [] [I n] (fun rg v => rg = [] ∧ v = nv n.natAbs) := by
  refine Aw.Spec.regsW k51 rfl rfl fun E hn hnp hp => ?_
  unfold a51
  have pin : ∀ r, E.pin r = none := fun r => hp.none hnp (Nat.zero_le _)
  refine AWp.ofD [] [] hn mixed rfl ?_
  simp (config := { maxSteps := 2000000 }) only [go_sem, ↓reduceIte, Int.reduceToNat, Nat.reduceMul, Int.reduceBEq, Int.reduceBNe, Nat.reduceBEq, Nat.reduceAdd, Nat.reduceSub, Nat.reduceLeDiff, Nat.reduceEqDiff, Nat.reduceLT, reduceCtorEq]
  refine ⟨fun h => ?_, fun h => ?_⟩
  · have h2 := of_decide_eq_true h
    have e1 : n = ((n.natAbs : Nat) : Int) := by omega
    refine AWpL.callA [] (s66 n.natAbs (by omega)) rfl (by rw [← e1]; rfl) (by rw [hn]; rfl) rfl (fun r hr => by cases hr) fun rg v hv => ?_
    obtain ⟨rfl, rfl⟩ := hv
    refine ⟨Nat.le_refl _, AWpL.ofM hn rfl ?_⟩
    simp (config := { maxSteps := 2000000 }) only [go_sem, ↓reduceIte, Int.reduceToNat, Nat.reduceMul, Int.reduceBEq, Int.reduceBNe, Nat.reduceBEq, Nat.reduceAdd, Nat.reduceSub, Nat.reduceLeDiff, Nat.reduceEqDiff, Nat.reduceLT, reduceCtorEq, Aw.retS, Aw.retRg, Aw.kpM, Aw.bkM, Aw.pos, Aw.isBox]
    refine Retn.ret (π := []) hp hnp ⟨rfl, ?_⟩
    simp (config := { maxSteps := 2000000 }) only [go_sem, ↓reduceIte, Int.reduceToNat, Nat.reduceMul, Int.reduceBEq, Int.reduceBNe, Nat.reduceBEq, Nat.reduceAdd, Nat.reduceSub, Nat.reduceLeDiff, Nat.reduceEqDiff, Nat.reduceLT, reduceCtorEq]
  · have h2 := of_decide_eq_false h
    have e1 : IntKind.i64.wrap (n + 1) = n + 1 := w64 (by omega) (by omega)
    have e2 : IntKind.i64.wrap (0 - (n + 1)) = ((n.natAbs - 1 : Nat) : Int) := by rw [w64 (by omega) (by omega)]; omega
    rw [e1, e2]
    (refine AWpL.callA [] (s66 (n.natAbs - 1) (by omega)) rfl rfl (by rw [hn]; rfl) rfl (fun r hr => .inr (pin r)) fun rg v hv => ?_; obtain ⟨rfl, rfl⟩ := hv; refine ⟨Nat.le_refl _, AWpL.ofM hn rfl ?_⟩)
    simp (config := { maxSteps := 2000000 }) only [go_sem, ↓reduceIte, Int.reduceToNat, Nat.reduceMul, Int.reduceBEq, Int.reduceBNe, Nat.reduceBEq, Nat.reduceAdd, Nat.reduceSub, Nat.reduceLeDiff, Nat.reduceEqDiff, Nat.reduceLT, reduceCtorEq, Aw.retS, Aw.retRg, Aw.kpM, Aw.bkM, Aw.pos, Aw.isBox]
    (refine AWpL.callA [] (s66 1 (by decide)) rfl rfl (by rw [hn]; rfl) rfl (fun r hr => .inr (pin r)) fun rg v hv => ?_; obtain ⟨rfl, rfl⟩ := hv; refine ⟨Nat.le_refl _, AWpL.ofM hn rfl ?_⟩)
    simp (config := { maxSteps := 2000000 }) only [go_sem, ↓reduceIte, Int.reduceToNat, Nat.reduceMul, Int.reduceBEq, Int.reduceBNe, Nat.reduceBEq, Nat.reduceAdd, Nat.reduceSub, Nat.reduceLeDiff, Nat.reduceEqDiff, Nat.reduceLT, reduceCtorEq, Aw.retS, Aw.retRg, Aw.kpM, Aw.bkM, Aw.pos, Aw.isBox]
    have hnl : nl (n.natAbs - 1) ≤ 1000000 := Nat.le_trans (nl_le (k := 3) (Nat.lt_of_lt_of_le (show n.natAbs - 1 < 9223372036854775809 by omega) (by decide))) (by decide)
    (refine AWpL.callA [] (s69 (n.natAbs - 1) 1 hnl (by rw [nl_one]; decide)) rfl rfl (by rw [hn]; rfl) rfl (fun r hr => .inr (pin r)) fun rg v hv => ?_; obtain ⟨rfl, rfl⟩ := hv; refine ⟨Nat.le_refl _, AWpL.ofM hn rfl ?_⟩)
    simp (config := { maxSteps := 2000000 }) only [go_sem, ↓reduceIte, Int.reduceToNat, Nat.reduceMul, Int.reduceBEq, Int.reduceBNe, Nat.reduceBEq, Nat.reduceAdd, Nat.reduceSub, Nat.reduceLeDiff, Nat.reduceEqDiff, Nat.reduceLT, reduceCtorEq, Aw.retS, Aw.retRg, Aw.kpM, Aw.bkM, Aw.pos, Aw.isBox]
    refine Retn.ret (π := []) hp hnp ⟨rfl, ?_⟩
    simp (config := { maxSteps := 2000000 }) only [go_sem, ↓reduceIte, Int.reduceToNat, Nat.reduceMul, Int.reduceBEq, Int.reduceBNe, Nat.reduceBEq, Nat.reduceAdd, Nat.reduceSub, Nat.reduceLeDiff, Nat.reduceEqDiff, Nat.reduceLT, reduceCtorEq]
    rw [show n.natAbs - 1 + 1 = n.natAbs by omega]
theorem s74 (q : QQ) : Aw.Spec Tryd.prog 74 [] [qv q] (fun rg v => rg = [] ∧ v = qv q.negQ) := by
  refine Spec.shut (Post := fun rg v => v = qv q.negQ) ?_ fun rg v h => by subst h; exact ⟨rfl, rfl, rfl⟩
  refine Aw.Spec.regsW k74 rfl rfl fun E hn hnp hp => ?_
  unfold a74
  have pin : ∀ r, E.pin r = none := fun r => hp.none hnp (Nat.zero_le _)
  refine AWp.ofD [] [] hn mixed rfl ?_
  simp (config := { maxSteps := 2000000 }) only [go_sem, ↓reduceIte, Int.reduceToNat, Nat.reduceMul, Int.reduceBEq, Int.reduceBNe, Nat.reduceBEq, Nat.reduceAdd, Nat.reduceSub, Nat.reduceLeDiff, Nat.reduceEqDiff, Nat.reduceLT, reduceCtorEq, len_beq]
  unfold QQ.negQ
  refine ⟨fun h => ?_, fun h => ?_⟩
  · rw [if_pos (of_decide_eq_true h)]
    refine Retn.ret (π := [1]) hp hnp ⟨rfl, ?_⟩
    simp (config := { maxSteps := 2000000 }) only [go_sem, ↓reduceIte, Int.reduceToNat, Nat.reduceMul, Int.reduceBEq, Int.reduceBNe, Nat.reduceBEq, Nat.reduceAdd, Nat.reduceSub, Nat.reduceLeDiff, Nat.reduceEqDiff, Nat.reduceLT, reduceCtorEq, Aw.renR, Aw.pos]
  · rw [if_neg (of_decide_eq_false h)]
    refine Retn.ret (π := [1]) hp hnp ⟨rfl, ?_⟩
    simp (config := { maxSteps := 2000000 }) only [go_sem, ↓reduceIte, Int.reduceToNat, Nat.reduceMul, Int.reduceBEq, Int.reduceBNe, Nat.reduceBEq, Nat.reduceAdd, Nat.reduceSub, Nat.reduceLeDiff, Nat.reduceEqDiff, Nat.reduceLT, reduceCtorEq, Aw.renR, Aw.pos]
theorem s78 (q : QQ) : Aw.Spec Tryd.prog 78 [] [qv q] (Gives (· = I q.sign)) := by
  refine Spec.shut (Post := fun rg v => v = I q.sign) ?_ fun rg v h => by subst h; exact ⟨rfl, rfl, rfl⟩
  refine Aw.Spec.regsW k78 rfl rfl fun E hn hnp hp => ?_
  unfold a78
  have pin : ∀ r, E.pin r = none := fun r => hp.none hnp (Nat.zero_le _)
  refine AWp.ofD [] [] hn mixed rfl ?_
  simp (config := { maxSteps := 2000000 }) only [go_sem, ↓reduceIte, Int.reduceToNat, Nat.reduceMul, Int.reduceBEq, Int.reduceBNe, Nat.reduceBEq, Nat.reduceAdd, Nat.reduceSub, Nat.reduceLeDiff, Nat.reduceEqDiff, Nat.reduceLT, reduceCtorEq, len_beq]
  unfold QQ.sign
  refine ⟨fun h => ?_, fun h => ⟨fun h2 => ?_, fun h2 => ?_⟩⟩
  · rw [if_pos (of_decide_eq_true h)]
    refine Retn.ret (π := []) hp hnp ⟨rfl, ?_⟩
    simp (config := { maxSteps := 2000000 }) only [go_sem, ↓reduceIte, Int.reduceToNat, Nat.reduceMul, Int.reduceBEq, Int.reduceBNe, Nat.reduceBEq, Nat.reduceAdd, Nat.reduceSub, Nat.reduceLeDiff, Nat.reduceEqDiff, Nat.reduceLT, reduceCtorEq, Aw.renR, Aw.pos]
  · rw [if_neg (of_decide_eq_false h), if_pos h2]
    refine Retn.ret (π := []) hp hnp ⟨rfl, ?_⟩
    simp (config := { maxSteps := 2000000 }) only [go_sem, ↓reduceIte, Int.reduceToNat, Nat.reduceMul, Int.reduceBEq, Int.reduceBNe, Nat.reduceBEq, Nat.reduceAdd, Nat.reduceSub, Nat.reduceLeDiff, Nat.reduceEqDiff, Nat.reduceLT, reduceCtorEq, Aw.renR, Aw.pos]
  · rw [if_neg (of_decide_eq_false h), if_neg (by rw [h2]; decide)]
    refine Retn.ret (π := []) hp hnp ⟨rfl, ?_⟩
    simp (config := { maxSteps := 2000000 }) only [go_sem, ↓reduceIte, Int.reduceToNat, Nat.reduceMul, Int.reduceBEq, Int.reduceBNe, Nat.reduceBEq, Nat.reduceAdd, Nat.reduceSub, Nat.reduceLeDiff, Nat.reduceEqDiff, Nat.reduceLT, reduceCtorEq, Aw.renR, Aw.pos]
end Go.Proofs.YtjaakbkneeojnaaDoor
