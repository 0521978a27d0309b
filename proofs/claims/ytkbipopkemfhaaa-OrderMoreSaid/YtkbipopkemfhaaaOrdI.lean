/- Orders: fill. -/
import Derived.Test.YtkbipopkemfhaaaAwZg
import Derived.Test.YtkbipopkemfhaaaOrdH
set_option linter.unusedVariables false
set_option linter.unusedSimpArgs false
namespace Go.Proofs.Ytkbipopkemfhaaa
open Go.Proofs.Ytkbipopkemfhaaa.Aw
attribute [local go_sem] Int.natCast_zero Int.natCast_one bne_self_eq_false beq_self_eq_true Bool.not_true Bool.not_false Option.isSome_none Option.isSome_some Aw.bkM_nil Option.getD_some Option.getD_none Nat.sub_zero Int.toNat_zero Aw.frzS Aw.frzT Aw.frzA Aw.frzL Aw.frzR Aw.frzO Aw.frzOL Aw.frzOT Aw.frzOR Aw.killS Aw.mapT Aw.mapR Aw.killM Aw.resAVs Aw.resAV Aw.quietOps Aw.wpP Aw.wpT Aw.wpS Aw.AOp.mild List.getElem?_cons_zero List.getElem?_cons_succ Bool.and_false Bool.and_self Bool.false_and Aw.opOb Aw.gdB Aw.Rnd Aw.subTm List.length_map Int.toNat_natCast and_self Aw.SeqC Aw.stops Aw.Ends Aw.looks Aw.renA Aw.renL Aw.renT Aw.renS Aw.wpO Aw.aop Aw.putTm Aw.St.ev Aw.St.put Aw.St.putO Aw.binAV Aw.intBin Aw.strBin Aw.pickAV Aw.optInt Aw.AV.strip Aw.AV.guard Aw.AV.cells Aw.gdOb Aw.AOp.opds Aw.AOp.still Aw.ptrCells Aw.St.reg Aw.fillAV Aw.fillOb Aw.elsOb Aw.splice Aw.firm Aw.cellish Aw.AV.shut Aw.shutAll Aw.Seq Aw.Blk Aw.retS_nil Aw.mapA Aw.mapL Aw.borA Aw.borOb Aw.allOb Aw.tupOf Aw.params Aw.Opd.of Array.toList Value.cells List.map_cons List.map_nil List.getD_cons_zero List.getD_cons_succ List.getD_nil List.length_cons List.length_nil List.take_succ_cons List.take_zero List.take_nil List.drop_zero List.drop_succ_cons List.drop_nil List.set_cons_zero List.set_cons_succ List.append_nil List.nil_append List.cons_append List.all_cons List.all_nil cond_false cond_true if_true if_false true_and and_true Bool.and_true Bool.true_and Option.map_some Option.map_none false_implies forall_const implies_true forall_eq imp_self Bool.cond_false_right Bool.cond_true_left beq_true beq_false Bool.not_eq_true' Bool.false_eq_true Nat.zero_add Nat.add_zero Aw.eqCells Aw.stopDraw Aw.skipS Aw.exactCap Aw.revealS Aw.srcEls Aw.srcSz
attribute [local go_sem ↓] Aw.look_nil Aw.look_ite Aw.wpL_nil Aw.wpL_op Aw.wpL_gd Aw.wpQ_nil Aw.wpQ_op Aw.wpQ_gd Aw.wpC_draw Aw.wpC_reg Aw.wpC_skip Aw.wpC_ret Aw.wpC_exit Aw.wpC_seq Aw.wpC_block Aw.wpC_loop Aw.wpC_cond Aw.stopAt_nil Aw.stopAt_cons Aw.wpD_skip Aw.wpD_ret Aw.wpD_exit Aw.wpD_region Aw.wpD_draw Aw.wpM_nil Aw.wpM_op Aw.wpM_gd Aw.wpD_seq Aw.wpD_block Aw.wpD_loop Aw.wpD_cond
/- (*gridhall/order.planner).fill -/
def a22 : ACode :=
  (.seq (.region false [] [
     ⟨(some 8), none, (.mov (.t 0))⟩,
     ⟨(some 9), none, (.bsl 3 1 1 [(0, (.v (.int .i64 (-1))))])⟩,
     ⟨(some 10), none, (.mov (.t 0))⟩,
     ⟨(some 11), none, (.nilc (.t 10))⟩,
     ⟨(some 12), none, (.fld 1 (.t 11))⟩,
     ⟨(some 13), none, (.load 1 false (.t 12))⟩,
     ⟨(some 14), none, (.len (.t 13))⟩,
     ⟨(some 15), none, (.bin .shl 3 (.v (.int .i64 1)) (.t 14))⟩,
     ⟨(some 16), none, (.call 34 [(.t 9), (.t 15)])⟩,
     ⟨(some 17), none, (.nilc (.t 8))⟩,
     ⟨(some 18), none, (.fld 3 (.t 17))⟩,
     ⟨none, none, (.store 1 (.t 18) (.t 16))⟩])
  (.seq (.region false [] [
     ⟨(some 19), none, (.mov (.t 0))⟩,
     ⟨(some 20), none, (.nilc (.t 19))⟩,
     ⟨(some 21), none, (.fld 3 (.t 20))⟩,
     ⟨(some 22), none, (.load 1 false (.t 21))⟩,
     ⟨(some 23), none, (.mov (.t 1))⟩,
     ⟨(some 24), none, (.idx 1 (.t 22) (.t 23))⟩,
     ⟨none, none, (.store 1 (.t 24) (.v (.int .i64 0)))⟩])
  (.seq (.region false [] [
     ⟨(some 25), none, (.mov (.t 1))⟩,
     ⟨(some 26), none, (.bsl 3 1 1 [(0, (.t 25))])⟩,
     ⟨(some 4), none, (.mov (.t 26))⟩])
  (.block 0 (.loop (.seq (.seq (.region false [] [
       ⟨(some 27), none, (.mov (.t 4))⟩,
       ⟨(some 28), none, (.len (.t 27))⟩,
       ⟨(some 29), none, (.bin .gtr 3 (.t 28) (.v (.int .i64 0)))⟩])
    (.cond (.t 29)
      .skip
      (.exit 0)))
    (.seq (.block 1 (.seq (.region false [] [
        ⟨(some 32), none, (.mov (.t 4))⟩,
        ⟨(some 33), none, (.idx 1 (.t 32) (.v (.int .i64 0)))⟩,
        ⟨(some 34), none, (.load 1 false (.t 33))⟩,
        ⟨(some 5), none, (.mov (.t 34))⟩])
     (.seq (.region false [] [
        ⟨(some 35), none, (.mov (.t 0))⟩,
        ⟨(some 36), none, (.nilc (.t 35))⟩,
        ⟨(some 37), none, (.fld 1 (.t 36))⟩,
        ⟨(some 38), none, (.load 1 false (.t 37))⟩,
        ⟨(some 39), none, (.len (.t 38))⟩,
        ⟨(some 40), none, (.mov (.v (.int .i64 0)))⟩])
     (.block 2 (.loop (.seq (.region false [] [
          ⟨(some 41), none, (.bin .lss 3 (.t 40) (.t 39))⟩])
       (.seq (.cond (.t 41)
         .skip
         (.exit 2))
       (.seq (.block 3 (.seq (.region false [] [
           ⟨(some 42), none, (.mov (.t 40))⟩,
           ⟨(some 6), none, (.mov (.t 42))⟩])
        (.seq (.region false [] [
           ⟨(some 43), none, (.mov (.t 5))⟩,
           ⟨(some 44), none, (.mov (.t 6))⟩,
           ⟨(some 45), none, (.bin .shl 3 (.v (.int .i64 1)) (.t 44))⟩,
           ⟨(some 46), none, (.bin .xor 3 (.t 43) (.t 45))⟩,
           ⟨(some 7), none, (.mov (.t 46))⟩])
        (.seq (.region false [] [
           ⟨(some 47), none, (.mov (.t 0))⟩,
           ⟨(some 48), none, (.nilc (.t 47))⟩,
           ⟨(some 49), none, (.fld 3 (.t 48))⟩,
           ⟨(some 50), none, (.load 1 false (.t 49))⟩,
           ⟨(some 51), none, (.mov (.t 7))⟩,
           ⟨(some 52), none, (.idx 1 (.t 50) (.t 51))⟩,
           ⟨(some 53), none, (.load 1 false (.t 52))⟩,
           ⟨(some 54), none, (.bin .lss 3 (.t 53) (.v (.int .i64 0)))⟩,
           ⟨(some 55), none, (.mov (.t 54))⟩,
           ⟨(some 56), (some (55, true)), (.mov (.t 0))⟩,
           ⟨(some 57), (some (55, true)), (.mov (.t 7))⟩,
           ⟨(some 58), (some (55, true)), (.mov (.t 6))⟩,
           ⟨(some 59), (some (55, true)), (.call 24 [(.t 56), (.t 57), (.t 58)])⟩,
           ⟨(some 60), none, (.pick (.t 55) (.t 59) (.v (.bool false)))⟩])
        (.cond (.t 60)
          (.seq (.region true [[], [0], [1], [2], [], [], [5], [6], [7], [], [8, 9], [10], [11], [3, 4, 0, 1, 2, 3, 4, 5, 6, 7, 8, 9, 10, 11, 12], [13, 12, 0, 1, 2, 3, 4, 5, 6, 7, 8, 9, 10, 11, 12]] [
             ⟨(some 61), none, (.mov (.t 0))⟩,
             ⟨(some 62), none, (.nilc (.t 61))⟩,
             ⟨(some 63), none, (.fld 3 (.t 62))⟩,
             ⟨(some 64), none, (.load 1 false (.t 63))⟩,
             ⟨(some 65), none, (.mov (.t 7))⟩,
             ⟨(some 66), none, (.mov (.t 0))⟩,
             ⟨(some 67), none, (.nilc (.t 66))⟩,
             ⟨(some 68), none, (.fld 3 (.t 67))⟩,
             ⟨(some 69), none, (.load 1 false (.t 68))⟩,
             ⟨(some 70), none, (.mov (.t 5))⟩,
             ⟨(some 71), none, (.idx 1 (.t 69) (.t 70))⟩,
             ⟨(some 72), none, (.load 1 false (.t 71))⟩,
             ⟨(some 73), none, (.bin .add 3 (.t 72) (.v (.int .i64 1)))⟩,
             ⟨(some 74), none, (.idx 1 (.t 64) (.t 65))⟩,
             ⟨none, none, (.store 1 (.t 74) (.t 73))⟩])
          (.region false [] [
             ⟨(some 75), none, (.mov (.t 4))⟩,
             ⟨(some 76), none, (.mov (.t 7))⟩,
             ⟨(some 77), none, (.bsl 3 1 1 [(0, (.t 76))])⟩,
             ⟨(some 78), none, (.app 3 1 8 (.int .i64 0) (.t 75) (.t 77))⟩,
             ⟨(some 4), none, (.mov (.t 78))⟩]))
          .skip)))))
       (.region false [] [
          ⟨(some 79), none, (.bin .add 3 (.t 40) (.v (.int .i64 1)))⟩,
          ⟨(some 40), none, (.mov (.t 79))⟩])))))))))
    (.region false [] [
       ⟨(some 30), none, (.mov (.t 4))⟩,
       ⟨(some 31), none, (.slc 1 (.t 30) (some (.v (.int .i64 1))) none none)⟩,
       ⟨(some 4), none, (.mov (.t 31))⟩]))))))))
theorem k22 : FnIs Try.prog 22 80 [] a22 := ⟨_, _, Try.func22, rfl, by kernel_rfl, by kernel_rfl, rfl⟩

/-- A planner. -/
structure Pln where
  nr : Option Bool
  fr : Bool
  rules : List Rul
  nl : Option Bool
  fl : Bool
  l : List Sta
  nh : Option Bool
  fh : Bool
  held : List ByteArray
structure PlnOk (p : Pln) : Prop where
  l8 : p.l.length ≤ 8
  h : p.held.length ≤ 1000
  rs : ∀ r ∈ p.rules, RulOk r
  ls : ∀ x ∈ p.l, x.name.size ≤ 9223372036854775807
def Pln.may (p : Pln) (n k : Nat) : Bool := mayF p.rules p.l p.held n k
/-- The box of a planner. -/
abbrev plC (p : Pln) (far : AV) : List AV := [rs p.nr p.fr p.rules, sts' p.nl p.fl p.l, ss p.nh p.fh p.held, far]
abbrev nic (n : Nat) : List AV := [I n]
set_option maxRecDepth 20000 in
set_option maxHeartbeats 2000000 in
theorem s22 (p : Pln) (goal : Nat) (hp' : PlnOk p) (hg : goal < 2 ^ p.l.length) : Aw.Spec Try.prog 22 [.box 60 (plC p (.val (.slice none 0 0)))] [.ptr 0 0 0, I goal]
    (fun rg v => rg = [.box 60 (plC p (.hnd 1 0 (2 ^ p.l.length) (2 ^ p.l.length) true)), .arr 3 1 ((bfsF p.may p.l.length goal).map ic)]) := by
  refine Aw.Spec.regsD k22 mixed rfl rfl rfl fun E hn hnp hp => ?_
  replace hnp : E.np = 1 := hnp
  unfold a22
  have pin1 : ∀ r, 1 ≤ r → E.pin r = none := fun r hr => hp.none hnp hr
  have l8 := hp'.l8
  have h256 := pow8 l8
  have h64 : min p.l.length 64 = p.l.length := Nat.min_eq_left (by omega)
  have e1 := bitS (k := p.l.length) (by omega)
  simp (config := { maxSteps := 2000000 }) only [go_sem, ↓reduceIte, Int.reduceToNat, Nat.reduceMul, Int.reduceBEq, Int.reduceBNe, Nat.reduceBEq, Nat.reduceAdd, Nat.reduceSub, Nat.reduceLeDiff, Nat.reduceEqDiff, Nat.reduceLT, reduceCtorEq, plC, h64, e1]
  (repeat (refine And.intro (by first | omega | (refine ⟨by omega, by omega⟩) | (refine ⟨by omega, by omega, by omega⟩) | (simp only [List.length_map, List.length_range, List.length_append, List.length_cons, List.length_nil, List.length_replicate, List.length_set]; omega) | (simp; omega) | (intro hgd; cases hgd) | (intro hgd; refine ⟨hgd, ?_⟩; first | omega | (refine ⟨by omega, by omega⟩) | (simp; omega))) ?_))
  refine AWpL.calleB (s34 none false p.l.length l8) (by simp (config := { maxSteps := 2000000 }) only [go_sem, ↓reduceIte, Int.reduceToNat, Nat.reduceMul, Int.reduceBEq, Int.reduceBNe, Nat.reduceBEq, Nat.reduceAdd, Nat.reduceSub, Nat.reduceLeDiff, Nat.reduceEqDiff, Nat.reduceLT, reduceCtorEq]) (by rw [hn]; rfl) (by simp (config := { maxSteps := 2000000 }) only [go_sem, ↓reduceIte, Int.reduceToNat, Nat.reduceMul, Int.reduceBEq, Int.reduceBNe, Nat.reduceBEq, Nat.reduceAdd, Nat.reduceSub, Nat.reduceLeDiff, Nat.reduceEqDiff, Nat.reduceLT, reduceCtorEq]) fun rg v hv => ?_
  obtain ⟨rfl, rfl⟩ := hv
  refine ⟨⟨by unfold NI; trivial, fun g hg => by
    rw [List.mem_singleton.1 hg]
    unfold NIR
    intro el hm
    rw [List.eq_of_mem_replicate hm]
    simp only [NIL, NI, and_self]⟩, AWpL.ofM hn rfl ?_⟩
  simp (config := { maxSteps := 2000000 }) only [go_sem, ↓reduceIte, Int.reduceToNat, Nat.reduceMul, Int.reduceBEq, Int.reduceBNe, Nat.reduceBEq, Nat.reduceAdd, Nat.reduceSub, Nat.reduceLeDiff, Nat.reduceEqDiff, Nat.reduceLT, reduceCtorEq, Aw.retS, Aw.retRg, Aw.kpM, Aw.bkM, Aw.pos, Aw.isBox, List.getElem?_nil, List.length_replicate]
  have hset : (List.replicate (2 ^ p.l.length) [I (-1)]).set goal [I 0] = (far0 p.l.length goal).map ic := by
    unfold far0
    rw [List.map_set, List.map_replicate]
  have hfl : (far0 p.l.length goal).length = 2 ^ p.l.length := by unfold far0; simp
  have hgr : (List.replicate (2 ^ p.l.length) [I (-1)]).getD goal [] = [I (-1)] := by
    rw [List.getD_eq_getElem?_getD, List.getElem?_replicate, if_pos hg]; rfl
  have hN : 0 < 2 ^ p.l.length := Nat.pow_pos (by decide)
  simp (config := { maxSteps := 2000000 }) only [go_sem, ↓reduceIte, Int.reduceToNat, Nat.reduceMul, Int.reduceBEq, Int.reduceBNe, Nat.reduceBEq, Nat.reduceAdd, Nat.reduceSub, Nat.reduceLeDiff, Nat.reduceEqDiff, Nat.reduceLT, reduceCtorEq, hgr, hset, List.length_replicate]
  (repeat (refine And.intro (by first | omega | (refine ⟨by omega, by omega⟩) | (refine ⟨by omega, by omega, by omega⟩) | (simp only [List.length_map, List.length_range, List.length_append, List.length_cons, List.length_nil, List.length_replicate, List.length_set]; omega) | (simp; omega) | (intro hgd; cases hgd) | (intro hgd; refine ⟨hgd, ?_⟩; first | omega | (refine ⟨by omega, by omega⟩) | (simp; omega))) ?_))
  generalize hNN : 2 ^ p.l.length = N at *
  refine AWp.weak (weak_ent 4 (by rfl) (Ent.cap _ _ _ _ _)) ?_
  simp (config := { maxSteps := 2000000 }) only [go_sem, ↓reduceIte, Int.reduceToNat, Nat.reduceMul, Int.reduceBEq, Int.reduceBNe, Nat.reduceBEq, Nat.reduceAdd, Nat.reduceSub, Nat.reduceLeDiff, Nat.reduceEqDiff, Nat.reduceLT, reduceCtorEq]
  refine AWp.loop (fun k s => ∃ (far : List Int) (q : List Nat), negs far + q.length ≤ k ∧ negs far + q.length ≤ N ∧ BO p.may p.l.length goal far q ∧ bfsF p.may p.l.length goal = bfsGo p.may p.l.length k far q ∧
      Weak E s ⟨[(0, .ptr 0 0 0), (4, .hnd 2 0 q.length q.length false)], [.box 60 (plC p (.hnd 1 0 N N true)), .arr 3 1 (far.map ic), .arr 3 1 (q.map nic)]⟩) (n := N)
    ⟨far0 p.l.length goal, [goal], by have := far0_negs (hNN.symm ▸ hg); simp only [List.length_cons, List.length_nil]; omega, by have := far0_negs (hNN.symm ▸ hg); simp only [List.length_cons, List.length_nil]; omega, BO.init _ (hNN.symm ▸ hg), by unfold bfsF; rw [hNN], weak_to [0, 2, 3] hp hnp rfl (by simp (config := { maxSteps := 2000000 }) only [go_sem, ↓reduceIte, Int.reduceToNat, Nat.reduceMul, Int.reduceBEq, Int.reduceBNe, Nat.reduceBEq, Nat.reduceAdd, Nat.reduceSub, Nat.reduceLeDiff, Nat.reduceEqDiff, Nat.reduceLT, reduceCtorEq, Aw.pos]) (by simp (config := { maxSteps := 2000000 }) only [go_sem, ↓reduceIte, Int.reduceToNat, Nat.reduceMul, Int.reduceBEq, Int.reduceBNe, Nat.reduceBEq, Nat.reduceAdd, Nat.reduceSub, Nat.reduceLeDiff, Nat.reduceEqDiff, Nat.reduceLT, reduceCtorEq, Aw.renR, Aw.pos])⟩ ?_
  rintro k s ⟨far, q, hme, hmN, hBO, hbf, hw⟩
  refine AWp.weak hw (AWp.ofD [] [] hn mixed rfl ?_)
  cases q with
  | nil =>
    have e0 : decide ((0 : Int) > 0) = false := rfl
    simp (config := { maxSteps := 2000000 }) only [go_sem, ↓reduceIte, Int.reduceToNat, Nat.reduceMul, Int.reduceBEq, Int.reduceBNe, Nat.reduceBEq, Nat.reduceAdd, Nat.reduceSub, Nat.reduceLeDiff, Nat.reduceEqDiff, Nat.reduceLT, reduceCtorEq, plC, e0]
    refine Retn.normal (π := [0, 1]) hp hnp ⟨rfl, ?_⟩
    have hb2 : bfsGo p.may p.l.length k far [] = far := by cases k <;> rfl
    simp (config := { maxSteps := 2000000 }) only [go_sem, ↓reduceIte, Int.reduceToNat, Nat.reduceMul, Int.reduceBEq, Int.reduceBNe, Nat.reduceBEq, Nat.reduceAdd, Nat.reduceSub, Nat.reduceLeDiff, Nat.reduceEqDiff, Nat.reduceLT, reduceCtorEq, Aw.renR, Aw.pos, hbf, hb2]
  | cons n q =>
    have e0 : decide ((((n :: q).length : Nat) : Int) > 0) = true := decide_eq_true (by simp only [List.length_cons]; omega)
    have hlen : (n :: q).length = q.length + 1 := rfl
    have hmap : ((n :: q).map nic).getD 0 [] = nic n := rfl
    have hn1 := (hBO.qin n List.mem_cons_self).1
    have hk0 : 0 < k := by simp only [List.length_cons] at hme; omega
    have hbs : bfsF p.may p.l.length goal = bfsGo p.may p.l.length (k - 1) (stepN p.may n p.l.length (far, n :: q)).1 (stepN p.may n p.l.length (far, n :: q)).2.tail := by
      rw [hbf]
      obtain ⟨j, rfl⟩ : ∃ j, k = j + 1 := ⟨k - 1, by omega⟩
      rfl
    have hstep := hBO.step l8
    have hrun := hBO.start.run l8
    clear hbf
    generalize hq0 : n :: q = q0 at *
    simp (config := { maxSteps := 2000000 }) only [go_sem, ↓reduceIte, Int.reduceToNat, Nat.reduceMul, Int.reduceBEq, Int.reduceBNe, Nat.reduceBEq, Nat.reduceAdd, Nat.reduceSub, Nat.reduceLeDiff, Nat.reduceEqDiff, Nat.reduceLT, reduceCtorEq, e0, plC, hmap]
    (repeat (refine And.intro (by first | omega | (refine ⟨by omega, by omega⟩) | (refine ⟨by omega, by omega, by omega⟩) | (simp only [List.length_map, List.length_range, List.length_append, List.length_cons, List.length_nil, List.length_replicate, List.length_set]; omega) | (simp; omega) | (intro hgd; cases hgd) | (intro hgd; refine ⟨hgd, ?_⟩; first | omega | (refine ⟨by omega, by omega⟩) | (simp; omega))) ?_))
    refine AWp.loop (fun k s => ∃ i : Nat, i + k = p.l.length ∧ Weak E s ⟨[(0, .ptr 0 0 0), (4, .hnd 2 0 (stepN p.may n i (far, q0)).2.length (stepN p.may n i (far, q0)).2.length false), (5, I n), (39, I p.l.length), (40, I i)],
        [.box 60 (plC p (.hnd 1 0 N N true)), .arr 3 1 ((stepN p.may n i (far, q0)).1.map ic), .arr 3 1 ((stepN p.may n i (far, q0)).2.map nic)]⟩) (n := p.l.length)
      ⟨0, by omega, weak_to [0, 1, 2] hp hnp rfl (by simp (config := { maxSteps := 2000000 }) only [go_sem, ↓reduceIte, Int.reduceToNat, Nat.reduceMul, Int.reduceBEq, Int.reduceBNe, Nat.reduceBEq, Nat.reduceAdd, Nat.reduceSub, Nat.reduceLeDiff, Nat.reduceEqDiff, Nat.reduceLT, reduceCtorEq, Aw.pos, Int.natCast_zero]; rfl) (by simp (config := { maxSteps := 2000000 }) only [go_sem, ↓reduceIte, Int.reduceToNat, Nat.reduceMul, Int.reduceBEq, Int.reduceBNe, Nat.reduceBEq, Nat.reduceAdd, Nat.reduceSub, Nat.reduceLeDiff, Nat.reduceEqDiff, Nat.reduceLT, reduceCtorEq, Aw.renR, Aw.pos]; rfl)⟩ ?_
    clear hw
    rintro k2 s ⟨i, hik, hw⟩
    refine AWp.weak hw (AWp.ofD [] [] hn mixed rfl ?_)
    rcases Nat.lt_or_ge i p.l.length with hlt | hge
    · have e1 : decide ((i : Int) < (p.l.length : Int)) = true := decide_eq_true (by omega)
      have e2 : IntKind.i64.wrap ((i : Int) + 1) = ((i + 1 : Nat) : Int) := by rw [w64 (by omega) (by omega)]; omega
      have h64i : min i 64 = i := Nat.min_eq_left (by omega)
      have eS := bitS (k := i) (by omega)
      have eX := bitX (n := n) (k := i) (by omega) (by omega)
      have hm := flip_lt hn1 hlt
      obtain ⟨hBJ, hms⟩ := hrun i (by omega)
      have hsu := stepN_succ p.may n i (far, q0)
      have hln := hBJ.len
      have hbn := hBJ.bnd n hn1
      have hqi := hBJ.qin
      have hsK : stepK p.may n (stepN p.may n i (far, q0)) i = if (stepN p.may n i (far, q0)).1.getD (flip n i) 0 < 0 ∧ p.may (flip n i) i = true then ((stepN p.may n i (far, q0)).1.set (flip n i) (IntKind.i64.wrap ((stepN p.may n i (far, q0)).1.getD n 0 + 1)), (stepN p.may n i (far, q0)).2 ++ [flip n i]) else stepN p.may n i (far, q0) := rfl
      generalize stepN p.may n i (far, q0) = fq at *
      obtain ⟨far1, q1⟩ := fq
      dsimp only at hln hsK hbn hqi hms
      have hq256 : q1.length ≤ 256 := by omega
      have em := getD_mapD (0 : Int) ic (l := far1) (i := flip n i) (by omega)
      have en := getD_mapD (0 : Int) ic (l := far1) (i := n) (by omega)
      generalize flip n i = m at *
      simp (config := { maxSteps := 2000000 }) only [go_sem, ↓reduceIte, Int.reduceToNat, Nat.reduceMul, Int.reduceBEq, Int.reduceBNe, Nat.reduceBEq, Nat.reduceAdd, Nat.reduceSub, Nat.reduceLeDiff, Nat.reduceEqDiff, Nat.reduceLT, reduceCtorEq, e1, plC, h64i, eS, eX, em, List.length_map, hln]
      (repeat (refine And.intro (by first | omega | (refine ⟨by omega, by omega⟩) | (refine ⟨by omega, by omega, by omega⟩) | (simp only [List.length_map, List.length_range, List.length_append, List.length_cons, List.length_nil, List.length_replicate, List.length_set]; omega) | (simp; omega) | (intro hgd; cases hgd) | (intro hgd; refine ⟨hgd, ?_⟩; first | omega | (refine ⟨by omega, by omega⟩) | (simp; omega))) ?_))
      refine AWpL.gcalle (b := decide (far1.getD m 0 < 0)) (by simp (config := { maxSteps := 2000000 }) only [go_sem, ↓reduceIte, Int.reduceToNat, Nat.reduceMul, Int.reduceBEq, Int.reduceBNe, Nat.reduceBEq, Nat.reduceAdd, Nat.reduceSub, Nat.reduceLeDiff, Nat.reduceEqDiff, Nat.reduceLT, reduceCtorEq]) (fun _ => s24 p.nr p.fr p.rules p.nl p.fl p.l p.nh p.fh p.held _ m i l8 hlt (by omega) hp'.h hp'.rs hp'.ls) rfl (by rw [hn]; rfl) (fun hb => by simp (config := { maxSteps := 2000000 }) only [go_sem, ↓reduceIte, Int.reduceToNat, Nat.reduceMul, Int.reduceBEq, Int.reduceBNe, Nat.reduceBEq, Nat.reduceAdd, Nat.reduceSub, Nat.reduceLeDiff, Nat.reduceEqDiff, Nat.reduceLT, reduceCtorEq]; exact ⟨by omega, hb⟩) (AWpL.ofM hn rfl ?_)
      have hpm : mayF p.rules p.l p.held m i = p.may m i := rfl
      simp (config := { maxSteps := 2000000 }) only [go_sem, ↓reduceIte, Int.reduceToNat, Nat.reduceMul, Int.reduceBEq, Int.reduceBNe, Nat.reduceBEq, Nat.reduceAdd, Nat.reduceSub, Nat.reduceLeDiff, Nat.reduceEqDiff, Nat.reduceLT, reduceCtorEq, hpm]
      refine ⟨fun h => ?_, fun h => ?_⟩
      · simp only [Bool.and_eq_true, decide_eq_true_eq] at h
        rw [if_pos h] at hsK
        refine AWp.cut ⟨[(0, .ptr 0 0 0), (4, .hnd 2 0 q1.length q1.length false), (5, I n), (7, I m), (39, I p.l.length), (40, I i)], [.box 60 (plC p (.hnd 1 0 N N true)), .arr 3 1 ((far1.set m (IntKind.i64.wrap (far1.getD n 0 + 1))).map ic), .arr 3 1 (q1.map nic)]⟩ ?_ ?_
        · refine AWp.plan (.take 0 [false, false, false, false, true, true, true, true, true, true, true, true, true, false, false] (.take 1 [true, false, false, false, true, true, true, true, true, true, true, true, true, false, false] (.take 2 [true, true, false, false, true, true, true, true, true, true, true, true, true, false, false] (.take 3 [true, true, true, false, true, true, true, true, true, true, true, true, true, false, false] (.take 4 [true, true, true, true, false, true, true, true, true, true, true, true, true, false, false] (.take 5 [true, true, true, true, true, false, false, false, false, true, false, false, false, false, false] (.take 6 [true, true, true, true, true, true, false, false, false, true, false, false, false, false, false] (.take 7 [true, true, true, true, true, true, true, false, false, true, false, false, false, false, false] (.take 8 [true, true, true, true, true, true, true, true, false, true, false, false, false, false, false] (.take 9 [true, true, true, true, true, true, true, true, true, false, false, false, false, false, false] (.take 10 [true, true, true, true, true, true, true, true, true, true, false, false, false, false, false] (.take 11 [true, true, true, true, true, true, true, true, true, true, true, false, false, false, false] (.take 12 [true, true, true, true, true, true, true, true, true, true, true, true, false, false, false] (.take 13 [true, true, true, true, true, true, true, true, true, true, true, true, true, false, false] (.one 14 .done))))))))))))))) [true, true, true, true, true, true, true, true, true, true, true, true, true, true, false] mixed hn rfl rfl ?_
          simp (config := { maxSteps := 2000000 }) only [go_sem, ↓reduceIte, Int.reduceToNat, Nat.reduceMul, Int.reduceBEq, Int.reduceBNe, Nat.reduceBEq, Nat.reduceAdd, Nat.reduceSub, Nat.reduceLeDiff, Nat.reduceEqDiff, Nat.reduceLT, reduceCtorEq, en, em, List.length_map, hln]
          (repeat (refine And.intro (by first | omega | (refine ⟨by omega, by omega⟩) | (refine ⟨by omega, by omega, by omega⟩) | (simp only [List.length_map, List.length_range, List.length_append, List.length_cons, List.length_nil, List.length_replicate, List.length_set]; omega) | (simp; omega) | (intro hgd; cases hgd) | (intro hgd; refine ⟨hgd, ?_⟩; first | omega | (refine ⟨by omega, by omega⟩) | (simp; omega))) ?_))
          have h7 := List.map_set (f := ic) (l := far1) (i := m) (a := IntKind.i64.wrap (far1.getD n 0 + 1))
          exact weak_to [0, 1, 2] hp hnp rfl (by simp (config := { maxSteps := 2000000 }) only [go_sem, ↓reduceIte, Int.reduceToNat, Nat.reduceMul, Int.reduceBEq, Int.reduceBNe, Nat.reduceBEq, Nat.reduceAdd, Nat.reduceSub, Nat.reduceLeDiff, Nat.reduceEqDiff, Nat.reduceLT, reduceCtorEq, Aw.pos]) (by rw [h7]; simp (config := { maxSteps := 2000000 }) only [go_sem, ↓reduceIte, Int.reduceToNat, Nat.reduceMul, Int.reduceBEq, Int.reduceBNe, Nat.reduceBEq, Nat.reduceAdd, Nat.reduceSub, Nat.reduceLeDiff, Nat.reduceEqDiff, Nat.reduceLT, reduceCtorEq, Aw.renR, Aw.pos, plC])
        simp (config := { maxSteps := 2000000 }) only [go_sem, ↓reduceIte, Int.reduceToNat, Nat.reduceMul, Int.reduceBEq, Int.reduceBNe, Nat.reduceBEq, Nat.reduceAdd, Nat.reduceSub, Nat.reduceLeDiff, Nat.reduceEqDiff, Nat.reduceLT, reduceCtorEq, plC]
        refine AWpL.app (r := 2) (els := q1.map nic) (ys := [[I m]]) rfl rfl rfl rfl (by rw [hn]; rfl) (by simp) (pin1 2 (by decide)) (Nat.le_refl 1) (fun el hm y hy => ?_) (by simp only [List.length_cons, List.length_nil]; omega) (by simp only [List.length_cons, List.length_nil]; omega) (AWpL.ofM hn rfl ?_)
        · rw [List.mem_singleton.1 hm] at hy
          rw [List.mem_singleton.1 hy]; rfl
        simp (config := { maxSteps := 2000000 }) only [go_sem, ↓reduceIte, Int.reduceToNat, Nat.reduceMul, Int.reduceBEq, Int.reduceBNe, Nat.reduceBEq, Nat.reduceAdd, Nat.reduceSub, Nat.reduceLeDiff, Nat.reduceEqDiff, Nat.reduceLT, reduceCtorEq, e2]
        exact ⟨k2 - 1, by omega, i + 1, by omega, weak_to [0, 1, 2] hp hnp rfl (by simp (config := { maxSteps := 2000000 }) only [go_sem, ↓reduceIte, Int.reduceToNat, Nat.reduceMul, Int.reduceBEq, Int.reduceBNe, Nat.reduceBEq, Nat.reduceAdd, Nat.reduceSub, Nat.reduceLeDiff, Nat.reduceEqDiff, Nat.reduceLT, reduceCtorEq, Aw.pos, hsu, hsK, List.length_append]) (by simp (config := { maxSteps := 2000000 }) only [go_sem, ↓reduceIte, Int.reduceToNat, Nat.reduceMul, Int.reduceBEq, Int.reduceBNe, Nat.reduceBEq, Nat.reduceAdd, Nat.reduceSub, Nat.reduceLeDiff, Nat.reduceEqDiff, Nat.reduceLT, reduceCtorEq, Aw.renR, Aw.pos, hsu, hsK, plC, List.map_append])⟩
      · rw [if_neg (by simpa using h)] at hsK
        simp (config := { maxSteps := 2000000 }) only [go_sem, ↓reduceIte, Int.reduceToNat, Nat.reduceMul, Int.reduceBEq, Int.reduceBNe, Nat.reduceBEq, Nat.reduceAdd, Nat.reduceSub, Nat.reduceLeDiff, Nat.reduceEqDiff, Nat.reduceLT, reduceCtorEq, e2]
        exact ⟨k2 - 1, by omega, i + 1, by omega, weak_to [0, 1, 2] hp hnp rfl (by simp (config := { maxSteps := 2000000 }) only [go_sem, ↓reduceIte, Int.reduceToNat, Nat.reduceMul, Int.reduceBEq, Int.reduceBNe, Nat.reduceBEq, Nat.reduceAdd, Nat.reduceSub, Nat.reduceLeDiff, Nat.reduceEqDiff, Nat.reduceLT, reduceCtorEq, Aw.pos, hsu, hsK]) (by simp (config := { maxSteps := 2000000 }) only [go_sem, ↓reduceIte, Int.reduceToNat, Nat.reduceMul, Int.reduceBEq, Int.reduceBNe, Nat.reduceBEq, Nat.reduceAdd, Nat.reduceSub, Nat.reduceLeDiff, Nat.reduceEqDiff, Nat.reduceLT, reduceCtorEq, Aw.renR, Aw.pos, hsu, hsK, plC])⟩
    · obtain rfl : i = p.l.length := by omega
      have e1 : decide ((p.l.length : Int) < (p.l.length : Int)) = false := decide_eq_false (by omega)
      obtain ⟨hBJ, hms⟩ := hrun p.l.length (by omega)
      obtain ⟨q', hqh⟩ := hBJ.hd
      generalize stepN p.may n p.l.length (far, q0) = fq at *
      obtain ⟨far1, q1⟩ := fq
      dsimp only at hqh hms
      subst hqh
      simp (config := { maxSteps := 2000000 }) only [go_sem, ↓reduceIte, Int.reduceToNat, Nat.reduceMul, Int.reduceBEq, Int.reduceBNe, Nat.reduceBEq, Nat.reduceAdd, Nat.reduceSub, Nat.reduceLeDiff, Nat.reduceEqDiff, Nat.reduceLT, reduceCtorEq, e1, plC]
      (repeat (refine And.intro (by first | omega | (refine ⟨by omega, by omega⟩) | (refine ⟨by omega, by omega, by omega⟩) | (simp only [List.length_map, List.length_range, List.length_append, List.length_cons, List.length_nil, List.length_replicate, List.length_set]; omega) | (simp; omega) | (intro hgd; cases hgd) | (intro hgd; refine ⟨hgd, ?_⟩; first | omega | (refine ⟨by omega, by omega⟩) | (simp; omega))) ?_))
      have h8 : q'.length + 1 - 1 = q'.length := rfl
      refine ⟨k - 1, by omega, far1, q', by have := hstep.2; simp only [List.tail_cons] at this; omega, by have := hstep.2; simp only [List.tail_cons] at this; omega, hstep.1, hbs, ?_⟩
      refine (weak_base 4 2 (off := 1) (by rfl) rfl (pin1 2 (by decide)) (by decide) (by simp)).trans ?_
      simp (config := { maxSteps := 2000000 }) only [go_sem, ↓reduceIte, Int.reduceToNat, Nat.reduceMul, Int.reduceBEq, Int.reduceBNe, Nat.reduceBEq, Nat.reduceAdd, Nat.reduceSub, Nat.reduceLeDiff, Nat.reduceEqDiff, Nat.reduceLT, reduceCtorEq, Aw.killS, Aw.mapT, Aw.mapR, Aw.killM, h8]
      exact weak_to [0, 1, 2] hp hnp rfl (by simp (config := { maxSteps := 2000000 }) only [go_sem, ↓reduceIte, Int.reduceToNat, Nat.reduceMul, Int.reduceBEq, Int.reduceBNe, Nat.reduceBEq, Nat.reduceAdd, Nat.reduceSub, Nat.reduceLeDiff, Nat.reduceEqDiff, Nat.reduceLT, reduceCtorEq, Aw.pos]) (by simp (config := { maxSteps := 2000000 }) only [go_sem, ↓reduceIte, Int.reduceToNat, Nat.reduceMul, Int.reduceBEq, Int.reduceBNe, Nat.reduceBEq, Nat.reduceAdd, Nat.reduceSub, Nat.reduceLeDiff, Nat.reduceEqDiff, Nat.reduceLT, reduceCtorEq, Aw.renR, Aw.pos, plC])
end Go.Proofs.Ytkbipopkemfhaaa
