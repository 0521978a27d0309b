/- Numbers: Gcd. -/
import Derived.Test.YtjaakbkneeojnaaDoorAwZl
import Derived.Test.YtjaakbkneeojnaaDoorNatH
set_option linter.unusedVariables false
set_option linter.unusedSimpArgs false
namespace Go.Proofs.YtjaakbkneeojnaaDoor
open Go.Proofs.YtjaakbkneeojnaaDoor.Aw
attribute [local go_sem] Int.natCast_zero Int.natCast_one bne_self_eq_false beq_self_eq_true Bool.not_true Bool.not_false Option.isSome_none Option.isSome_some Aw.bkM_nil Option.getD_some Option.getD_none Nat.sub_zero Int.toNat_zero Aw.frzS Aw.frzT Aw.frzA Aw.frzL Aw.frzR Aw.frzO Aw.frzOL Aw.frzOT Aw.frzOR Aw.killS Aw.mapT Aw.mapR Aw.killM Aw.resAVs Aw.resAV Aw.quietOps Aw.wpP Aw.wpT Aw.wpS Aw.AOp.mild List.getElem?_cons_zero List.getElem?_cons_succ Bool.and_false Bool.and_self Bool.false_and Aw.opOb Aw.gdB Aw.Rnd Aw.subTm List.length_map Int.toNat_natCast and_self Aw.SeqC Aw.stops Aw.Ends Aw.looks Aw.renA Aw.renL Aw.renT Aw.renS Aw.wpO Aw.aop Aw.putTm Aw.St.ev Aw.St.put Aw.St.putO Aw.binAV Aw.intBin Aw.strBin Aw.pickAV Aw.optInt Aw.AV.strip Aw.AV.guard Aw.AV.cells Aw.gdOb Aw.AOp.opds Aw.AOp.still Aw.ptrCells Aw.St.reg Aw.fillAV Aw.fillOb Aw.elsOb Aw.splice Aw.firm Aw.cellish Aw.AV.shut Aw.shutAll Aw.Seq Aw.Blk Aw.retS_nil Aw.mapA Aw.mapL Aw.borA Aw.borOb Aw.allOb Aw.tupOf Aw.params Aw.Opd.of Array.toList Value.cells List.map_cons List.map_nil List.getD_cons_zero List.getD_cons_succ List.getD_nil List.length_cons List.length_nil List.take_succ_cons List.take_zero List.take_nil List.drop_zero List.drop_succ_cons List.drop_nil List.set_cons_zero List.set_cons_succ List.append_nil List.nil_append List.cons_append List.all_cons List.all_nil cond_false cond_true if_true if_false true_and and_true Bool.and_true Bool.true_and Option.map_some Option.map_none false_implies forall_const implies_true forall_eq imp_self Bool.cond_false_right Bool.cond_true_left beq_true beq_false Bool.not_eq_true' Bool.false_eq_true Nat.zero_add Nat.add_zero Aw.eqCells Aw.stopDraw Aw.skipS Aw.exactCap Aw.revealS Aw.srcEls Aw.srcSz
attribute [local go_sem ↓] Aw.look_nil Aw.look_ite Aw.wpL_nil Aw.wpL_op Aw.wpL_gd Aw.wpQ_nil Aw.wpQ_op Aw.wpQ_gd Aw.wpC_draw Aw.wpC_reg Aw.wpC_skip Aw.wpC_ret Aw.wpC_exit Aw.wpC_seq Aw.wpC_block Aw.wpC_loop Aw.wpC_cond Aw.stopAt_nil Aw.stopAt_cons Aw.wpD_skip Aw.wpD_ret Aw.wpD_exit Aw.wpD_region Aw.wpD_draw Aw.wpM_nil Aw.wpM_op Aw.wpM_gd Aw.wpD_seq Aw.wpD_block Aw.wpD_loop Aw.wpD_cond
/- (gridhall/nat.N).Gcd -/
def a73 : ACode :=
  (.seq (.region false [] [
     ⟨(some 4), none, (.mov (.v (.slice none 0 0)))⟩])
  (.seq (.block 0 (.loop (.seq (.seq (.region false [] [
       ⟨(some 7), none, (.mov (.t 1))⟩,
       ⟨(some 8), none, (.len (.t 7))⟩,
       ⟨(some 9), none, (.bin .gtr 3 (.t 8) (.v (.int .i64 0)))⟩])
    (.cond (.t 9)
      .skip
      (.exit 0)))
    (.block 1 (.seq (.region false [] [
        ⟨(some 11), none, (.mov (.t 0))⟩,
        ⟨(some 12), none, (.mov (.t 1))⟩,
        ⟨(some 13), none, (.call 75 [(.t 11), (.t 12)])⟩,
        ⟨(some 10), none, (.mov (.t 13))⟩,
        ⟨(some 14), none, (.ext 0 (.t 10))⟩,
        ⟨(some 15), none, (.ext 1 (.t 10))⟩,
        ⟨(some 5), none, (.mov (.t 14))⟩,
        ⟨(some 6), none, (.mov (.t 15))⟩])
     (.region false [] [
        ⟨(some 16), none, (.mov (.t 1))⟩,
        ⟨(some 17), none, (.mov (.t 6))⟩,
        ⟨(some 0), none, (.mov (.t 16))⟩,
        ⟨(some 1), none, (.mov (.t 17))⟩]))))))
  (.seq (.region false [] [
     ⟨(some 18), none, (.mov (.t 0))⟩,
     ⟨(some 4), none, (.mov (.t 18))⟩])
  .ret)))
theorem k73 : FnIs Tryd.prog 73 19 [.t 4] a73 := ⟨_, _, Tryd.func73, rfl, by kernel_rfl, by kernel_rfl, rfl⟩

set_option maxRecDepth 20000 in
theorem s73 (n m : Nat) (hn0 : nl n ≤ 900000) (hm0 : nl m ≤ 900000) : Aw.Spec Tryd.prog 73 [] [nv n, nv m] (fun rg v => rg = [] ∧ v = nv (Nat.gcd n m)) := by
  refine Aw.Spec.regsW k73 rfl rfl fun E hn hnp hp => ?_
  unfold a73
  have pin : ∀ r, E.pin r = none := fun r => hp.none hnp (Nat.zero_le _)
  refine AWp.ofD [] [] hn mixed rfl ?_
  simp (config := { maxSteps := 2000000 }) only [go_sem, ↓reduceIte, Int.reduceToNat, Nat.reduceMul, Int.reduceBEq, Int.reduceBNe, Nat.reduceBEq, Nat.reduceAdd, Nat.reduceSub, Nat.reduceLeDiff, Nat.reduceEqDiff, Nat.reduceLT, reduceCtorEq]
  refine AWp.loop (fun k s => ∃ x y : Nat, y ≤ k ∧ nl x ≤ 900000 ∧ nl y ≤ 900000 ∧ Nat.gcd x y = Nat.gcd n m ∧ Weak E s ⟨[(0, nv x), (1, nv y)], []⟩) (n := m)
    ⟨n, m, Nat.le_refl _, hn0, hm0, rfl, weak_to [] hp hnp rfl (by simp (config := { maxSteps := 2000000 }) only [go_sem, ↓reduceIte, Int.reduceToNat, Nat.reduceMul, Int.reduceBEq, Int.reduceBNe, Nat.reduceBEq, Nat.reduceAdd, Nat.reduceSub, Nat.reduceLeDiff, Nat.reduceEqDiff, Nat.reduceLT, reduceCtorEq]) rfl⟩ ?_
  rintro k s ⟨x, y, hk, hx, hy, hg, hw⟩
  refine AWp.weak hw (AWp.ofD [] [] hn mixed rfl ?_)
  rcases Nat.eq_zero_or_pos y with h0 | h0
  · subst h0
    have e0 : decide ((((digs 0).length : Nat) : Int) > 0) = false := by rw [digs_zero]; rfl
    simp (config := { maxSteps := 2000000 }) only [go_sem, ↓reduceIte, Int.reduceToNat, Nat.reduceMul, Int.reduceBEq, Int.reduceBNe, Nat.reduceBEq, Nat.reduceAdd, Nat.reduceSub, Nat.reduceLeDiff, Nat.reduceEqDiff, Nat.reduceLT, reduceCtorEq, e0]
    refine Retn.ret (π := []) hp hnp ⟨rfl, ?_⟩
    simp (config := { maxSteps := 2000000 }) only [go_sem, ↓reduceIte, Int.reduceToNat, Nat.reduceMul, Int.reduceBEq, Int.reduceBNe, Nat.reduceBEq, Nat.reduceAdd, Nat.reduceSub, Nat.reduceLeDiff, Nat.reduceEqDiff, Nat.reduceLT, reduceCtorEq]
    rw [← hg, Nat.gcd_zero_right]
  · have e0 : decide ((((digs y).length : Nat) : Int) > 0) = true := decide_eq_true (by have := nl_pos h0; unfold nl at this; omega)
    simp (config := { maxSteps := 2000000 }) only [go_sem, ↓reduceIte, Int.reduceToNat, Nat.reduceMul, Int.reduceBEq, Int.reduceBNe, Nat.reduceBEq, Nat.reduceAdd, Nat.reduceSub, Nat.reduceLeDiff, Nat.reduceEqDiff, Nat.reduceLT, reduceCtorEq, e0]
    (refine AWpL.callA [] (s75 x y h0 hx hy) rfl rfl (by rw [hn]; rfl) rfl (fun r hr => .inr (pin r)) fun rg v hv => ?_; obtain ⟨rfl, rfl⟩ := hv; refine ⟨Nat.le_refl _, AWpL.ofM hn rfl ?_⟩)
    simp (config := { maxSteps := 2000000 }) only [go_sem, ↓reduceIte, Int.reduceToNat, Nat.reduceMul, Int.reduceBEq, Int.reduceBNe, Nat.reduceBEq, Nat.reduceAdd, Nat.reduceSub, Nat.reduceLeDiff, Nat.reduceEqDiff, Nat.reduceLT, reduceCtorEq, Aw.retS, Aw.retRg, Aw.kpM, Aw.bkM, Aw.pos, Aw.isBox]
    have hlt : x % y < y := Nat.mod_lt _ h0
    exact ⟨x % y, by omega, y, x % y, Nat.le_refl _, hy, Nat.le_trans (nl_mono (Nat.le_of_lt hlt)) hy, by rw [← hg, Nat.gcd_comm x y, Nat.gcd_rec y x, Nat.gcd_comm], weak_to [] hp hnp rfl (by simp (config := { maxSteps := 2000000 }) only [go_sem, ↓reduceIte, Int.reduceToNat, Nat.reduceMul, Int.reduceBEq, Int.reduceBNe, Nat.reduceBEq, Nat.reduceAdd, Nat.reduceSub, Nat.reduceLeDiff, Nat.reduceEqDiff, Nat.reduceLT, reduceCtorEq]) rfl⟩
end Go.Proofs.YtjaakbkneeojnaaDoor
