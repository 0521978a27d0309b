/- Numbers: Add. -/
import Derived.Test.YtjaakbkneeojnaaDoorAwZl
import Derived.Test.YtjaakbkneeojnaaDoorNatA
import Derived.Test.YtjaakbkneeojnaaDoorNatR
set_option linter.unusedVariables false
set_option linter.unusedSimpArgs false
namespace Go.Proofs.YtjaakbkneeojnaaDoor
open Go.Proofs.YtjaakbkneeojnaaDoor.Aw
attribute [local go_sem] Int.natCast_zero Int.natCast_one bne_self_eq_false beq_self_eq_true Bool.not_true Bool.not_false Option.isSome_none Option.isSome_some Aw.bkM_nil Option.getD_some Option.getD_none Nat.sub_zero Int.toNat_zero Aw.frzS Aw.frzT Aw.frzA Aw.frzL Aw.frzR Aw.frzO Aw.frzOL Aw.frzOT Aw.frzOR Aw.killS Aw.mapT Aw.mapR Aw.killM Aw.resAVs Aw.resAV Aw.quietOps Aw.wpP Aw.wpT Aw.wpS Aw.AOp.mild List.getElem?_cons_zero List.getElem?_cons_succ Bool.and_false Bool.and_self Bool.false_and Aw.opOb Aw.gdB Aw.Rnd Aw.subTm List.length_map Int.toNat_natCast and_self Aw.SeqC Aw.stops Aw.Ends Aw.looks Aw.renA Aw.renL Aw.renT Aw.renS Aw.wpO Aw.aop Aw.putTm Aw.St.ev Aw.St.put Aw.St.putO Aw.binAV Aw.intBin Aw.strBin Aw.pickAV Aw.optInt Aw.AV.strip Aw.AV.guard Aw.AV.cells Aw.gdOb Aw.AOp.opds Aw.AOp.still Aw.ptrCells Aw.St.reg Aw.fillAV Aw.fillOb Aw.elsOb Aw.splice Aw.firm Aw.cellish Aw.AV.shut Aw.shutAll Aw.Seq Aw.Blk Aw.retS_nil Aw.mapA Aw.mapL Aw.borA Aw.borOb Aw.allOb Aw.tupOf Aw.params Aw.Opd.of Array.toList Value.cells List.map_cons List.map_nil List.getD_cons_zero List.getD_cons_succ List.getD_nil List.length_cons List.length_nil List.take_succ_cons List.take_zero List.take_nil List.drop_zero List.drop_succ_cons List.drop_nil List.set_cons_zero List.set_cons_succ List.append_nil List.nil_append List.cons_append List.all_cons List.all_nil cond_false cond_true if_true if_false true_and and_true Bool.and_true Bool.true_and Option.map_some Option.map_none false_implies forall_const implies_true forall_eq imp_self Bool.cond_false_right Bool.cond_true_left beq_true beq_false Bool.not_eq_true' Bool.false_eq_true Nat.zero_add Nat.add_zero Aw.eqCells Aw.stopDraw Aw.skipS Aw.exactCap Aw.revealS Aw.srcEls Aw.srcSz
attribute [local go_sem ↓] Aw.look_nil Aw.look_ite Aw.wpL_nil Aw.wpL_op Aw.wpL_gd Aw.wpQ_nil Aw.wpQ_op Aw.wpQ_gd Aw.wpC_draw Aw.wpC_reg Aw.wpC_skip Aw.wpC_ret Aw.wpC_exit Aw.wpC_seq Aw.wpC_block Aw.wpC_loop Aw.wpC_cond Aw.stopAt_nil Aw.stopAt_cons Aw.wpD_skip Aw.wpD_ret Aw.wpD_exit Aw.wpD_region Aw.wpD_draw Aw.wpM_nil Aw.wpM_op Aw.wpM_gd Aw.wpD_seq Aw.wpD_block Aw.wpD_loop Aw.wpD_cond
/- (gridhall/nat.N).Add -/
def a69 : ACode :=
  (.seq (.region false [] [
     ⟨(some 4), none, (.mov (.v (.slice none 0 0)))⟩])
  (.seq (.seq (.region false [] [
     ⟨(some 9), none, (.mov (.t 0))⟩,
     ⟨(some 10), none, (.len (.t 9))⟩,
     ⟨(some 11), none, (.mov (.t 1))⟩,
     ⟨(some 12), none, (.len (.t 11))⟩,
     ⟨(some 13), none, (.bin .lss 3 (.t 10) (.t 12))⟩])
  (.cond (.t 13)
    (.region false [] [
       ⟨(some 14), none, (.mov (.t 1))⟩,
       ⟨(some 15), none, (.mov (.t 0))⟩,
       ⟨(some 0), none, (.mov (.t 14))⟩,
       ⟨(some 1), none, (.mov (.t 15))⟩])
    .skip))
  (.seq (.region false [] [
     ⟨(some 16), none, (.mov (.t 0))⟩,
     ⟨(some 17), none, (.len (.t 16))⟩,
     ⟨(some 18), none, (.bin .add 3 (.t 17) (.v (.int .i64 1)))⟩,
     ⟨(some 19), none, (.mksl 99 1 4 (.int .u32 0) (.v (.int .i64 0)) (.t 18))⟩,
     ⟨(some 5), none, (.mov (.t 19))⟩])
  (.seq (.region false [] [
     ⟨(some 6), none, (.mov (.v (.int .u32 0)))⟩])
  (.seq (.seq (.region false [] [
     ⟨(some 20), none, (.mov (.t 0))⟩,
     ⟨(some 21), none, (.len (.t 20))⟩,
     ⟨(some 22), none, (.mov (.v (.int .i64 0)))⟩])
  (.block 0 (.loop (.seq (.region false [] [
       ⟨(some 23), none, (.bin .lss 3 (.t 22) (.t 21))⟩])
    (.seq (.cond (.t 23)
      .skip
      (.exit 0))
    (.seq (.block 1 (.seq (.region false [] [
        ⟨(some 24), none, (.mov (.t 22))⟩,
        ⟨(some 25), none, (.idx 1 (.t 20) (.t 22))⟩,
        ⟨(some 26), none, (.load 1 false (.t 25))⟩,
        ⟨(some 7), none, (.mov (.t 24))⟩,
        ⟨(some 8), none, (.mov (.t 26))⟩])
     (.seq (.region false [] [
        ⟨(some 27), none, (.mov (.t 8))⟩,
        ⟨(some 28), none, (.mov (.t 6))⟩,
        ⟨(some 29), none, (.bin .add 99 (.t 27) (.t 28))⟩,
        ⟨(some 8), none, (.mov (.t 29))⟩])
     (.seq (.seq (.region false [] [
        ⟨(some 30), none, (.mov (.t 7))⟩,
        ⟨(some 31), none, (.mov (.t 1))⟩,
        ⟨(some 32), none, (.len (.t 31))⟩,
        ⟨(some 33), none, (.bin .lss 3 (.t 30) (.t 32))⟩])
     (.cond (.t 33)
       (.region false [] [
          ⟨(some 34), none, (.mov (.t 8))⟩,
          ⟨(some 35), none, (.mov (.t 1))⟩,
          ⟨(some 36), none, (.mov (.t 7))⟩,
          ⟨(some 37), none, (.idx 1 (.t 35) (.t 36))⟩,
          ⟨(some 38), none, (.load 1 false (.t 37))⟩,
          ⟨(some 39), none, (.bin .add 99 (.t 34) (.t 38))⟩,
          ⟨(some 8), none, (.mov (.t 39))⟩])
       .skip))
     (.seq (.region false [] [
        ⟨(some 40), none, (.mov (.t 8))⟩,
        ⟨(some 41), none, (.bin .quo 99 (.t 40) (.v (.int .u32 1000000000)))⟩,
        ⟨(some 6), none, (.mov (.t 41))⟩])
     (.region false [] [
        ⟨(some 42), none, (.mov (.t 5))⟩,
        ⟨(some 43), none, (.mov (.t 8))⟩,
        ⟨(some 44), none, (.bin .rem 99 (.t 43) (.v (.int .u32 1000000000)))⟩,
        ⟨(some 45), none, (.bsl 99 1 1 [(0, (.t 44))])⟩,
        ⟨(some 46), none, (.app 99 1 4 (.int .u32 0) (.t 42) (.t 45))⟩,
        ⟨(some 5), none, (.mov (.t 46))⟩]))))))
    (.region false [] [
       ⟨(some 47), none, (.bin .add 3 (.t 22) (.v (.int .i64 1)))⟩,
       ⟨(some 22), none, (.mov (.t 47))⟩])))))))
  (.seq (.seq (.region false [] [
     ⟨(some 48), none, (.mov (.t 6))⟩,
     ⟨(some 49), none, (.bin .gtr 99 (.t 48) (.v (.int .u32 0)))⟩])
  (.cond (.t 49)
    (.region false [] [
       ⟨(some 50), none, (.mov (.t 5))⟩,
       ⟨(some 51), none, (.mov (.t 6))⟩,
       ⟨(some 52), none, (.bsl 99 1 1 [(0, (.t 51))])⟩,
       ⟨(some 53), none, (.app 99 1 4 (.int .u32 0) (.t 50) (.t 52))⟩,
       ⟨(some 5), none, (.mov (.t 53))⟩])
    .skip))
  (.seq (.region false [] [
     ⟨(some 54), none, (.mov (.t 5))⟩,
     ⟨(some 4), none, (.mov (.t 54))⟩])
  .ret)))))))
theorem k69 : FnIs Tryd.prog 69 55 [.t 4] a69 := ⟨_, _, Tryd.func69, rfl, by kernel_rfl, by kernel_rfl, rfl⟩

abbrev U (n : Int) : AV := .val (.int .u32 n)
set_option maxRecDepth 20000 in
set_option maxHeartbeats 1000000 in
theorem s69L (l l' : List Nat) (hda : Dig l) (hdb : Dig l') (hn0 : l.length ≤ 1000000) (hm0 : l'.length ≤ 1000000) (hc : Canon l) (hc' : Canon l') : Aw.Spec Tryd.prog 69 [] [dv l, dv l'] (fun rg v => rg = [] ∧ v = nv (val l + val l')) := by
  refine Aw.Spec.regsW k69 rfl rfl fun E hn hnp hp => ?_
  unfold a69
  have pin : ∀ r, E.pin r = none := fun r => hp.none hnp (Nat.zero_le _)
  have hbs : bs = 1000000000 := rfl
  obtain ⟨L, M, hLM, hv, hdL, hdM, hL0, hM0, hcL, hsw1, hsw2⟩ : ∃ L M : List Nat, M.length ≤ L.length ∧ val L + val M = val l + val l' ∧ Dig L ∧ Dig M ∧ L.length ≤ 1000000 ∧ M.length ≤ 1000000 ∧ Canon L ∧ (l.length < l'.length → L = l' ∧ M = l) ∧ (¬ l.length < l'.length → L = l ∧ M = l') := by
    by_cases h : l.length < l'.length
    · exact ⟨l', l, by omega, by omega, hdb, hda, hm0, hn0, hc', fun _ => ⟨rfl, rfl⟩, fun h2 => absurd h h2⟩
    · exact ⟨l, l', by omega, rfl, hda, hdb, hn0, hm0, hc, fun h2 => absurd h2 h, fun _ => ⟨rfl, rfl⟩⟩
  refine AWp.seq (AWp.ofD [] [] hn mixed rfl ?_)
  simp (config := { maxSteps := 2000000 }) only [go_sem, ↓reduceIte, Int.reduceToNat, Nat.reduceMul, Int.reduceBEq, Int.reduceBNe, Nat.reduceBEq, Nat.reduceAdd, Nat.reduceSub, Nat.reduceLeDiff, Nat.reduceEqDiff, Nat.reduceLT, reduceCtorEq]
  refine AWp.seq (AWp.cut ⟨[(0, dv L), (1, dv M)], []⟩ (AWp.ofD [] [] hn mixed rfl ?_) ?_)
  · simp (config := { maxSteps := 2000000 }) only [go_sem, ↓reduceIte, Int.reduceToNat, Nat.reduceMul, Int.reduceBEq, Int.reduceBNe, Nat.reduceBEq, Nat.reduceAdd, Nat.reduceSub, Nat.reduceLeDiff, Nat.reduceEqDiff, Nat.reduceLT, reduceCtorEq]
    refine ⟨fun h => ?_, fun h => ?_⟩
    · obtain ⟨rfl, rfl⟩ := hsw1 (by have := of_decide_eq_true h; omega)
      exact weak_tm (by simp (config := { maxSteps := 2000000 }) only [go_sem, ↓reduceIte, Int.reduceToNat, Nat.reduceMul, Int.reduceBEq, Int.reduceBNe, Nat.reduceBEq, Nat.reduceAdd, Nat.reduceSub, Nat.reduceLeDiff, Nat.reduceEqDiff, Nat.reduceLT, reduceCtorEq])
    · obtain ⟨rfl, rfl⟩ := hsw2 (by have := of_decide_eq_false h; omega)
      exact weak_tm (by simp (config := { maxSteps := 2000000 }) only [go_sem, ↓reduceIte, Int.reduceToNat, Nat.reduceMul, Int.reduceBEq, Int.reduceBNe, Nat.reduceBEq, Nat.reduceAdd, Nat.reduceSub, Nat.reduceLeDiff, Nat.reduceEqDiff, Nat.reduceLT, reduceCtorEq])
  simp (config := { maxSteps := 2000000 }) only [go_sem, ↓reduceIte, Int.reduceToNat, Nat.reduceMul, Int.reduceBEq, Int.reduceBNe, Nat.reduceBEq, Nat.reduceAdd, Nat.reduceSub, Nat.reduceLeDiff, Nat.reduceEqDiff, Nat.reduceLT, reduceCtorEq]
  clear hsw1 hsw2
  refine AWp.seq (AWp.region (AWpL.upto 3 hn rfl ?_))
  simp (config := { maxSteps := 2000000 }) only [go_sem, ↓reduceIte, Int.reduceToNat, Nat.reduceMul, Int.reduceBEq, Int.reduceBNe, Nat.reduceBEq, Nat.reduceAdd, Nat.reduceSub, Nat.reduceLeDiff, Nat.reduceEqDiff, Nat.reduceLT, reduceCtorEq]
  have e0 : IntKind.i64.wrap ((L.length : Int) + 1) = ((L.length + 1 : Nat) : Int) := by rw [w64 (by omega) (by omega)]; rfl
  rw [e0]
  refine AWpL.mkz (m := 0) (n := L.length + 1) rfl rfl (by rw [hn]; rfl) (Nat.zero_le _) (by omega) (by omega) (AWpL.ofM hn rfl ?_)
  simp (config := { maxSteps := 2000000 }) only [go_sem, ↓reduceIte, Int.reduceToNat, Nat.reduceMul, Int.reduceBEq, Int.reduceBNe, Nat.reduceBEq, Nat.reduceAdd, Nat.reduceSub, Nat.reduceLeDiff, Nat.reduceEqDiff, Nat.reduceLT, reduceCtorEq]
  refine AWp.ofD [] [] hn mixed rfl ?_
  simp (config := { maxSteps := 2000000 }) only [go_sem, ↓reduceIte, Int.reduceToNat, Nat.reduceMul, Int.reduceBEq, Int.reduceBNe, Nat.reduceBEq, Nat.reduceAdd, Nat.reduceSub, Nat.reduceLeDiff, Nat.reduceEqDiff, Nat.reduceLT, reduceCtorEq]
  refine AWp.loop (fun k s => ∃ (i c : Nat) (out : List Nat), i + k = L.length ∧ out.length = i ∧ Dig out ∧ c ≤ 1 ∧ val out + bs ^ i * c = val (L.take i) + val (M.take i) ∧ Weak E s ⟨[(0, dv L), (1, dv M), (5, .hnd 0 0 i i false), (6, U c), (20, dv L), (21, I L.length), (22, I i)], [.arr 99 1 (out.map uc)]⟩) (n := L.length)
    ⟨0, 0, [], by omega, rfl, fun d hd => (by cases hd), by omega, by simp [val], Weak.trans (weak_ent 5 (y := .hnd 0 0 0 0 false) (by rfl) (Ent.cap _ _ _ _ _)) (weak_to [0] hp hnp rfl (by simp (config := { maxSteps := 2000000 }) only [go_sem, ↓reduceIte, Int.reduceToNat, Nat.reduceMul, Int.reduceBEq, Int.reduceBNe, Nat.reduceBEq, Nat.reduceAdd, Nat.reduceSub, Nat.reduceLeDiff, Nat.reduceEqDiff, Nat.reduceLT, reduceCtorEq, Aw.pos]) (by simp (config := { maxSteps := 2000000 }) only [go_sem, ↓reduceIte, Int.reduceToNat, Nat.reduceMul, Int.reduceBEq, Int.reduceBNe, Nat.reduceBEq, Nat.reduceAdd, Nat.reduceSub, Nat.reduceLeDiff, Nat.reduceEqDiff, Nat.reduceLT, reduceCtorEq, Aw.renR, Aw.pos] <;> rfl))⟩ ?_
  rintro k s ⟨i, c, out, hi, ho, hdo, hc1, hval, hw⟩
  rcases Nat.lt_or_ge i L.length with hlt | hge
  · refine AWp.weak hw (AWp.ofD [] [33] hn mixed rfl ?_)
    have e0 : decide ((i : Int) < (L.length : Int)) = true := decide_eq_true (by omega)
    have e1 := getD_mapD 0 uc (l := L) (i := i) hlt
    have hLi := dget hdL i
    have hMi := dget hdM i
    have e2 : IntKind.u32.wrap (((L.getD i 0 : Nat) : Int) + (c : Int)) = ((L.getD i 0 + c : Nat) : Int) := by rw [w32 (by omega) (by omega)]; omega
    simp (config := { maxSteps := 2000000 }) only [go_sem, ↓reduceIte, Int.reduceToNat, Nat.reduceMul, Int.reduceBEq, Int.reduceBNe, Nat.reduceBEq, Nat.reduceAdd, Nat.reduceSub, Nat.reduceLeDiff, Nat.reduceEqDiff, Nat.reduceLT, reduceCtorEq, e0, e1, e2]
    (repeat (refine And.intro (by first | omega | (refine ⟨by omega, by omega⟩) | (refine ⟨by omega, by omega, by omega⟩) | (simp only [List.length_map, List.length_range, List.length_append, List.length_cons, List.length_nil, List.length_replicate, List.length_set]; omega) | (simp; omega) | (intro hgd; cases hgd) | (intro hgd; refine ⟨hgd, ?_⟩; first | omega | (refine ⟨by omega, by omega⟩) | (simp; omega))) ?_))
    refine AWp.cut ⟨[(0, dv L), (1, dv M), (5, .hnd 0 0 i i false), (6, U c), (8, U ((L.getD i 0 + c + M.getD i 0 : Nat) : Int)), (20, dv L), (21, I L.length), (22, I i)], [.arr 99 1 (out.map uc)]⟩ (AWp.ofD [] [] hn mixed rfl ?_) ?_
    · rcases Nat.lt_or_ge i M.length with hm | hm
      · have e3 : decide ((i : Int) < (M.length : Int)) = true := decide_eq_true (by omega)
        have e4 := getD_mapD 0 uc (l := M) (i := i) hm
        have e5 : IntKind.u32.wrap (((L.getD i 0 + c : Nat) : Int) + ((M.getD i 0 : Nat) : Int)) = ((L.getD i 0 + c + M.getD i 0 : Nat) : Int) := by rw [w32 (by omega) (by omega)]; omega
        simp (config := { maxSteps := 2000000 }) only [go_sem, ↓reduceIte, Int.reduceToNat, Nat.reduceMul, Int.reduceBEq, Int.reduceBNe, Nat.reduceBEq, Nat.reduceAdd, Nat.reduceSub, Nat.reduceLeDiff, Nat.reduceEqDiff, Nat.reduceLT, reduceCtorEq, e3, e4, e5]
        (repeat (refine And.intro (by first | omega | (refine ⟨by omega, by omega⟩) | (refine ⟨by omega, by omega, by omega⟩) | (simp only [List.length_map, List.length_range, List.length_append, List.length_cons, List.length_nil, List.length_replicate, List.length_set]; omega) | (simp; omega) | (intro hgd; cases hgd) | (intro hgd; refine ⟨hgd, ?_⟩; first | omega | (refine ⟨by omega, by omega⟩) | (simp; omega))) ?_))
        exact weak_tm (by simp (config := { maxSteps := 2000000 }) only [go_sem, ↓reduceIte, Int.reduceToNat, Nat.reduceMul, Int.reduceBEq, Int.reduceBNe, Nat.reduceBEq, Nat.reduceAdd, Nat.reduceSub, Nat.reduceLeDiff, Nat.reduceEqDiff, Nat.reduceLT, reduceCtorEq])
      · have e3 : decide ((i : Int) < (M.length : Int)) = false := decide_eq_false (by omega)
        have e4 : M.getD i 0 = 0 := by rw [List.getD_eq_getElem?_getD, List.getElem?_eq_none hm]; rfl
        rw [e4]
        simp (config := { maxSteps := 2000000 }) only [go_sem, ↓reduceIte, Int.reduceToNat, Nat.reduceMul, Int.reduceBEq, Int.reduceBNe, Nat.reduceBEq, Nat.reduceAdd, Nat.reduceSub, Nat.reduceLeDiff, Nat.reduceEqDiff, Nat.reduceLT, reduceCtorEq, e3]
        exact weak_tm (by simp (config := { maxSteps := 2000000 }) only [go_sem, ↓reduceIte, Int.reduceToNat, Nat.reduceMul, Int.reduceBEq, Int.reduceBNe, Nat.reduceBEq, Nat.reduceAdd, Nat.reduceSub, Nat.reduceLeDiff, Nat.reduceEqDiff, Nat.reduceLT, reduceCtorEq])
    generalize hd : L.getD i 0 + c + M.getD i 0 = d
    have hdl : d < 2 * bs := by rw [← hd]; show _ < 2 * 1000000000; omega
    have e6 : IntKind.u32.wrap ((d : Int).tdiv 1000000000) = ((d / bs : Nat) : Int) := by
      rw [show (d : Int).tdiv 1000000000 = ((d / bs : Nat) : Int) from rfl]
      have : d / bs < 2 := (Nat.div_lt_iff_lt_mul (by decide)).2 (by omega)
      exact w32 (Int.natCast_nonneg _) (by omega)
    have e7 : (d : Int).tmod 1000000000 = ((d % bs : Nat) : Int) := rfl
    have e8 : IntKind.i64.wrap ((i : Int) + 1) = ((i + 1 : Nat) : Int) := by rw [w64 (by omega) (by omega)]; rfl
    simp (config := { maxSteps := 2000000 }) only [go_sem, ↓reduceIte, Int.reduceToNat, Nat.reduceMul, Int.reduceBEq, Int.reduceBNe, Nat.reduceBEq, Nat.reduceAdd, Nat.reduceSub, Nat.reduceLeDiff, Nat.reduceEqDiff, Nat.reduceLT, reduceCtorEq, e6, e7]
    refine ⟨by decide, by decide, ?_⟩
    refine AWpL.app (r := 0) (els := out.map uc) (ys := [uc (d % bs)]) rfl rfl rfl rfl (by rw [hn]; rfl) (by rw [List.length_map, ho]) (pin 0) (by simp (config := { maxSteps := 2000000 }) only [go_sem, ↓reduceIte, Int.reduceToNat, Nat.reduceMul, Int.reduceBEq, Int.reduceBNe, Nat.reduceBEq, Nat.reduceAdd, Nat.reduceSub, Nat.reduceLeDiff, Nat.reduceEqDiff, Nat.reduceLT, reduceCtorEq, Nat.le_refl]) (fun el hm y hy => by
      rw [List.mem_singleton.1 hm] at hy
      rw [List.mem_singleton.1 hy]; rfl) (by simp only [List.length_cons, List.length_nil]; omega) (by simp only [List.length_cons, List.length_nil]; omega) (AWpL.ofM hn rfl ?_)
    have hap : out.map uc ++ [uc (d % bs)] = (out ++ [d % bs]).map uc := by rw [List.map_append]; rfl
    simp (config := { maxSteps := 2000000 }) only [go_sem, ↓reduceIte, Int.reduceToNat, Nat.reduceMul, Int.reduceBEq, Int.reduceBNe, Nat.reduceBEq, Nat.reduceAdd, Nat.reduceSub, Nat.reduceLeDiff, Nat.reduceEqDiff, Nat.reduceLT, reduceCtorEq, hap, e8]
    have hmod : d % bs < bs := Nat.mod_lt _ (by decide)
    refine ⟨k - 1, by omega, i + 1, d / bs, out ++ [d % bs], by omega, by rw [List.length_append, ho]; rfl, hdo.app (Dig.one hmod), by
      have : d / bs < 2 := (Nat.div_lt_iff_lt_mul (by decide)).2 (by omega)
      omega, ?_, weak_to [0] hp hnp rfl (by simp (config := { maxSteps := 2000000 }) only [go_sem, ↓reduceIte, Int.reduceToNat, Nat.reduceMul, Int.reduceBEq, Int.reduceBNe, Nat.reduceBEq, Nat.reduceAdd, Nat.reduceSub, Nat.reduceLeDiff, Nat.reduceEqDiff, Nat.reduceLT, reduceCtorEq, Aw.pos]) (by simp (config := { maxSteps := 2000000 }) only [go_sem, ↓reduceIte, Int.reduceToNat, Nat.reduceMul, Int.reduceBEq, Int.reduceBNe, Nat.reduceBEq, Nat.reduceAdd, Nat.reduceSub, Nat.reduceLeDiff, Nat.reduceEqDiff, Nat.reduceLT, reduceCtorEq, Aw.renR, Aw.pos] <;> rfl)⟩
    have h1 := add_step hval (show d = L.getD i 0 + c + M.getD i 0 from hd.symm) rfl
    rw [val_append, ho, val_take1, val_take1]
    have : val [d % bs] = d % bs := by simp [val]
    rw [this, h1, Nat.mul_add]
    omega
  · have hiL : i = L.length := by omega
    subst hiL
    have hval' : val out + bs ^ L.length * c = val l + val l' := by
      rw [hval, List.take_of_length_le (Nat.le_refl _), List.take_of_length_le hLM, hv]
    refine AWp.weak hw (AWp.ofD [] [] hn mixed rfl ?_)
    have e0 : decide ((L.length : Int) < (L.length : Int)) = false := decide_eq_false (by omega)
    simp (config := { maxSteps := 2000000 }) only [go_sem, ↓reduceIte, Int.reduceToNat, Nat.reduceMul, Int.reduceBEq, Int.reduceBNe, Nat.reduceBEq, Nat.reduceAdd, Nat.reduceSub, Nat.reduceLeDiff, Nat.reduceEqDiff, Nat.reduceLT, reduceCtorEq, e0]
    refine ⟨fun h => ?_, fun h => ?_⟩
    · have hc2 : c = 1 := by have := of_decide_eq_true h; omega
      subst hc2
      refine AWpL.app (r := 0) (els := out.map uc) (ys := [uc 1]) rfl rfl rfl rfl (by rw [hn]; rfl) (by rw [List.length_map, ho]) (pin 0) (by simp (config := { maxSteps := 2000000 }) only [go_sem, ↓reduceIte, Int.reduceToNat, Nat.reduceMul, Int.reduceBEq, Int.reduceBNe, Nat.reduceBEq, Nat.reduceAdd, Nat.reduceSub, Nat.reduceLeDiff, Nat.reduceEqDiff, Nat.reduceLT, reduceCtorEq, Nat.le_refl]) (fun el hm y hy => by
        rw [List.mem_singleton.1 hm] at hy
        rw [List.mem_singleton.1 hy]; rfl) (by simp only [List.length_cons, List.length_nil]; omega) (by simp only [List.length_cons, List.length_nil]; omega) (AWpL.ofM hn rfl ?_)
      have hap : out.map uc ++ [uc 1] = (out ++ [1]).map uc := by rw [List.map_append]; rfl
      simp (config := { maxSteps := 2000000 }) only [go_sem, ↓reduceIte, Int.reduceToNat, Nat.reduceMul, Int.reduceBEq, Int.reduceBNe, Nat.reduceBEq, Nat.reduceAdd, Nat.reduceSub, Nat.reduceLeDiff, Nat.reduceEqDiff, Nat.reduceLT, reduceCtorEq, hap]
      refine Retn.weak (weak_freeze 0 rfl (pin 0) (by simp (config := { maxSteps := 2000000 }) only [go_sem, ↓reduceIte, Int.reduceToNat, Nat.reduceMul, Int.reduceBEq, Int.reduceBNe, Nat.reduceBEq, Nat.reduceAdd, Nat.reduceSub, Nat.reduceLeDiff, Nat.reduceEqDiff, Nat.reduceLT, reduceCtorEq, Nat.le_refl, List.length_map, List.length_append, ho])) _ ?_
      refine Retn.ret (π := []) hp hnp ⟨rfl, ?_⟩
      simp (config := { maxSteps := 2000000 }) only [go_sem, ↓reduceIte, Int.reduceToNat, Nat.reduceMul, Int.reduceBEq, Int.reduceBNe, Nat.reduceBEq, Nat.reduceAdd, Nat.reduceSub, Nat.reduceLeDiff, Nat.reduceEqDiff, Nat.reduceLT, reduceCtorEq]
      have : digs (val l + val l') = out ++ [1] := by
        rw [← canon_eq (l := out ++ [1]) ⟨hdo.app (Dig.one (by decide)), fun h => by simp⟩, val_append, ho, ← hval']
        rfl
      show _ = AV.imm none false 1 ((digs (val l + val l')).map uc)
      rw [this, List.take_of_length_le (by rw [List.length_map, List.length_append, ho]; exact Nat.le_refl _)]
    · have hc2 : c = 0 := by have := of_decide_eq_false h; omega
      subst hc2
      refine Retn.weak (weak_freeze 0 rfl (pin 0) (by simp (config := { maxSteps := 2000000 }) only [go_sem, ↓reduceIte, Int.reduceToNat, Nat.reduceMul, Int.reduceBEq, Int.reduceBNe, Nat.reduceBEq, Nat.reduceAdd, Nat.reduceSub, Nat.reduceLeDiff, Nat.reduceEqDiff, Nat.reduceLT, reduceCtorEq, Nat.le_refl, List.length_map, ho])) _ ?_
      refine Retn.ret (π := []) hp hnp ⟨rfl, ?_⟩
      simp (config := { maxSteps := 2000000 }) only [go_sem, ↓reduceIte, Int.reduceToNat, Nat.reduceMul, Int.reduceBEq, Int.reduceBNe, Nat.reduceBEq, Nat.reduceAdd, Nat.reduceSub, Nat.reduceLeDiff, Nat.reduceEqDiff, Nat.reduceLT, reduceCtorEq]
      have hco : Canon out := by
        refine ⟨hdo, fun hne h0 => ?_⟩
        have hLne : 0 < L.length := by rw [← ho]; exact List.length_pos_iff.2 hne
        have h1 := ge_nl (n := val L) (canon_val_pos hcL (List.length_pos_iff.1 hLne))
        unfold nl at h1
        rw [canon_eq hcL] at h1
        have h2 := val_drop1 out (L.length - 1)
        have h3 := val_cut out (L.length - 1)
        have h4 : out.getD (L.length - 1) 0 = 0 := by
          rw [← h0, List.getLast_eq_getElem, List.getD_eq_getElem?_getD, List.getElem?_eq_getElem (by omega)]
          simp only [Option.getD_some, ho]
        have h5 : out.drop (L.length - 1 + 1) = [] := List.drop_of_length_le (by omega)
        rw [h5, h4] at h2
        have h6 : val out = val (out.take (L.length - 1)) := by rw [h3, h2]; simp [val]
        have h7 := val_takelt hdo (L.length - 1)
        rw [Nat.mul_zero, ← hv] at hval'
        omega
      have : digs (val l + val l') = out := by
        rw [← hval', Nat.mul_zero, Nat.add_zero, canon_eq hco]
      show _ = AV.imm none false 1 ((digs (val l + val l')).map uc)
      rw [this, List.take_of_length_le (by rw [List.length_map, ho]; exact Nat.le_refl _)]
theorem s69 (n m : Nat) (hn0 : nl n ≤ 1000000) (hm0 : nl m ≤ 1000000) : Aw.Spec Tryd.prog 69 [] [nv n, nv m] (fun rg v => rg = [] ∧ v = nv (n + m)) := by
  have h := s69L (digs n) (digs m) (dig_digs n) (dig_digs m) hn0 hm0 (canon_digs n) (canon_digs m)
  rwa [val_digs, val_digs] at h
end Go.Proofs.YtjaakbkneeojnaaDoor
