/- Orders: the law of ways by other states. -/
import Derived.Test.YtkbipopkemfhaaaAwZg
import Derived.Test.YtkbipopkemfhaaaOrdL
set_option linter.unusedVariables false
set_option linter.unusedSimpArgs false
namespace Go.Proofs.Ytkbipopkemfhaaa
open Go.Proofs.Ytkbipopkemfhaaa.Aw
attribute [local go_sem] Int.natCast_zero Int.natCast_one bne_self_eq_false beq_self_eq_true Bool.not_true Bool.not_false Option.isSome_none Option.isSome_some Aw.bkM_nil Option.getD_some Option.getD_none Nat.sub_zero Int.toNat_zero Aw.frzS Aw.frzT Aw.frzA Aw.frzL Aw.frzR Aw.frzO Aw.frzOL Aw.frzOT Aw.frzOR Aw.killS Aw.mapT Aw.mapR Aw.killM Aw.resAVs Aw.resAV Aw.quietOps Aw.wpP Aw.wpT Aw.wpS Aw.AOp.mild List.getElem?_cons_zero List.getElem?_cons_succ Bool.and_false Bool.and_self Bool.false_and Aw.opOb Aw.gdB Aw.Rnd Aw.subTm List.length_map Int.toNat_natCast and_self Aw.SeqC Aw.stops Aw.Ends Aw.looks Aw.renA Aw.renL Aw.renT Aw.renS Aw.wpO Aw.aop Aw.putTm Aw.St.ev Aw.St.put Aw.St.putO Aw.binAV Aw.intBin Aw.strBin Aw.pickAV Aw.optInt Aw.AV.strip Aw.AV.guard Aw.AV.cells Aw.gdOb Aw.AOp.opds Aw.AOp.still Aw.ptrCells Aw.St.reg Aw.fillAV Aw.fillOb Aw.elsOb Aw.splice Aw.firm Aw.cellish Aw.AV.shut Aw.shutAll Aw.Seq Aw.Blk Aw.retS_nil Aw.mapA Aw.mapL Aw.borA Aw.borOb Aw.allOb Aw.tupOf Aw.params Aw.Opd.of Array.toList Value.cells List.map_cons List.map_nil List.getD_cons_zero List.getD_cons_succ List.getD_nil List.length_cons List.length_nil List.take_succ_cons List.take_zero List.take_nil List.drop_zero List.drop_succ_cons List.drop_nil List.set_cons_zero List.set_cons_succ List.append_nil List.nil_append List.cons_append List.all_cons List.all_nil cond_false cond_true if_true if_false true_and and_true Bool.and_true Bool.true_and Option.map_some Option.map_none false_implies forall_const implies_true forall_eq imp_self Bool.cond_false_right Bool.cond_true_left beq_true beq_false Bool.not_eq_true' Bool.false_eq_true Nat.zero_add Nat.add_zero Aw.eqCells Aw.stopDraw Aw.skipS Aw.exactCap Aw.revealS Aw.srcEls Aw.srcSz
attribute [local go_sem ↓] Aw.look_nil Aw.look_ite Aw.wpL_nil Aw.wpL_op Aw.wpL_gd Aw.wpQ_nil Aw.wpQ_op Aw.wpQ_gd Aw.wpC_draw Aw.wpC_reg Aw.wpC_skip Aw.wpC_ret Aw.wpC_exit Aw.wpC_seq Aw.wpC_block Aw.wpC_loop Aw.wpC_cond Aw.stopAt_nil Aw.stopAt_cons Aw.wpD_skip Aw.wpD_ret Aw.wpD_exit Aw.wpD_region Aw.wpD_draw Aw.wpM_nil Aw.wpM_op Aw.wpM_gd Aw.wpD_seq Aw.wpD_block Aw.wpD_loop Aw.wpD_cond
/- gridhall/gridhallkeep4.OrderThrough -/
def a3 : ACode :=
  (.seq (.region false [] [
     ⟨(some 10), none, (.mov (.v (.bool false)))⟩])
  (.seq (.region true [[], [], [1], [2], [0, 3], [], [], [6], [7], [5, 8], [], [], [11], [12], [10, 13], [4, 0, 1, 2, 3, 4], [9, 15, 0, 1, 2, 3, 4, 5, 6, 7, 8, 9, 15], [14, 16, 0, 1, 2, 3, 4, 5, 6, 7, 8, 9, 10, 11, 12, 13, 14, 15, 16]] [
     ⟨(some 17), none, (.mov (.t 1))⟩,
     ⟨(some 18), none, (.mov (.t 1))⟩,
     ⟨(some 19), none, (.len (.t 18))⟩,
     ⟨(some 20), none, (.mni (.t 19) (.v (.int .i64 5)))⟩,
     ⟨(some 21), none, (.slc 2 (.t 17) none (some (.t 20)) none)⟩,
     ⟨(some 22), none, (.mov (.t 2))⟩,
     ⟨(some 23), none, (.mov (.t 2))⟩,
     ⟨(some 24), none, (.len (.t 23))⟩,
     ⟨(some 25), none, (.mni (.t 24) (.v (.int .i64 5)))⟩,
     ⟨(some 26), none, (.slc 2 (.t 22) none (some (.t 25)) none)⟩,
     ⟨(some 27), none, (.mov (.t 3))⟩,
     ⟨(some 28), none, (.mov (.t 3))⟩,
     ⟨(some 29), none, (.len (.t 28))⟩,
     ⟨(some 30), none, (.mni (.t 29) (.v (.int .i64 5)))⟩,
     ⟨(some 31), none, (.slc 2 (.t 27) none (some (.t 30)) none)⟩,
     ⟨(some 1), none, (.mov (.t 21))⟩,
     ⟨(some 2), none, (.mov (.t 26))⟩,
     ⟨(some 3), none, (.mov (.t 31))⟩])
  (.seq (.region false [] [
     ⟨(some 33), none, (.mov (.t 0))⟩,
     ⟨(some 34), none, (.mov (.t 1))⟩,
     ⟨(some 35), none, (.mov (.t 2))⟩,
     ⟨(some 36), none, (.mov (.t 4))⟩,
     ⟨(some 37), none, (.call 8 [(.t 33), (.t 34), (.t 35), (.t 36)])⟩,
     ⟨(some 32), none, (.mov (.t 37))⟩,
     ⟨(some 38), none, (.ext 0 (.t 32))⟩,
     ⟨(some 39), none, (.ext 1 (.t 32))⟩,
     ⟨(some 11), none, (.mov (.t 38))⟩,
     ⟨(some 12), none, (.mov (.t 39))⟩])
  (.seq (.region false [] [
     ⟨(some 41), none, (.mov (.t 0))⟩,
     ⟨(some 42), none, (.mov (.t 2))⟩,
     ⟨(some 43), none, (.mov (.t 3))⟩,
     ⟨(some 44), none, (.mov (.t 4))⟩,
     ⟨(some 45), none, (.call 8 [(.t 41), (.t 42), (.t 43), (.t 44)])⟩,
     ⟨(some 40), none, (.mov (.t 45))⟩,
     ⟨(some 46), none, (.ext 0 (.t 40))⟩,
     ⟨(some 47), none, (.ext 1 (.t 40))⟩,
     ⟨(some 13), none, (.mov (.t 46))⟩,
     ⟨(some 14), none, (.mov (.t 47))⟩])
  (.seq (.region false [] [
     ⟨(some 49), none, (.mov (.t 0))⟩,
     ⟨(some 50), none, (.mov (.t 1))⟩,
     ⟨(some 51), none, (.mov (.t 3))⟩,
     ⟨(some 52), none, (.mov (.t 4))⟩,
     ⟨(some 53), none, (.call 8 [(.t 49), (.t 50), (.t 51), (.t 52)])⟩,
     ⟨(some 48), none, (.mov (.t 53))⟩,
     ⟨(some 54), none, (.ext 0 (.t 48))⟩,
     ⟨(some 55), none, (.ext 1 (.t 48))⟩,
     ⟨(some 15), none, (.mov (.t 54))⟩,
     ⟨(some 16), none, (.mov (.t 55))⟩])
  (.seq (.seq (.region false [] [
     ⟨(some 56), none, (.mov (.t 12))⟩,
     ⟨(some 57), none, (.bin .neq 26 (.t 56) (.v (.int .i64 0)))⟩,
     ⟨(some 58), none, (.mov (.t 57))⟩,
     ⟨(some 59), (some (58, false)), (.mov (.t 14))⟩,
     ⟨(some 60), (some (58, false)), (.bin .neq 26 (.t 59) (.v (.int .i64 0)))⟩,
     ⟨(some 61), none, (.pick (.t 58) (.v (.bool true)) (.t 60))⟩])
  (.cond (.t 61)
    (.seq (.region false [] [
       ⟨(some 62), none, (.call 9 [])⟩,
       ⟨(some 10), none, (.mov (.t 62))⟩])
    .ret)
    .skip))
  (.seq (.region false [] [
     ⟨(some 63), none, (.call 9 [])⟩,
     ⟨(some 64), none, (.mov (.t 63))⟩,
     ⟨(some 65), (some (64, true)), (.mov (.t 16))⟩,
     ⟨(some 66), (some (64, true)), (.bin .eql 26 (.t 65) (.v (.int .i64 0)))⟩,
     ⟨(some 67), none, (.pick (.t 64) (.t 66) (.v (.bool false)))⟩,
     ⟨(some 68), none, (.mov (.t 67))⟩,
     ⟨(some 69), (some (68, true)), (.mov (.t 15))⟩,
     ⟨(some 70), (some (68, true)), (.len (.t 69))⟩,
     ⟨(some 71), (some (68, true)), (.mov (.t 11))⟩,
     ⟨(some 72), (some (68, true)), (.len (.t 71))⟩,
     ⟨(some 73), (some (68, true)), (.mov (.t 13))⟩,
     ⟨(some 74), (some (68, true)), (.len (.t 73))⟩,
     ⟨(some 75), (some (68, true)), (.bin .add 3 (.t 72) (.t 74))⟩,
     ⟨(some 76), (some (68, true)), (.bin .leq 3 (.t 70) (.t 75))⟩,
     ⟨(some 77), none, (.pick (.t 68) (.t 76) (.v (.bool false)))⟩,
     ⟨(some 10), none, (.mov (.t 77))⟩])
  .ret)))))))
theorem k3 : FnIs Try.prog 3 78 [.t 10] a3 := ⟨_, _, Try.func3, rfl, by kernel_rfl, by kernel_rfl, rfl⟩

theorem minT (l : List Sta) (m : Nat) : (l.map stc).take (min (l.length : Int) m).toNat = (l.take m).map stc := by
  rw [List.map_take]
  rcases Nat.le_total l.length m with h | h
  · rw [List.take_of_length_le (by simp; omega), List.take_of_length_le (by simp; omega)]
  · congr 1; omega
theorem minT5 (l : List Sta) : (l.map stc).take (min (l.length : Int) 5).toNat = (l.take 5).map stc := minT l 5
theorem minT6 (l : List Sta) : (l.map stc).take (min (l.length : Int) 6).toNat = (l.take 6).map stc := minT l 6
theorem planL_le {p : Pln} {b : List Sta} : (planL p b).length ≤ 256 := by
  by_cases h : planE p.rules p.l b p.held = 0
  · obtain ⟨h1, h2, h3, h4, h5, h6, h7⟩ := planE_zero.1 h
    have hB := bfsF_ok p.may h4 (numF_goal h6)
    have hm : mayF p.rules p.l p.held = p.may := rfl
    rw [hm] at h7
    unfold planL
    rw [if_pos h]
    have h256 := pow8 h4
    generalize bfsF p.may p.l.length (numF b) = F at *
    have hn := numF_lt p.l
    have hb := hB.bnd _ hn
    obtain ⟨d, hd⟩ : ∃ d : Nat, F.getD (numF p.l) 0 = d := ⟨(F.getD (numF p.l) 0).toNat, by omega⟩
    rw [hd, Int.toNat_natCast, plGo_len hB d _ hn hd]
    omega
  · unfold planL
    rw [if_neg h]
    exact Nat.zero_le _
set_option maxRecDepth 20000 in
set_option maxHeartbeats 1000000 in
theorem s3 (nr fr) (rules : List Rul) (na fa) (a0 : List Sta) (nb fb) (b0 : List Sta) (nc' fc) (c0 : List Sta) (nh fh) (held : List ByteArray) (hh : held.length ≤ 9223372036854775807) (hs : ∀ r ∈ rules, RulOk r)
    (ha : ∀ x ∈ a0, x.name.size ≤ 9223372036854775807) (hb : ∀ x ∈ b0, x.name.size ≤ 9223372036854775807) (hc : ∀ x ∈ c0, x.name.size ≤ 9223372036854775807) :
    Aw.Spec Try.prog 3 [] [rs nr fr rules, sts' na fa a0, sts' nb fb b0, sts' nc' fc c0, ss nh fh held] (Gives (· = B true)) := by
  refine Aw.Spec.givesD k3 mixed rfl rfl rfl fun E hn hnp hp => ?_
  unfold a3
  simp (config := { maxSteps := 2000000 }) only [go_sem, ↓reduceIte, Int.reduceToNat, Nat.reduceMul, Int.reduceBEq, Int.reduceBNe, Nat.reduceBEq, Nat.reduceAdd, Nat.reduceSub, Nat.reduceLeDiff, Nat.reduceEqDiff, Nat.reduceLT, reduceCtorEq, minT5]
  (repeat (refine And.intro (by first | omega | (refine ⟨by omega, by omega⟩) | (refine ⟨by omega, by omega, by omega⟩) | (simp only [List.length_map, List.length_range, List.length_append, List.length_cons, List.length_nil, List.length_replicate, List.length_set]; omega) | (simp; omega) | (intro hgd; cases hgd) | (intro hgd; refine ⟨hgd, ?_⟩; first | omega | (refine ⟨by omega, by omega⟩) | (simp; omega))) ?_))
  have ha2 : ∀ x ∈ a0.take 5, x.name.size ≤ 9223372036854775807 := fun x hx => ha x (List.mem_of_mem_take hx)
  have hb2 : ∀ x ∈ b0.take 5, x.name.size ≤ 9223372036854775807 := fun x hx => hb x (List.mem_of_mem_take hx)
  have hc2 : ∀ x ∈ c0.take 5, x.name.size ≤ 9223372036854775807 := fun x hx => hc x (List.mem_of_mem_take hx)
  generalize a0.take 5 = a at *
  generalize b0.take 5 = b at *
  generalize c0.take 5 = c at *
  refine AWpL.callA [] (s8 ⟨nr, fr, rules, na, false, a, nh, fh, held⟩ nb false b hh hs ha2 hb2) rfl rfl (by rw [hn]; rfl) rfl (fun r hr => by cases hr) fun rg v hv => ?_
  obtain ⟨rfl, rfl⟩ := hv
  refine ⟨Nat.zero_le _, AWpL.ofM hn rfl ?_⟩
  simp (config := { maxSteps := 2000000 }) only [go_sem, ↓reduceIte, Int.reduceToNat, Nat.reduceMul, Int.reduceBEq, Int.reduceBNe, Nat.reduceBEq, Nat.reduceAdd, Nat.reduceSub, Nat.reduceLeDiff, Nat.reduceEqDiff, Nat.reduceLT, reduceCtorEq, Aw.retS, Aw.retRg, Aw.kpM, Aw.bkM, Aw.pos, Aw.isBox]
  refine AWpL.callA [] (s8 ⟨nr, fr, rules, nb, false, b, nh, fh, held⟩ nc' false c hh hs hb2 hc2) rfl rfl (by rw [hn]; rfl) rfl (fun r hr => by cases hr) fun rg v hv => ?_
  obtain ⟨rfl, rfl⟩ := hv
  refine ⟨Nat.zero_le _, AWpL.ofM hn rfl ?_⟩
  simp (config := { maxSteps := 2000000 }) only [go_sem, ↓reduceIte, Int.reduceToNat, Nat.reduceMul, Int.reduceBEq, Int.reduceBNe, Nat.reduceBEq, Nat.reduceAdd, Nat.reduceSub, Nat.reduceLeDiff, Nat.reduceEqDiff, Nat.reduceLT, reduceCtorEq, Aw.retS, Aw.retRg, Aw.kpM, Aw.bkM, Aw.pos, Aw.isBox]
  refine AWpL.callA [] (s8 ⟨nr, fr, rules, na, false, a, nh, fh, held⟩ nc' false c hh hs ha2 hc2) rfl rfl (by rw [hn]; rfl) rfl (fun r hr => by cases hr) fun rg v hv => ?_
  obtain ⟨rfl, rfl⟩ := hv
  refine ⟨Nat.zero_le _, AWpL.ofM hn rfl ?_⟩
  simp (config := { maxSteps := 2000000 }) only [go_sem, ↓reduceIte, Int.reduceToNat, Nat.reduceMul, Int.reduceBEq, Int.reduceBNe, Nat.reduceBEq, Nat.reduceAdd, Nat.reduceSub, Nat.reduceLeDiff, Nat.reduceEqDiff, Nat.reduceLT, reduceCtorEq, Aw.retS, Aw.retRg, Aw.kpM, Aw.bkM, Aw.pos, Aw.isBox]
  have hth : planE rules a b held = 0 → planE rules b c held = 0 → planE rules a c held = 0 ∧ (planL ⟨nr, fr, rules, na, false, a, nh, fh, held⟩ c).length ≤ (planL ⟨nr, fr, rules, na, false, a, nh, fh, held⟩ b).length + (planL ⟨nr, fr, rules, nb, false, b, nh, fh, held⟩ c).length := fun h1 h2 => through (pa := ⟨nr, fr, rules, na, false, a, nh, fh, held⟩) (pb := ⟨nr, fr, rules, nb, false, b, nh, fh, held⟩) rfl rfl rfl h1 h2
  have l1 := planL_le (p := ⟨nr, fr, rules, na, false, a, nh, fh, held⟩) (b := b)
  have l2 := planL_le (p := ⟨nr, fr, rules, nb, false, b, nh, fh, held⟩) (b := c)
  have l3 := planL_le (p := ⟨nr, fr, rules, na, false, a, nh, fh, held⟩) (b := c)
  generalize planE rules a b held = e1 at *
  generalize planE rules b c held = e2 at *
  generalize planE rules a c held = e3 at *
  generalize planL ⟨nr, fr, rules, na, false, a, nh, fh, held⟩ b = x at *
  generalize planL ⟨nr, fr, rules, na, false, a, nh, fh, held⟩ c = z at *
  generalize planL ⟨nr, fr, rules, nb, false, b, nh, fh, held⟩ c = y at *
  simp only [Bool.or_eq_true, Bool.or_eq_false_iff, bne_iff_ne, bne_eq_false_iff_eq, ne_eq]
  refine ⟨fun h => ?_, fun h => ?_⟩
  · (refine AWpL.calle (s9) rfl (by rw [hn]; rfl) (by simp (config := { maxSteps := 2000000 }) only [go_sem, ↓reduceIte, Int.reduceToNat, Nat.reduceMul, Int.reduceBEq, Int.reduceBNe, Nat.reduceBEq, Nat.reduceAdd, Nat.reduceSub, Nat.reduceLeDiff, Nat.reduceEqDiff, Nat.reduceLT, reduceCtorEq]) (AWpL.ofM hn rfl ?_); simp (config := { maxSteps := 2000000 }) only [go_sem, ↓reduceIte, Int.reduceToNat, Nat.reduceMul, Int.reduceBEq, Int.reduceBNe, Nat.reduceBEq, Nat.reduceAdd, Nat.reduceSub, Nat.reduceLeDiff, Nat.reduceEqDiff, Nat.reduceLT, reduceCtorEq])
  obtain ⟨h3, h4⟩ := hth h.1 h.2
  subst h3
  have e5 : IntKind.i64.wrap ((x.length : Int) + (y.length : Int)) = (x.length : Int) + (y.length : Int) := w64 (by omega) (by omega)
  have e6 : decide ((z.length : Int) ≤ (x.length : Int) + (y.length : Int)) = true := decide_eq_true (by omega)
  (refine AWpL.calle (s9) rfl (by rw [hn]; rfl) (by simp (config := { maxSteps := 2000000 }) only [go_sem, ↓reduceIte, Int.reduceToNat, Nat.reduceMul, Int.reduceBEq, Int.reduceBNe, Nat.reduceBEq, Nat.reduceAdd, Nat.reduceSub, Nat.reduceLeDiff, Nat.reduceEqDiff, Nat.reduceLT, reduceCtorEq]) (AWpL.ofM hn rfl ?_); simp (config := { maxSteps := 2000000 }) only [go_sem, ↓reduceIte, Int.reduceToNat, Nat.reduceMul, Int.reduceBEq, Int.reduceBNe, Nat.reduceBEq, Nat.reduceAdd, Nat.reduceSub, Nat.reduceLeDiff, Nat.reduceEqDiff, Nat.reduceLT, reduceCtorEq])
  rw [e5, e6]
end Go.Proofs.Ytkbipopkemfhaaa
