/- Networks: the islands of nodes. -/
import Derived.Test.YtmginfhlohenhaaAwZk
import Derived.Test.YtmginfhlohenhaaGraF
set_option linter.unusedVariables false
set_option linter.unusedSimpArgs false
namespace Go.Proofs.Ytmginfhlohenhaa
open Go.Proofs.Ytmginfhlohenhaa.Aw
attribute [local go_sem] Int.natCast_zero Int.natCast_one bne_self_eq_false beq_self_eq_true Bool.not_true Bool.not_false Option.isSome_none Option.isSome_some Aw.bkM_nil Option.getD_some Option.getD_none Nat.sub_zero Int.toNat_zero Aw.frzS Aw.frzT Aw.frzA Aw.frzL Aw.frzR Aw.frzO Aw.frzOL Aw.frzOT Aw.frzOR Aw.killS Aw.mapT Aw.mapR Aw.killM Aw.resAVs Aw.resAV Aw.quietOps Aw.wpP Aw.wpT Aw.wpS Aw.AOp.mild List.getElem?_cons_zero List.getElem?_cons_succ Bool.and_false Bool.and_self Bool.false_and Aw.opOb Aw.gdB Aw.Rnd Aw.subTm List.length_map Int.toNat_natCast and_self Aw.SeqC Aw.stops Aw.Ends Aw.looks Aw.renA Aw.renL Aw.renT Aw.renS Aw.wpO Aw.aop Aw.putTm Aw.St.ev Aw.St.put Aw.St.putO Aw.binAV Aw.intBin Aw.strBin Aw.pickAV Aw.optInt Aw.AV.strip Aw.AV.guard Aw.AV.cells Aw.gdOb Aw.AOp.opds Aw.AOp.still Aw.ptrCells Aw.St.reg Aw.fillAV Aw.fillOb Aw.elsOb Aw.splice Aw.firm Aw.cellish Aw.AV.shut Aw.shutAll Aw.Seq Aw.Blk Aw.retS_nil Aw.mapA Aw.mapL Aw.borA Aw.borOb Aw.allOb Aw.tupOf Aw.params Aw.Opd.of Array.toList Value.cells List.map_cons List.map_nil List.getD_cons_zero List.getD_cons_succ List.getD_nil List.length_cons List.length_nil List.take_succ_cons List.take_zero List.take_nil List.drop_zero List.drop_succ_cons List.drop_nil List.set_cons_zero List.set_cons_succ List.append_nil List.nil_append List.cons_append List.all_cons List.all_nil cond_false cond_true if_true if_false true_and and_true Bool.and_true Bool.true_and Option.map_some Option.map_none false_implies forall_const implies_true forall_eq imp_self Bool.cond_false_right Bool.cond_true_left beq_true beq_false Bool.not_eq_true' Bool.false_eq_true Nat.zero_add Nat.add_zero Aw.eqCells Aw.stopDraw Aw.skipS Aw.exactCap Aw.revealS Aw.srcEls Aw.srcSz
attribute [local go_sem ↓] Aw.look_nil Aw.look_ite Aw.wpL_nil Aw.wpL_op Aw.wpL_gd Aw.wpQ_nil Aw.wpQ_op Aw.wpQ_gd Aw.wpC_draw Aw.wpC_reg Aw.wpC_skip Aw.wpC_ret Aw.wpC_exit Aw.wpC_seq Aw.wpC_block Aw.wpC_loop Aw.wpC_cond Aw.stopAt_nil Aw.stopAt_cons Aw.wpD_skip Aw.wpD_ret Aw.wpD_exit Aw.wpD_region Aw.wpD_draw Aw.wpM_nil Aw.wpM_op Aw.wpM_gd Aw.wpD_seq Aw.wpD_block Aw.wpD_loop Aw.wpD_cond
/- gridhall/islands.places -/
def a31 : ACode :=
  (.seq (.region false [] [
     ⟨(some 1), none, (.box 29 (.t 0))⟩,
     ⟨(some 2), none, (.mov (.v (.slice none 0 0)))⟩,
     ⟨(some 3), none, (.mov (.v (.int .i64 0)))⟩])
  (.seq (.region false [] [
     ⟨(some 11), none, (.load 6 true (.t 1))⟩,
     ⟨(some 12), none, (.call 59 [(.t 11)])⟩,
     ⟨(some 10), none, (.mov (.t 12))⟩,
     ⟨(some 13), none, (.ext 0 (.t 10))⟩,
     ⟨(some 14), none, (.ext 1 (.t 10))⟩,
     ⟨(some 4), none, (.alloc 114 (.agg #[(.slice none 0 0), (.slice none 0 0)]))⟩,
     ⟨none, none, (.store 2 (.t 4) (.t 13))⟩,
     ⟨(some 5), none, (.mov (.t 14))⟩])
  (.seq (.region false [] [
     ⟨(some 15), none, (.fld 0 (.t 1))⟩,
     ⟨(some 16), none, (.load 1 false (.t 15))⟩,
     ⟨(some 17), none, (.len (.t 16))⟩,
     ⟨(some 18), none, (.mksl 3 1 8 (.int .i64 0) (.t 17) (.t 17))⟩,
     ⟨(some 6), none, (.mov (.t 18))⟩,
     ⟨(some 7), none, (.mov (.v (.int .i64 0)))⟩])
  (.seq (.seq (.region false [] [
     ⟨(some 19), none, (.fld 0 (.t 4))⟩,
     ⟨(some 20), none, (.load 1 false (.t 19))⟩,
     ⟨(some 21), none, (.len (.t 20))⟩,
     ⟨(some 22), none, (.mov (.v (.int .i64 0)))⟩])
  (.block 0 (.loop (.seq (.region false [] [
       ⟨(some 23), none, (.bin .lss 3 (.t 22) (.t 21))⟩])
    (.seq (.cond (.t 23)
      .skip
      (.exit 0))
    (.seq (.block 1 (.seq (.region false [] [
        ⟨(some 24), none, (.mov (.t 22))⟩,
        ⟨(some 25), none, (.idx 1 (.t 20) (.t 22))⟩,
        ⟨(some 26), none, (.load 1 false (.t 25))⟩,
        ⟨(some 8), none, (.mov (.t 24))⟩,
        ⟨(some 9), none, (.mov (.t 26))⟩])
     (.seq (.region false [] [
        ⟨(some 27), none, (.mov (.t 6))⟩,
        ⟨(some 28), none, (.mov (.t 8))⟩,
        ⟨(some 29), none, (.fld 1 (.t 4))⟩,
        ⟨(some 30), none, (.load 1 false (.t 29))⟩,
        ⟨(some 31), none, (.mov (.t 9))⟩,
        ⟨(some 32), none, (.idx 1 (.t 30) (.t 31))⟩,
        ⟨(some 33), none, (.load 1 false (.t 32))⟩,
        ⟨(some 34), none, (.idx 1 (.t 27) (.t 28))⟩,
        ⟨none, none, (.store 1 (.t 34) (.t 33))⟩])
     (.region false [] [
        ⟨(some 35), none, (.mov (.t 7))⟩,
        ⟨(some 36), none, (.mov (.t 6))⟩,
        ⟨(some 37), none, (.mov (.t 8))⟩,
        ⟨(some 38), none, (.idx 1 (.t 36) (.t 37))⟩,
        ⟨(some 39), none, (.load 1 false (.t 38))⟩,
        ⟨(some 40), none, (.bin .add 3 (.t 39) (.v (.int .i64 1)))⟩,
        ⟨(some 41), none, (.mxi (.t 35) (.t 40))⟩,
        ⟨(some 7), none, (.mov (.t 41))⟩]))))
    (.region false [] [
       ⟨(some 42), none, (.bin .add 3 (.t 22) (.v (.int .i64 1)))⟩,
       ⟨(some 22), none, (.mov (.t 42))⟩])))))))
  (.seq (.region false [] [
     ⟨(some 43), none, (.mov (.t 6))⟩,
     ⟨(some 44), none, (.mov (.t 7))⟩,
     ⟨(some 2), none, (.mov (.t 43))⟩,
     ⟨(some 3), none, (.mov (.t 44))⟩])
  .ret)))))
theorem k31 : FnIs Try.prog 31 45 [.t 2, .t 3] a31 := ⟨_, _, Try.func31, rfl, by kernel_rfl, by kernel_rfl, rfl⟩

def placesF (n : Net) : List Int := (busF n).map fun b => (islF n).getD b.toNat 0
def manyF (n : Net) : Int := countF (placesF n)
theorem isl_rng {n : Net} (hv : NetV n) {i : Nat} (hi : i < nbus n) : 0 ≤ (islF n).getD i 0 ∧ (islF n).getD i 0 < 24 := by
  have h := isl_ok hv
  have h2 := h.rng i hi
  have h3 := h.le
  have h4 := (nbus_le hv).1
  omega
theorem places_mem {n : Net} (hv : NetV n) {x : Int} (hx : x ∈ placesF n) : 0 ≤ x ∧ x < 24 ∧ x < manyF n := by
  have hc := countF_ge x hx
  obtain ⟨b, hb, rfl⟩ := List.mem_map.1 hx
  have h1 := bus_mem hv hb
  have h2 := isl_rng hv (i := b.toNat) (by omega)
  exact ⟨h2.1, h2.2, hc⟩
theorem places_len {n : Net} (hv : NetV n) : (placesF n).length = n.nodes.l.length := by
  unfold placesF
  rw [List.length_map]; exact bus_len hv
theorem many_le {n : Net} (hv : NetV n) : 0 ≤ manyF n ∧ manyF n ≤ 24 :=
  ⟨countF_nn _, countF_le (by decide) fun x hx => (places_mem hv hx).2.1⟩
theorem fill_set {α : Type} (P : List α) (z : α) {i N : Nat} (hi : i < N) (hP : P.length = N) : (P.take i ++ List.replicate (N - i) z).set i (P[i]'(by omega)) = P.take (i + 1) ++ List.replicate (N - (i + 1)) z := by
  have h1 : (P.take i).length = i := by rw [List.length_take]; omega
  rw [List.set_append_right _ _ (by omega), h1, Nat.sub_self, show N - i = (N - (i + 1)) + 1 by omega, List.replicate_succ, List.set_cons_zero, take_get (by omega), List.append_assoc]
  rfl
set_option maxRecDepth 20000 in
set_option maxHeartbeats 1000000 in
theorem s31 (n : Net) (hk : NetOk n) (hv : NetV n) : Aw.Spec Try.prog 31 [] [neta n] (fun rg v => rg = [] ∧ v = .tup [.imm none true 1 ((placesF n).map ic), I (manyF n)]) := by
  refine Aw.Spec.regsW k31 rfl rfl fun E hn hnp hp => ?_
  unfold a31
  have pin : ∀ r, E.pin r = none := fun r => hp.none hnp (Nat.zero_le _)
  have h24 := hv.nodes
  have hbl := bus_len hv
  have hpl := places_len hv
  refine AWp.ofD [] [] hn mixed rfl ?_
  simp (config := { maxSteps := 2000000 }) only [go_sem, ↓reduceIte, Int.reduceToNat, Nat.reduceMul, Int.reduceBEq, Int.reduceBNe, Nat.reduceBEq, Nat.reduceAdd, Nat.reduceSub, Nat.reduceLeDiff, Nat.reduceEqDiff, Nat.reduceLT, reduceCtorEq]
  refine AWpL.callA [] (s59 n hk hv) rfl rfl (by rw [hn]; rfl) rfl (fun r hr => by cases hr) fun rg v hv' => ?_
  obtain ⟨rfl, rfl⟩ := hv'
  refine ⟨Nat.zero_le _, ?_⟩
  rw [retS_new]
  refine AWpL.ofM hn rfl ?_
  simp (config := { maxSteps := 2000000 }) only [go_sem, ↓reduceIte, Int.reduceToNat, Nat.reduceMul, Int.reduceBEq, Int.reduceBNe, Nat.reduceBEq, Nat.reduceAdd, Nat.reduceSub, Nat.reduceLeDiff, Nat.reduceEqDiff, Nat.reduceLT, reduceCtorEq]
  (repeat (refine And.intro (by first | omega | (refine ⟨by omega, by omega⟩) | (refine ⟨by omega, by omega, by omega⟩) | (simp only [List.length_map, List.length_range, List.length_append, List.length_cons, List.length_nil, List.length_replicate, List.length_set]; omega) | (simp; omega) | (intro hgd; cases hgd) | (intro hgd; refine ⟨hgd, ?_⟩; first | omega | (refine ⟨by omega, by omega⟩) | (simp; omega))) ?_))
  have hfill : List.replicate n.nodes.l.length [I 0] = ((placesF n).take 0 ++ List.replicate (n.nodes.l.length - 0) 0).map ic := by simp
  refine AWp.loop (fun k s => ∃ i : Nat, i + k = n.nodes.l.length ∧ Weak E s ⟨[(4, .ptr 0 0 0), (6, .hnd 1 0 n.nodes.l.length n.nodes.l.length true), (7, I (countF ((placesF n).take i))), (20, .imm none true 1 ((busF n).map ic)), (21, I n.nodes.l.length), (22, I i)],
      [.box 114 (topc n), .arr 3 1 (((placesF n).take i ++ List.replicate (n.nodes.l.length - i) 0).map ic)]⟩) (n := n.nodes.l.length)
    ⟨0, by omega, weak_to [2, 3] hp hnp rfl (by simp (config := { maxSteps := 2000000 }) only [go_sem, ↓reduceIte, Int.reduceToNat, Nat.reduceMul, Int.reduceBEq, Int.reduceBNe, Nat.reduceBEq, Nat.reduceAdd, Nat.reduceSub, Nat.reduceLeDiff, Nat.reduceEqDiff, Nat.reduceLT, reduceCtorEq, Int.natCast_zero, Aw.pos, hbl]; rfl) (by simp (config := { maxSteps := 2000000 }) only [go_sem, ↓reduceIte, Int.reduceToNat, Nat.reduceMul, Int.reduceBEq, Int.reduceBNe, Nat.reduceBEq, Nat.reduceAdd, Nat.reduceSub, Nat.reduceLeDiff, Nat.reduceEqDiff, Nat.reduceLT, reduceCtorEq, Aw.renR, Aw.pos, hfill])⟩ ?_
  rintro k s ⟨i, hik, hw⟩
  refine AWp.weak hw (AWp.ofD [] [] hn mixed rfl ?_)
  rcases Nat.lt_or_ge i n.nodes.l.length with hlt | hge
  · have e0 : decide ((i : Int) < (n.nodes.l.length : Int)) = true := decide_eq_true (by omega)
    have e2 : IntKind.i64.wrap ((i : Int) + 1) = ((i + 1 : Nat) : Int) := by rw [w64 (by omega) (by omega)]; omega
    have e1 := getD_mapD 0 ic (l := busF n) (i := i) (by omega)
    have hb := bus_rng hv hlt
    have e3 := getD_mapD 0 ic (l := islF n) (i := ((busF n).getD i 0).toNat) (by have := (isl_ok hv).len; omega)
    have hi := isl_rng hv (i := ((busF n).getD i 0).toNat) (by omega)
    have hP : (placesF n)[i]'(by omega) = (islF n).getD ((busF n).getD i 0).toNat 0 := by
      unfold placesF
      rw [List.getElem_map, List.getD_eq_getElem?_getD (l := busF n), List.getElem?_eq_getElem (by omega)]; rfl
    have hcnt : countF ((placesF n).take (i + 1)) = max (countF ((placesF n).take i)) ((placesF n)[i]'(by omega) + 1) := foldl_take _ _ (by omega)
    have hset := fill_set (placesF n) 0 hlt hpl
    rw [hP] at hcnt hset
    have hsm : (((placesF n).take i ++ List.replicate (n.nodes.l.length - i) 0).map ic).set i [I ((islF n).getD ((busF n).getD i 0).toNat 0)] = ((placesF n).take (i + 1) ++ List.replicate (n.nodes.l.length - (i + 1)) 0).map ic := by rw [← hset, List.map_set]
    have hgd : (((placesF n).take (i + 1) ++ List.replicate (n.nodes.l.length - (i + 1)) 0).map ic).getD i [] = ic ((islF n).getD ((busF n).getD i 0).toNat 0) := by
      rw [← hset, List.map_set, List.getD_eq_getElem?_getD, List.getElem?_set]
      rw [if_pos rfl, if_pos (by simp; omega)]; rfl
    have hll : ((placesF n).take i ++ List.replicate (n.nodes.l.length - i) 0).length = n.nodes.l.length := by simp; omega
    have hg0 : (((placesF n).take i ++ List.replicate (n.nodes.l.length - i) (0 : Int)).map ic).getD i [] = ic 0 := by
      rw [List.getD_eq_getElem?_getD, List.getElem?_map, List.getElem?_append_right (by simp; omega), List.getElem?_replicate, if_pos (by simp; omega)]; rfl
    generalize (islF n).getD ((busF n).getD i 0).toNat 0 = v at *
    have e4 : IntKind.i64.wrap (v + 1) = v + 1 := w64 (by omega) (by omega)
    simp (config := { maxSteps := 2000000 }) only [go_sem, ↓reduceIte, Int.reduceToNat, Nat.reduceMul, Int.reduceBEq, Int.reduceBNe, Nat.reduceBEq, Nat.reduceAdd, Nat.reduceSub, Nat.reduceLeDiff, Nat.reduceEqDiff, Nat.reduceLT, reduceCtorEq, e0, e1, e2, e3, e4, hg0, hsm, hgd]
    have hil := (isl_ok hv).len
    have hll2 : ((placesF n).take (i + 1) ++ List.replicate (n.nodes.l.length - (i + 1)) 0).length = n.nodes.l.length := by simp; omega
    refine ⟨⟨by omega, by omega⟩, ⟨by omega, by omega⟩, ⟨by omega, by omega⟩, by omega, ⟨by omega, by omega⟩, by omega, ?_⟩
    exact ⟨k - 1, by omega, i + 1, by omega, weak_to [0, 1] hp hnp rfl (by simp (config := { maxSteps := 2000000 }) only [go_sem, ↓reduceIte, Int.reduceToNat, Nat.reduceMul, Int.reduceBEq, Int.reduceBNe, Nat.reduceBEq, Nat.reduceAdd, Nat.reduceSub, Nat.reduceLeDiff, Nat.reduceEqDiff, Nat.reduceLT, reduceCtorEq, Aw.pos, hcnt]) (by simp (config := { maxSteps := 2000000 }) only [go_sem, ↓reduceIte, Int.reduceToNat, Nat.reduceMul, Int.reduceBEq, Int.reduceBNe, Nat.reduceBEq, Nat.reduceAdd, Nat.reduceSub, Nat.reduceLeDiff, Nat.reduceEqDiff, Nat.reduceLT, reduceCtorEq, Aw.renR, Aw.pos])⟩
  · have e0 : decide ((i : Int) < (n.nodes.l.length : Int)) = false := decide_eq_false (by omega)
    obtain rfl : i = n.nodes.l.length := by omega
    have ht : (placesF n).take n.nodes.l.length = placesF n := List.take_of_length_le (by omega)
    simp (config := { maxSteps := 2000000 }) only [go_sem, ↓reduceIte, Int.reduceToNat, Nat.reduceMul, Int.reduceBEq, Int.reduceBNe, Nat.reduceBEq, Nat.reduceAdd, Nat.reduceSub, Nat.reduceLeDiff, Nat.reduceEqDiff, Nat.reduceLT, reduceCtorEq, e0, ht, Nat.sub_self, List.replicate_zero, List.append_nil]
    refine Retn.weak (weak_freeze 1 rfl (pin 1) ?_) _ ?_
    · simp (config := { maxSteps := 2000000 }) only [go_sem, ↓reduceIte, Int.reduceToNat, Nat.reduceMul, Int.reduceBEq, Int.reduceBNe, Nat.reduceBEq, Nat.reduceAdd, Nat.reduceSub, Nat.reduceLeDiff, Nat.reduceEqDiff, Nat.reduceLT, reduceCtorEq, Nat.le_refl, List.length_map, hpl]
    refine Retn.ret (π := []) hp hnp ⟨rfl, ?_⟩
    simp (config := { maxSteps := 2000000 }) only [go_sem, ↓reduceIte, Int.reduceToNat, Nat.reduceMul, Int.reduceBEq, Int.reduceBNe, Nat.reduceBEq, Nat.reduceAdd, Nat.reduceSub, Nat.reduceLeDiff, Nat.reduceEqDiff, Nat.reduceLT, reduceCtorEq]
    rw [List.take_of_length_le (by rw [List.length_map, hpl]; exact Nat.le_refl _)]
    rfl
end Go.Proofs.Ytmginfhlohenhaa
