/- Networks: wires and islands. -/
import Derived.Test.YtmginfhlohenhaaAwZk
import Derived.Test.YtmginfhlohenhaaGraE
import Derived.Test.YtmginfhlohenhaaGraP
set_option linter.unusedVariables false
set_option linter.unusedSimpArgs false
namespace Go.Proofs.Ytmginfhlohenhaa
open Go.Proofs.Ytmginfhlohenhaa.Aw
attribute [local go_sem] Int.natCast_zero Int.natCast_one bne_self_eq_false beq_self_eq_true Bool.not_true Bool.not_false Option.isSome_none Option.isSome_some Aw.bkM_nil Option.getD_some Option.getD_none Nat.sub_zero Int.toNat_zero Aw.frzS Aw.frzT Aw.frzA Aw.frzL Aw.frzR Aw.frzO Aw.frzOL Aw.frzOT Aw.frzOR Aw.killS Aw.mapT Aw.mapR Aw.killM Aw.resAVs Aw.resAV Aw.quietOps Aw.wpP Aw.wpT Aw.wpS Aw.AOp.mild List.getElem?_cons_zero List.getElem?_cons_succ Bool.and_false Bool.and_self Bool.false_and Aw.opOb Aw.gdB Aw.Rnd Aw.subTm List.length_map Int.toNat_natCast and_self Aw.SeqC Aw.stops Aw.Ends Aw.looks Aw.renA Aw.renL Aw.renT Aw.renS Aw.wpO Aw.aop Aw.putTm Aw.St.ev Aw.St.put Aw.St.putO Aw.binAV Aw.intBin Aw.strBin Aw.pickAV Aw.optInt Aw.AV.strip Aw.AV.guard Aw.AV.cells Aw.gdOb Aw.AOp.opds Aw.AOp.still Aw.ptrCells Aw.St.reg Aw.fillAV Aw.fillOb Aw.elsOb Aw.splice Aw.firm Aw.cellish Aw.AV.shut Aw.shutAll Aw.Seq Aw.Blk Aw.retS_nil Aw.mapA Aw.mapL Aw.borA Aw.borOb Aw.allOb Aw.tupOf Aw.params Aw.Opd.of Array.toList Value.cells List.map_cons List.map_nil List.getD_cons_zero List.getD_cons_succ List.getD_nil List.length_cons List.length_nil List.take_succ_cons List.take_zero List.take_nil List.drop_zero List.drop_succ_cons List.drop_nil List.set_cons_zero List.set_cons_succ List.append_nil List.nil_append List.cons_append List.all_cons List.all_nil cond_false cond_true if_true if_false true_and and_true Bool.and_true Bool.true_and Option.map_some Option.map_none false_implies forall_const implies_true forall_eq imp_self Bool.cond_false_right Bool.cond_true_left beq_true beq_false Bool.not_eq_true' Bool.false_eq_true Nat.zero_add Nat.add_zero Aw.eqCells Aw.stopDraw Aw.skipS Aw.exactCap Aw.revealS Aw.srcEls Aw.srcSz
attribute [local go_sem ↓] Aw.look_nil Aw.look_ite Aw.wpL_nil Aw.wpL_op Aw.wpL_gd Aw.wpQ_nil Aw.wpQ_op Aw.wpQ_gd Aw.wpC_draw Aw.wpC_reg Aw.wpC_skip Aw.wpC_ret Aw.wpC_exit Aw.wpC_seq Aw.wpC_block Aw.wpC_loop Aw.wpC_cond Aw.stopAt_nil Aw.stopAt_cons Aw.wpD_skip Aw.wpD_ret Aw.wpD_exit Aw.wpD_region Aw.wpD_draw Aw.wpM_nil Aw.wpM_op Aw.wpM_gd Aw.wpD_seq Aw.wpD_block Aw.wpD_loop Aw.wpD_cond
/- gridhall/topology.Fresh -/
def a65 : ACode :=
  (.seq (.region false [] [
     ⟨(some 1), none, (.box 29 (.t 0))⟩,
     ⟨(some 2), none, (.alloc 114 (.agg #[(.slice none 0 0), (.slice none 0 0)]))⟩])
  (.seq (.region false [] [
     ⟨(some 4), none, (.load 6 true (.t 1))⟩,
     ⟨(some 5), none, (.call 68 [(.t 4)])⟩,
     ⟨(some 3), none, (.mov (.t 5))⟩])
  (.seq (.region true [[], [], [1], [], [], [3, 4, 2], [2, 5, 5], [0, 6], [7, 6, 0, 1, 2, 3, 4, 5, 6, 7]] [
     ⟨(some 6), none, (.mov (.t 3))⟩,
     ⟨(some 7), none, (.mov (.t 3))⟩,
     ⟨(some 8), none, (.call 70 [(.t 7)])⟩,
     ⟨(some 9), none, (.load 6 true (.t 1))⟩,
     ⟨(some 10), none, (.mov (.t 3))⟩,
     ⟨(some 11), none, (.call 71 [(.t 9), (.t 10)])⟩,
     ⟨(some 12), none, (.call 69 [(.t 8), (.t 11), (.v (.func (.func 72) #[] #[]))])⟩,
     ⟨(some 13), none, (.build (.agg #[(.slice none 0 0), (.slice none 0 0)]) [(0, (1, (.t 6))), (1, (1, (.t 12)))])⟩,
     ⟨none, none, (.store 2 (.t 2) (.t 13))⟩])
  .ret)))
theorem k65 : FnIs Try.prog 65 14 [.c 2 2 true] a65 := ⟨_, _, Try.func65, rfl, by kernel_rfl, by kernel_rfl, rfl⟩
/- gridhall/topology.Of -/
def a59 : ACode :=
  (.seq (.region false [] [
     ⟨(some 1), none, (.box 29 (.t 0))⟩,
     ⟨(some 2), none, (.alloc 114 (.agg #[(.slice none 0 0), (.slice none 0 0)]))⟩,
     ⟨(some 3), none, (.mov (.v (.int .i64 0)))⟩])
  (.seq (.seq (.region false [] [
     ⟨(some 5), none, (.load 6 true (.t 1))⟩,
     ⟨(some 6), none, (.call 6 [(.t 5)])⟩,
     ⟨(some 4), none, (.mov (.t 6))⟩])
  (.seq (.region false [] [
     ⟨(some 7), none, (.mov (.t 4))⟩,
     ⟨(some 8), none, (.bin .neq 30 (.t 7) (.v (.int .i64 0)))⟩])
  (.cond (.t 8)
    (.seq (.region false [] [
       ⟨(some 9), none, (.build (.agg #[(.slice none 0 0), (.slice none 0 0)]) [])⟩,
       ⟨(some 10), none, (.mov (.t 4))⟩,
       ⟨none, none, (.store 2 (.t 2) (.t 9))⟩,
       ⟨(some 3), none, (.mov (.t 10))⟩])
    .ret)
    .skip)))
  (.seq (.region false [] [
     ⟨(some 11), none, (.load 6 true (.t 1))⟩,
     ⟨(some 12), none, (.call 65 [(.t 11)])⟩,
     ⟨none, none, (.store 2 (.t 2) (.t 12))⟩,
     ⟨(some 3), none, (.mov (.v (.int .i64 0)))⟩])
  .ret)))
theorem k59 : FnIs Try.prog 59 13 [.c 2 2 true, .t 3] a59 := ⟨_, _, Try.func59, rfl, by kernel_rfl, by kernel_rfl, rfl⟩

theorem bus_ok {n : Net} (hv : NetV n) : PartsO n.nodes.l.length (edgesF n) (upF n) (busF n) (partsN n.nodes.l.length (edgesF n) (upF n) n.nodes.l.length).2 := partsF_ok (edges_in hv)
def busI (n : Net) (x : ByteArray) : Nat := ((busF n).getD (idx n x) 0).toNat
def nbus (n : Net) : Nat := (countF (busF n)).toNat
def wiresF (n : Net) : List (Nat × Nat) := n.brs.l.map fun b => (busI n b.a, busI n b.b)
def islF (n : Net) : List Int := partsF (nbus n) (wiresF n) fun _ => true
theorem bus_len {n : Net} (hv : NetV n) : (busF n).length = n.nodes.l.length := (bus_ok hv).len
theorem bus_rng {n : Net} (hv : NetV n) {i : Nat} (hi : i < n.nodes.l.length) : 0 ≤ (busF n).getD i 0 ∧ (busF n).getD i 0 < nbus n := by
  have h := bus_ok hv
  have h2 := h.rng i hi
  have h3 := h.count
  have h4 := countF_nn (busF n)
  unfold nbus
  omega
theorem bus_mem {n : Net} (hv : NetV n) {x : Int} (hx : x ∈ busF n) : 0 ≤ x ∧ x < nbus n := by
  obtain ⟨i, hi, rfl⟩ := List.mem_iff_getElem.1 hx
  have := bus_rng hv (i := i) (by rw [← bus_len hv]; exact hi)
  rwa [List.getD_eq_getElem?_getD, List.getElem?_eq_getElem hi] at this
theorem busI_int {n : Net} (hv : NetV n) {x : ByteArray} (hx : x ∈ n.nodes.l) : (busF n).getD (idx n x) 0 = (busI n x : Int) ∧ busI n x < nbus n := by
  have := bus_rng hv (idx_int hx).2.1
  unfold busI
  omega
theorem nbus_le {n : Net} (hv : NetV n) : nbus n ≤ 24 ∧ countF (busF n) = (nbus n : Int) := by
  have h1 := (bus_ok hv).count
  have h2 := (bus_ok hv).le
  have h3 := hv.nodes
  unfold nbus
  omega
theorem wires_in {n : Net} (hv : NetV n) : EdgesIn (nbus n) (wiresF n) := fun i hi => by
  unfold wiresF at *
  rw [List.length_map] at hi
  rw [List.getD_eq_getElem?_getD, List.getElem?_eq_getElem (by simpa using hi)]
  simp only [List.getElem_map, Option.getD_some]
  have hx := hv.br _ (List.getElem_mem hi)
  exact ⟨(busI_int hv hx.1).2, (busI_int hv hx.2.1).2⟩
set_option maxRecDepth 20000 in
set_option maxHeartbeats 1000000 in
theorem s71 (n : Net) (hv : NetV n) (nl fl) : Aw.Spec Try.prog 71 [] [neta n, .imm nl fl 1 ((busF n).map ic)] (fun rg v => rg = [] ∧ v = .imm none false 2 ((wiresF n).map pc2)) := by
  refine Aw.Spec.regsW k71 rfl rfl fun E hn hnp hp => ?_
  unfold a71
  have pin : ∀ r, E.pin r = none := fun r => hp.none hnp (Nat.zero_le _)
  have h32 := hv.nbr
  have h24 := hv.nodes
  have hbl := bus_len hv
  refine AWp.seq (AWp.ofD [] [] hn mixed rfl ?_)
  simp (config := { maxSteps := 2000000 }) only [go_sem, ↓reduceIte, Int.reduceToNat, Nat.reduceMul, Int.reduceBEq, Int.reduceBNe, Nat.reduceBEq, Nat.reduceAdd, Nat.reduceSub, Nat.reduceLeDiff, Nat.reduceEqDiff, Nat.reduceLT, reduceCtorEq]
  refine AWp.seq (AWp.ofD [] [] hn mixed rfl ?_)
  simp (config := { maxSteps := 2000000 }) only [go_sem, ↓reduceIte, Int.reduceToNat, Nat.reduceMul, Int.reduceBEq, Int.reduceBNe, Nat.reduceBEq, Nat.reduceAdd, Nat.reduceSub, Nat.reduceLeDiff, Nat.reduceEqDiff, Nat.reduceLT, reduceCtorEq]
  refine AWp.weak (weak_nil 5 96 2 rfl) (AWp.ofD [] [] hn mixed rfl ?_)
  simp (config := { maxSteps := 2000000 }) only [go_sem, ↓reduceIte, Int.reduceToNat, Nat.reduceMul, Int.reduceBEq, Int.reduceBNe, Nat.reduceBEq, Nat.reduceAdd, Nat.reduceSub, Nat.reduceLeDiff, Nat.reduceEqDiff, Nat.reduceLT, reduceCtorEq]
  refine AWp.loop (fun k s => ∃ i : Nat, i + k = n.brs.l.length ∧ Weak E s ⟨[(1, .imm nl fl 1 ((busF n).map ic)), (2, .ptr 0 0 0), (5, .hnd 1 0 i i false), (9, n.brs.av 9 brc), (10, I n.brs.l.length), (11, I i)], [.box 29 (netc n), .arr 96 2 (((wiresF n).take i).map pc2)]⟩) (n := n.brs.l.length)
    ⟨0, by omega, weak_to [0, 1] hp hnp rfl (by simp (config := { maxSteps := 2000000 }) only [go_sem, ↓reduceIte, Int.reduceToNat, Nat.reduceMul, Int.reduceBEq, Int.reduceBNe, Nat.reduceBEq, Nat.reduceAdd, Nat.reduceSub, Nat.reduceLeDiff, Nat.reduceEqDiff, Nat.reduceLT, reduceCtorEq, Int.natCast_zero, Aw.pos]) (by simp (config := { maxSteps := 2000000 }) only [go_sem, ↓reduceIte, Int.reduceToNat, Nat.reduceMul, Int.reduceBEq, Int.reduceBNe, Nat.reduceBEq, Nat.reduceAdd, Nat.reduceSub, Nat.reduceLeDiff, Nat.reduceEqDiff, Nat.reduceLT, reduceCtorEq, Aw.renR, Aw.pos])⟩ ?_
  rintro k s ⟨i, hik, hw⟩
  refine AWp.weak hw (AWp.ofD [] [] hn mixed rfl ?_)
  rcases Nat.lt_or_ge i n.brs.l.length with hlt | hge
  · have e0 : decide ((i : Int) < (n.brs.l.length : Int)) = true := decide_eq_true (by omega)
    have e1 := getD_map brc hlt
    have e2 : IntKind.i64.wrap ((i : Int) + 1) = ((i + 1 : Nat) : Int) := by rw [w64 (by omega) (by omega)]; omega
    have hx := hv.br _ (List.getElem_mem hlt)
    have hlen : (wiresF n).length = n.brs.l.length := List.length_map _
    have ht : (wiresF n).take (i + 1) = (wiresF n).take i ++ [(busI n n.brs.l[i].a, busI n n.brs.l[i].b)] := by
      rw [take_get (by omega)]
      unfold wiresF
      rw [List.getElem_map]
    have htl : ((wiresF n).take i).length = i := by rw [List.length_take]; omega
    generalize n.brs.l[i] = x at *
    obtain ⟨a1, a2, a3⟩ := idx_int hx.1
    obtain ⟨b1, b2, b3⟩ := idx_int hx.2.1
    have a4 := getD_mapD 0 ic (l := busF n) (i := idx n x.a) (by omega)
    have b4 := getD_mapD 0 ic (l := busF n) (i := idx n x.b) (by omega)
    rw [(busI_int hv hx.1).1] at a4
    rw [(busI_int hv hx.2.1).1] at b4
    simp (config := { maxSteps := 2000000 }) only [go_sem, ↓reduceIte, Int.reduceToNat, Nat.reduceMul, Int.reduceBEq, Int.reduceBNe, Nat.reduceBEq, Nat.reduceAdd, Nat.reduceSub, Nat.reduceLeDiff, Nat.reduceEqDiff, Nat.reduceLT, reduceCtorEq, e0, e1]
    (repeat (refine And.intro (by first | omega | (refine ⟨by omega, by omega⟩) | (refine ⟨by omega, by omega, by omega⟩) | (simp only [List.length_map, List.length_range, List.length_append, List.length_cons, List.length_nil, List.length_replicate, List.length_set]; omega) | (simp; omega) | (intro hgd; cases hgd) | (intro hgd; refine ⟨hgd, ?_⟩; first | omega | (refine ⟨by omega, by omega⟩) | (simp; omega))) ?_))
    refine AWp.plan (.take 0 [false, true, true, true, true, true, true, true, true, true, true, true, true, true, true, true, true, true, true, false, false] (.take 1 [true, false, true, true, true, true, true, false, false, true, true, true, true, true, true, true, true, false, false, false, false] (.take 2 [true, true, false, false, true, true, false, false, false, true, true, true, true, true, false, false, false, false, false, false, false] (.take 3 [true, true, true, false, true, true, false, false, false, true, true, true, true, true, false, false, false, false, false, false, false] (.take 4 [true, true, true, true, false, false, false, false, false, true, true, true, true, true, false, false, false, false, false, false, false] (.take 5 [true, true, true, true, true, false, false, false, false, true, true, true, true, true, false, false, false, false, false, false, false] (.take 9 [true, true, true, true, true, true, true, true, true, false, true, true, true, true, true, false, false, false, false, false, false] (.take 10 [true, true, true, true, true, true, true, true, true, true, false, false, true, true, false, false, false, false, false, false, false] (.take 11 [true, true, true, true, true, true, true, true, true, true, true, false, true, true, false, false, false, false, false, false, false] (.take 12 [true, true, true, true, true, true, true, true, true, true, true, true, false, false, false, false, false, false, false, false, false] (.take 13 [true, true, true, true, true, true, true, true, true, true, true, true, true, false, false, false, false, false, false, false, false] (.one 6 (.take 7 [true, true, true, true, true, true, true, false, false, true, true, true, true, true, true, true, true, false, false, false, false] (.take 8 [true, true, true, true, true, true, true, true, false, true, true, true, true, true, true, true, true, false, false, false, false] (.one 14 (.take 15 [true, true, true, true, true, true, true, true, true, true, true, true, true, true, true, false, false, false, false, false, false] (.take 16 [true, true, true, true, true, true, true, true, true, true, true, true, true, true, true, true, false, false, false, false, false] (.take 17 [true, true, true, true, true, true, true, true, true, true, true, true, true, true, true, true, true, false, false, false, false] (.one 18 (.one 19 (.take 20 [true, true, true, true, true, true, true, true, true, true, true, true, true, true, true, true, true, true, true, true, false] .done))))))))))))))))))))) [true, true, true, true, true, true, true, true, true, true, true, true, true, true, true, true, true, true, true, false, true] mixed hn rfl rfl ?_
    simp (config := { maxSteps := 2000000 }) only [go_sem, ↓reduceIte, Int.reduceToNat, Nat.reduceMul, Int.reduceBEq, Int.reduceBNe, Nat.reduceBEq, Nat.reduceAdd, Nat.reduceSub, Nat.reduceLeDiff, Nat.reduceEqDiff, Nat.reduceLT, reduceCtorEq]
    refine AOne.calle (s36 n.nodes.nl n.nodes.fl n.nodes.l x.a (by omega)) rfl (by rw [hn]; rfl) (by simp (config := { maxSteps := 2000000 }) only [go_sem, ↓reduceIte, Int.reduceToNat, Nat.reduceMul, Int.reduceBEq, Int.reduceBNe, Nat.reduceBEq, Nat.reduceAdd, Nat.reduceSub, Nat.reduceLeDiff, Nat.reduceEqDiff, Nat.reduceLT, reduceCtorEq]) ?_
    simp (config := { maxSteps := 2000000 }) only [go_sem, ↓reduceIte, Int.reduceToNat, Nat.reduceMul, Int.reduceBEq, Int.reduceBNe, Nat.reduceBEq, Nat.reduceAdd, Nat.reduceSub, Nat.reduceLeDiff, Nat.reduceEqDiff, Nat.reduceLT, reduceCtorEq, a1, a4]
    refine ⟨⟨by omega, by omega⟩, ?_⟩
    refine AOne.calle (s36 n.nodes.nl n.nodes.fl n.nodes.l x.b (by omega)) rfl (by rw [hn]; rfl) (by simp (config := { maxSteps := 2000000 }) only [go_sem, ↓reduceIte, Int.reduceToNat, Nat.reduceMul, Int.reduceBEq, Int.reduceBNe, Nat.reduceBEq, Nat.reduceAdd, Nat.reduceSub, Nat.reduceLeDiff, Nat.reduceEqDiff, Nat.reduceLT, reduceCtorEq]) ?_
    simp (config := { maxSteps := 2000000 }) only [go_sem, ↓reduceIte, Int.reduceToNat, Nat.reduceMul, Int.reduceBEq, Int.reduceBNe, Nat.reduceBEq, Nat.reduceAdd, Nat.reduceSub, Nat.reduceLeDiff, Nat.reduceEqDiff, Nat.reduceLT, reduceCtorEq, b1, b4]
    refine ⟨⟨by omega, by omega⟩, ?_⟩
    refine AOne.rule (AWpL.app (r := 1) (els := ((wiresF n).take i).map pc2) (ys := [pc2 (busI n x.a, busI n x.b)]) rfl rfl rfl rfl (by rw [hn]; rfl) (by rw [List.length_map]; omega) (pin 1) (Nat.le_refl 1) (fun el hm y hy => by
      rw [List.mem_singleton.1 hm] at hy
      rcases List.mem_cons.1 hy with rfl | hy
      · rfl
      · rw [List.mem_singleton.1 hy]; rfl) (by simp only [List.length_cons, List.length_nil]; omega) (by simp only [List.length_cons, List.length_nil]; omega) (AWpL.ofM hn rfl ?_))
    have hap : ((wiresF n).take i).map pc2 ++ [pc2 (busI n x.a, busI n x.b)] = ((wiresF n).take (i + 1)).map pc2 := by rw [ht, List.map_append]; rfl
    simp (config := { maxSteps := 2000000 }) only [go_sem, ↓reduceIte, Int.reduceToNat, Nat.reduceMul, Int.reduceBEq, Int.reduceBNe, Nat.reduceBEq, Nat.reduceAdd, Nat.reduceSub, Nat.reduceLeDiff, Nat.reduceEqDiff, Nat.reduceLT, reduceCtorEq, hap, e2]
    exact ⟨k - 1, by omega, i + 1, by omega, weak_to [0, 1] hp hnp rfl (by simp (config := { maxSteps := 2000000 }) only [go_sem, ↓reduceIte, Int.reduceToNat, Nat.reduceMul, Int.reduceBEq, Int.reduceBNe, Nat.reduceBEq, Nat.reduceAdd, Nat.reduceSub, Nat.reduceLeDiff, Nat.reduceEqDiff, Nat.reduceLT, reduceCtorEq, Aw.pos]) (by simp (config := { maxSteps := 2000000 }) only [go_sem, ↓reduceIte, Int.reduceToNat, Nat.reduceMul, Int.reduceBEq, Int.reduceBNe, Nat.reduceBEq, Nat.reduceAdd, Nat.reduceSub, Nat.reduceLeDiff, Nat.reduceEqDiff, Nat.reduceLT, reduceCtorEq, Aw.renR, Aw.pos])⟩
  · have e0 : decide ((i : Int) < (n.brs.l.length : Int)) = false := decide_eq_false (by omega)
    have hlen : (wiresF n).length = i := by unfold wiresF; rw [List.length_map]; omega
    simp (config := { maxSteps := 2000000 }) only [go_sem, ↓reduceIte, Int.reduceToNat, Nat.reduceMul, Int.reduceBEq, Int.reduceBNe, Nat.reduceBEq, Nat.reduceAdd, Nat.reduceSub, Nat.reduceLeDiff, Nat.reduceEqDiff, Nat.reduceLT, reduceCtorEq, e0]
    refine Retn.weak (weak_freeze 1 rfl (pin 1) ?_) _ ?_
    · simp (config := { maxSteps := 2000000 }) only [go_sem, ↓reduceIte, Int.reduceToNat, Nat.reduceMul, Int.reduceBEq, Int.reduceBNe, Nat.reduceBEq, Nat.reduceAdd, Nat.reduceSub, Nat.reduceLeDiff, Nat.reduceEqDiff, Nat.reduceLT, reduceCtorEq, Nat.le_refl, List.length_map, List.length_take]
      omega
    refine Retn.ret (π := []) hp hnp ⟨rfl, ?_⟩
    simp (config := { maxSteps := 2000000 }) only [go_sem, ↓reduceIte, Int.reduceToNat, Nat.reduceMul, Int.reduceBEq, Int.reduceBNe, Nat.reduceBEq, Nat.reduceAdd, Nat.reduceSub, Nat.reduceLeDiff, Nat.reduceEqDiff, Nat.reduceLT, reduceCtorEq]
    rw [List.take_of_length_le (l := wiresF n) (by omega), List.take_of_length_le (by rw [List.length_map]; omega)]
theorem s72 (i : Int) : Aw.Spec Try.prog 72 [] [I i] (Gives (· = B true)) := by
  refine Aw.Spec.givesD k72 mixed rfl rfl rfl fun E hn hnp hp => ?_
  unfold a72
  simp (config := { maxSteps := 2000000 }) only [go_sem, ↓reduceIte, Int.reduceToNat, Nat.reduceMul, Int.reduceBEq, Int.reduceBNe, Nat.reduceBEq, Nat.reduceAdd, Nat.reduceSub, Nat.reduceLeDiff, Nat.reduceEqDiff, Nat.reduceLT, reduceCtorEq]
theorem Ent.lit (f : FuncId) : Ent (.val (.func (.func f) #[] #[])) (.fn f []) := fun w ok ρ v h => by
  unfold R at h ⊢
  exact ⟨#[], h, by unfold RList; rfl⟩
theorem isl_ok {n : Net} (hv : NetV n) : PartsO (nbus n) (wiresF n) (fun _ => true) (islF n) (partsN (nbus n) (wiresF n) (fun _ => true) (nbus n)).2 := partsF_ok (wires_in hv)
abbrev topc (n : Net) : List AV := [.imm none true 1 ((busF n).map ic), .imm none true 1 ((islF n).map ic)]
set_option maxRecDepth 20000 in
set_option maxHeartbeats 1000000 in
theorem s65 (n : Net) (hv : NetV n) : Aw.Spec Try.prog 65 [] [neta n] (fun rg v => rg = [.box 114 (topc n)] ∧ v = .agg (topc n)) := by
  refine Aw.Spec.regsW k65 rfl rfl fun E hn hnp hp => ?_
  unfold a65
  have pin : ∀ r, E.pin r = none := fun r => hp.none hnp (Nat.zero_le _)
  have h24 := hv.nodes
  have h25 := hv.nbr
  have hlen : (wiresF n).length = n.brs.l.length := List.length_map _
  obtain ⟨hb24, hcb⟩ := nbus_le hv
  refine AWp.ofD [999] [] hn mixed rfl ?_
  simp (config := { maxSteps := 2000000 }) only [go_sem, ↓reduceIte, Int.reduceToNat, Nat.reduceMul, Int.reduceBEq, Int.reduceBNe, Nat.reduceBEq, Nat.reduceAdd, Nat.reduceSub, Nat.reduceLeDiff, Nat.reduceEqDiff, Nat.reduceLT, reduceCtorEq]
  refine AWpL.callA [] (s68 n hv) rfl rfl (by rw [hn]; rfl) rfl (fun r hr => by cases hr) fun rg v hv' => ?_
  obtain ⟨rfl, rfl, hbl⟩ := hv'
  refine ⟨Nat.zero_le _, ?_⟩
  rw [retS_nil]
  refine AWpL.ofM hn rfl ?_
  simp (config := { maxSteps := 2000000 }) only [go_sem, ↓reduceIte, Int.reduceToNat, Nat.reduceMul, Int.reduceBEq, Int.reduceBNe, Nat.reduceBEq, Nat.reduceAdd, Nat.reduceSub, Nat.reduceLeDiff, Nat.reduceEqDiff, Nat.reduceLT, reduceCtorEq]
  refine AWp.plan (.take 0 [false, true, true, true, true, true, true, false, false] (.take 1 [true, false, false, true, true, false, false, false, false] (.take 3 [true, true, true, false, true, false, false, false, false] (.take 4 [true, true, true, true, false, false, false, false, false] (.one 2 (.one 5 (.one 6 (.take 7 [true, true, true, true, true, true, true, false, false] (.one 8 .done))))))))) [true, true, true, true, true, true, true, true, false] mixed hn rfl rfl ?_
  simp (config := { maxSteps := 2000000 }) only [go_sem, ↓reduceIte, Int.reduceToNat, Nat.reduceMul, Int.reduceBEq, Int.reduceBNe, Nat.reduceBEq, Nat.reduceAdd, Nat.reduceSub, Nat.reduceLeDiff, Nat.reduceEqDiff, Nat.reduceLT, reduceCtorEq]
  refine AOne.calle (s70 none true (busF n) (by omega) (fun x hx => by have := bus_mem hv hx; omega)) rfl (by rw [hn]; rfl) (by simp (config := { maxSteps := 2000000 }) only [go_sem, ↓reduceIte, Int.reduceToNat, Nat.reduceMul, Int.reduceBEq, Int.reduceBNe, Nat.reduceBEq, Nat.reduceAdd, Nat.reduceSub, Nat.reduceLeDiff, Nat.reduceEqDiff, Nat.reduceLT, reduceCtorEq]) ?_
  simp (config := { maxSteps := 2000000 }) only [go_sem, ↓reduceIte, Int.reduceToNat, Nat.reduceMul, Int.reduceBEq, Int.reduceBNe, Nat.reduceBEq, Nat.reduceAdd, Nat.reduceSub, Nat.reduceLeDiff, Nat.reduceEqDiff, Nat.reduceLT, reduceCtorEq, hcb]
  refine AOne.callA (s71 n hv none true) rfl (by rw [hn]; rfl) fun rg v hv' => ?_
  obtain ⟨rfl, rfl⟩ := hv'
  rw [retS_nil]
  simp (config := { maxSteps := 2000000 }) only [go_sem, ↓reduceIte, Int.reduceToNat, Nat.reduceMul, Int.reduceBEq, Int.reduceBNe, Nat.reduceBEq, Nat.reduceAdd, Nat.reduceSub, Nat.reduceLeDiff, Nat.reduceEqDiff, Nat.reduceLT, reduceCtorEq]
  refine AOne.callA ((s69 (nbus n) none false (wiresF n) 72 [] (fun _ => true) (by kernel_rfl) rfl (fun i hi => s72 i) hb24 (wires_in hv) (by omega)).args (args' := [I (nbus n), .imm none false 2 ((wiresF n).map pc2), .val (.func (.func 72) #[] #[])]) ⟨Ent.refl _, Ent.refl _, Ent.lit _, trivial⟩) rfl (by rw [hn]; rfl) fun rg v hv' => ?_
  obtain ⟨rfl, rfl, hil⟩ := hv'
  rw [retS_new]
  simp (config := { maxSteps := 2000000 }) only [go_sem, ↓reduceIte, Int.reduceToNat, Nat.reduceMul, Int.reduceBEq, Int.reduceBNe, Nat.reduceBEq, Nat.reduceAdd, Nat.reduceSub, Nat.reduceLeDiff, Nat.reduceEqDiff, Nat.reduceLT, reduceCtorEq]
  refine Retn.weak (weak_freeze 2 rfl (pin 2) ?_) _ ?_
  · simp (config := { maxSteps := 2000000 }) only [go_sem, ↓reduceIte, Int.reduceToNat, Nat.reduceMul, Int.reduceBEq, Int.reduceBNe, Nat.reduceBEq, Nat.reduceAdd, Nat.reduceSub, Nat.reduceLeDiff, Nat.reduceEqDiff, Nat.reduceLT, reduceCtorEq, Nat.le_refl, List.length_map, hil]
  simp (config := { maxSteps := 2000000 }) only [go_sem, ↓reduceIte, Int.reduceToNat, Nat.reduceMul, Int.reduceBEq, Int.reduceBNe, Nat.reduceBEq, Nat.reduceAdd, Nat.reduceSub, Nat.reduceLeDiff, Nat.reduceEqDiff, Nat.reduceLT, reduceCtorEq]
  refine Retn.ret (π := [1]) hp hnp ⟨rfl, ?_⟩
  simp (config := { maxSteps := 2000000 }) only [go_sem, ↓reduceIte, Int.reduceToNat, Nat.reduceMul, Int.reduceBEq, Int.reduceBNe, Nat.reduceBEq, Nat.reduceAdd, Nat.reduceSub, Nat.reduceLeDiff, Nat.reduceEqDiff, Nat.reduceLT, reduceCtorEq, Aw.renR, Aw.pos]
  have hcut : ((partsF (nbus n) (wiresF n) fun _ => true).map ic).take (nbus n) = (islF n).map ic := List.take_of_length_le (by rw [List.length_map, hil]; exact Nat.le_refl _)
  rw [hcut]
  exact ⟨rfl, rfl⟩
set_option maxRecDepth 20000 in
theorem s59 (n : Net) (hk : NetOk n) (hv : NetV n) : Aw.Spec Try.prog 59 [] [neta n] (fun rg v => rg = [.box 114 (topc n)] ∧ v = .tup [.agg (topc n), I 0]) := by
  refine Aw.Spec.regsW k59 rfl rfl fun E hn hnp hp => ?_
  unfold a59
  have pin : ∀ r, E.pin r = none := fun r => hp.none hnp (Nat.zero_le _)
  have h0 := netF_zero.2 hv
  refine AWp.ofD [] [] hn mixed rfl ?_
  simp (config := { maxSteps := 2000000 }) only [go_sem, ↓reduceIte, Int.reduceToNat, Nat.reduceMul, Int.reduceBEq, Int.reduceBNe, Nat.reduceBEq, Nat.reduceAdd, Nat.reduceSub, Nat.reduceLeDiff, Nat.reduceEqDiff, Nat.reduceLT, reduceCtorEq]
  (refine AWpL.calle (s6 n hk) rfl (by rw [hn]; rfl) (by simp (config := { maxSteps := 2000000 }) only [go_sem, ↓reduceIte, Int.reduceToNat, Nat.reduceMul, Int.reduceBEq, Int.reduceBNe, Nat.reduceBEq, Nat.reduceAdd, Nat.reduceSub, Nat.reduceLeDiff, Nat.reduceEqDiff, Nat.reduceLT, reduceCtorEq]) (AWpL.ofM hn rfl ?_); simp (config := { maxSteps := 2000000 }) only [go_sem, ↓reduceIte, Int.reduceToNat, Nat.reduceMul, Int.reduceBEq, Int.reduceBNe, Nat.reduceBEq, Nat.reduceAdd, Nat.reduceSub, Nat.reduceLeDiff, Nat.reduceEqDiff, Nat.reduceLT, reduceCtorEq])
  simp (config := { maxSteps := 2000000 }) only [go_sem, ↓reduceIte, Int.reduceToNat, Nat.reduceMul, Int.reduceBEq, Int.reduceBNe, Nat.reduceBEq, Nat.reduceAdd, Nat.reduceSub, Nat.reduceLeDiff, Nat.reduceEqDiff, Nat.reduceLT, reduceCtorEq, h0]
  refine AWpL.callA [] (s65 n hv) rfl rfl (by rw [hn]; rfl) rfl (fun r hr => by cases hr) fun rg v hv' => ?_
  obtain ⟨rfl, rfl⟩ := hv'
  refine ⟨Nat.zero_le _, ?_⟩
  rw [retS_new]
  refine AWpL.ofM hn rfl ?_
  simp (config := { maxSteps := 2000000 }) only [go_sem, ↓reduceIte, Int.reduceToNat, Nat.reduceMul, Int.reduceBEq, Int.reduceBNe, Nat.reduceBEq, Nat.reduceAdd, Nat.reduceSub, Nat.reduceLeDiff, Nat.reduceEqDiff, Nat.reduceLT, reduceCtorEq]
  refine Retn.ret (π := [1]) hp hnp ⟨rfl, ?_⟩
  simp (config := { maxSteps := 2000000 }) only [go_sem, ↓reduceIte, Int.reduceToNat, Nat.reduceMul, Int.reduceBEq, Int.reduceBNe, Nat.reduceBEq, Nat.reduceAdd, Nat.reduceSub, Nat.reduceLeDiff, Nat.reduceEqDiff, Nat.reduceLT, reduceCtorEq, Aw.renR, Aw.pos]
end Go.Proofs.Ytmginfhlohenhaa
