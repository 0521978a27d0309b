/- Networks: edges, buses, islands. -/
import Derived.Test.YtmginfhlohenhaaAwZk
import Derived.Test.YtmginfhlohenhaaNetD
import Derived.Test.YtmginfhlohenhaaGraC
set_option linter.unusedVariables false
set_option linter.unusedSimpArgs false
namespace Go.Proofs.Ytmginfhlohenhaa
open Go.Proofs.Ytmginfhlohenhaa.Aw
attribute [local go_sem] Int.natCast_zero Int.natCast_one bne_self_eq_false beq_self_eq_true Bool.not_true Bool.not_false Option.isSome_none Option.isSome_some Aw.bkM_nil Option.getD_some Option.getD_none Nat.sub_zero Int.toNat_zero Aw.frzS Aw.frzT Aw.frzA Aw.frzL Aw.frzR Aw.frzO Aw.frzOL Aw.frzOT Aw.frzOR Aw.killS Aw.mapT Aw.mapR Aw.killM Aw.resAVs Aw.resAV Aw.quietOps Aw.wpP Aw.wpT Aw.wpS Aw.AOp.mild List.getElem?_cons_zero List.getElem?_cons_succ Bool.and_false Bool.and_self Bool.false_and Aw.opOb Aw.gdB Aw.Rnd Aw.subTm List.length_map Int.toNat_natCast and_self Aw.SeqC Aw.stops Aw.Ends Aw.looks Aw.renA Aw.renL Aw.renT Aw.renS Aw.wpO Aw.aop Aw.putTm Aw.St.ev Aw.St.put Aw.St.putO Aw.binAV Aw.intBin Aw.strBin Aw.pickAV Aw.optInt Aw.AV.strip Aw.AV.guard Aw.AV.cells Aw.gdOb Aw.AOp.opds Aw.AOp.still Aw.ptrCells Aw.St.reg Aw.fillAV Aw.fillOb Aw.elsOb Aw.splice Aw.firm Aw.cellish Aw.AV.shut Aw.shutAll Aw.Seq Aw.Blk Aw.retS_nil Aw.mapA Aw.mapL Aw.borA Aw.borOb Aw.allOb Aw.tupOf Aw.params Aw.Opd.of Array.toList Value.cells List.map_cons List.map_nil List.getD_cons_zero List.getD_cons_succ List.getD_nil List.length_cons List.length_nil List.take_succ_cons List.take_zero List.take_nil List.drop_zero List.drop_succ_cons List.drop_nil List.set_cons_zero List.set_cons_succ List.append_nil List.nil_append List.cons_append List.all_cons List.all_nil cond_false cond_true if_true if_false true_and and_true Bool.and_true Bool.true_and Option.map_some Option.map_none false_implies forall_const implies_true forall_eq imp_self Bool.cond_false_right Bool.cond_true_left beq_true beq_false Bool.not_eq_true' Bool.false_eq_true Nat.zero_add Nat.add_zero Aw.eqCells Aw.stopDraw Aw.skipS Aw.exactCap Aw.revealS Aw.srcEls Aw.srcSz
attribute [local go_sem ↓] Aw.look_nil Aw.look_ite Aw.wpL_nil Aw.wpL_op Aw.wpL_gd Aw.wpQ_nil Aw.wpQ_op Aw.wpQ_gd Aw.wpC_draw Aw.wpC_reg Aw.wpC_skip Aw.wpC_ret Aw.wpC_exit Aw.wpC_seq Aw.wpC_block Aw.wpC_loop Aw.wpC_cond Aw.stopAt_nil Aw.stopAt_cons Aw.wpD_skip Aw.wpD_ret Aw.wpD_exit Aw.wpD_region Aw.wpD_draw Aw.wpM_nil Aw.wpM_op Aw.wpM_gd Aw.wpD_seq Aw.wpD_block Aw.wpD_loop Aw.wpD_cond
/- gridhall/station.Edges -/
def a74 : ACode :=
  (.seq (.region false [] [
     ⟨(some 1), none, (.box 29 (.t 0))⟩,
     ⟨(some 2), none, (.mov (.v (.slice none 0 0)))⟩])
  (.seq (.region false [] [
     ⟨(some 3), none, (.mov (.v (.slice none 0 0)))⟩])
  (.seq (.seq (.region false [] [
     ⟨(some 6), none, (.fld 1 (.t 1))⟩,
     ⟨(some 7), none, (.load 1 false (.t 6))⟩,
     ⟨(some 8), none, (.len (.t 7))⟩,
     ⟨(some 9), none, (.mov (.v (.int .i64 0)))⟩])
  (.block 0 (.loop (.seq (.region false [] [
       ⟨(some 10), none, (.bin .lss 3 (.t 9) (.t 8))⟩])
    (.seq (.cond (.t 10)
      .skip
      (.exit 0))
    (.seq (.block 1 (.seq (.region false [] [
        ⟨(some 11), none, (.idx 5 (.t 7) (.t 9))⟩,
        ⟨(some 12), none, (.load 5 true (.t 11))⟩,
        ⟨(some 5), none, (.alloc 66 (.agg #[(.string ⟨#[]⟩), (.string ⟨#[]⟩), (.string ⟨#[]⟩), (.bool false), (.bool false)]))⟩,
        ⟨none, none, (.store 5 (.t 5) (.t 12))⟩])
     (.region true [[], [], [1], [], [3], [2, 4], [], [6], [], [8], [7, 9, 5], [5, 10], [11], [0, 12, 10], [13, 13, 0, 1, 2, 3, 4, 5, 6, 7, 8, 9, 10, 11, 12, 13]] [
        ⟨(some 13), none, (.mov (.t 3))⟩,
        ⟨(some 14), none, (.fld 0 (.t 1))⟩,
        ⟨(some 15), none, (.load 1 false (.t 14))⟩,
        ⟨(some 16), none, (.fld 1 (.t 5))⟩,
        ⟨(some 17), none, (.load 1 false (.t 16))⟩,
        ⟨(some 18), none, (.call 36 [(.t 15), (.t 17)])⟩,
        ⟨(some 19), none, (.fld 0 (.t 1))⟩,
        ⟨(some 20), none, (.load 1 false (.t 19))⟩,
        ⟨(some 21), none, (.fld 2 (.t 5))⟩,
        ⟨(some 22), none, (.load 1 false (.t 21))⟩,
        ⟨(some 23), none, (.call 36 [(.t 20), (.t 22)])⟩,
        ⟨(some 24), none, (.build (.agg #[(.int .i64 0), (.int .i64 0)]) [(0, (1, (.t 18))), (1, (1, (.t 23)))])⟩,
        ⟨(some 25), none, (.bsl 96 2 1 [(0, (.t 24))])⟩,
        ⟨(some 26), none, (.app 96 2 16 (.agg #[(.int .i64 0), (.int .i64 0)]) (.t 13) (.t 25))⟩,
        ⟨(some 3), none, (.mov (.t 26))⟩])))
    (.region false [] [
       ⟨(some 27), none, (.bin .add 3 (.t 9) (.v (.int .i64 1)))⟩,
       ⟨(some 9), none, (.mov (.t 27))⟩])))))))
  (.seq (.region false [] [
     ⟨(some 28), none, (.mov (.t 3))⟩,
     ⟨(some 2), none, (.mov (.t 28))⟩])
  .ret))))
theorem k74 : FnIs Try.prog 74 29 [.t 2] a74 := ⟨_, _, Try.func74, rfl, by kernel_rfl, by kernel_rfl, rfl⟩
/- gridhall/station.Buses -/
def a68 : ACode :=
  (.seq (.region false [] [
     ⟨(some 1), none, (.box 29 (.t 0))⟩,
     ⟨(some 2), none, (.mov (.v (.slice none 0 0)))⟩])
  (.seq (.region true [[], [0], [1], [], [3], [], [2, 4, 5, 4], [6, 6, 0, 1, 2, 3, 4, 5, 6]] [
     ⟨(some 3), none, (.fld 0 (.t 1))⟩,
     ⟨(some 4), none, (.load 1 false (.t 3))⟩,
     ⟨(some 5), none, (.len (.t 4))⟩,
     ⟨(some 6), none, (.load 6 true (.t 1))⟩,
     ⟨(some 7), none, (.call 74 [(.t 6)])⟩,
     ⟨(some 8), none, (.mkfn 75 [(.t 1)])⟩,
     ⟨(some 9), none, (.call 69 [(.t 5), (.t 7), (.t 8)])⟩,
     ⟨(some 2), none, (.mov (.t 9))⟩])
  .ret))
theorem k68 : FnIs Try.prog 68 10 [.t 2] a68 := ⟨_, _, Try.func68, rfl, by kernel_rfl, by kernel_rfl, rfl⟩
/- gridhall/station.Buses$1 -/
def a75 : ACode :=
  (.seq (.region false [] [
     ⟨(some 3), none, (.mov (.v (.bool false)))⟩])
  (.seq (.region false [] [
     ⟨(some 4), none, (.fld 1 (.t 1))⟩,
     ⟨(some 5), none, (.load 1 false (.t 4))⟩,
     ⟨(some 6), none, (.mov (.t 0))⟩,
     ⟨(some 7), none, (.idx 5 (.t 5) (.t 6))⟩,
     ⟨(some 8), none, (.fld 4 (.t 7))⟩,
     ⟨(some 9), none, (.load 1 false (.t 8))⟩,
     ⟨(some 10), none, (.un .not (.t 9))⟩,
     ⟨(some 3), none, (.mov (.t 10))⟩])
  .ret))
theorem k75 : FnIs Try.prog 75 11 [.t 3] a75 := ⟨_, _, Try.func75, rfl, by kernel_rfl, by kernel_rfl, rfl⟩
/- gridhall/topology.Wires -/
def a71 : ACode :=
  (.seq (.region false [] [
     ⟨(some 2), none, (.box 29 (.t 0))⟩,
     ⟨(some 4), none, (.mov (.v (.slice none 0 0)))⟩])
  (.seq (.region false [] [
     ⟨(some 5), none, (.mov (.v (.slice none 0 0)))⟩])
  (.seq (.seq (.region false [] [
     ⟨(some 8), none, (.fld 2 (.t 2))⟩,
     ⟨(some 9), none, (.load 1 false (.t 8))⟩,
     ⟨(some 10), none, (.len (.t 9))⟩,
     ⟨(some 11), none, (.mov (.v (.int .i64 0)))⟩])
  (.block 0 (.loop (.seq (.region false [] [
       ⟨(some 12), none, (.bin .lss 3 (.t 11) (.t 10))⟩])
    (.seq (.cond (.t 12)
      .skip
      (.exit 0))
    (.seq (.block 1 (.seq (.region false [] [
        ⟨(some 13), none, (.idx 9 (.t 9) (.t 11))⟩,
        ⟨(some 14), none, (.load 9 true (.t 13))⟩,
        ⟨(some 7), none, (.alloc 70 (.agg #[(.string ⟨#[]⟩), (.string ⟨#[]⟩), (.string ⟨#[]⟩), (.int .i64 0), (.int .i64 0), (.int .i64 0), (.int .i64 0), (.int .i64 0), (.int .i64 0)]))⟩,
        ⟨none, none, (.store 9 (.t 7) (.t 14))⟩])
     (.region true [[], [], [], [2], [], [4], [3, 5], [1, 6], [7], [], [], [10], [], [12], [11, 13, 6], [9, 14], [15], [8, 16], [17], [0, 18, 14], [19, 19, 0, 1, 2, 3, 4, 5, 6, 7, 8, 9, 10, 11, 12, 13, 14, 15, 16, 17, 18, 19]] [
        ⟨(some 15), none, (.mov (.t 5))⟩,
        ⟨(some 16), none, (.mov (.t 1))⟩,
        ⟨(some 17), none, (.fld 0 (.t 2))⟩,
        ⟨(some 18), none, (.load 1 false (.t 17))⟩,
        ⟨(some 19), none, (.fld 1 (.t 7))⟩,
        ⟨(some 20), none, (.load 1 false (.t 19))⟩,
        ⟨(some 21), none, (.call 36 [(.t 18), (.t 20)])⟩,
        ⟨(some 22), none, (.idx 1 (.t 16) (.t 21))⟩,
        ⟨(some 23), none, (.load 1 false (.t 22))⟩,
        ⟨(some 24), none, (.mov (.t 1))⟩,
        ⟨(some 25), none, (.fld 0 (.t 2))⟩,
        ⟨(some 26), none, (.load 1 false (.t 25))⟩,
        ⟨(some 27), none, (.fld 2 (.t 7))⟩,
        ⟨(some 28), none, (.load 1 false (.t 27))⟩,
        ⟨(some 29), none, (.call 36 [(.t 26), (.t 28)])⟩,
        ⟨(some 30), none, (.idx 1 (.t 24) (.t 29))⟩,
        ⟨(some 31), none, (.load 1 false (.t 30))⟩,
        ⟨(some 32), none, (.build (.agg #[(.int .i64 0), (.int .i64 0)]) [(0, (1, (.t 23))), (1, (1, (.t 31)))])⟩,
        ⟨(some 33), none, (.bsl 96 2 1 [(0, (.t 32))])⟩,
        ⟨(some 34), none, (.app 96 2 16 (.agg #[(.int .i64 0), (.int .i64 0)]) (.t 15) (.t 33))⟩,
        ⟨(some 5), none, (.mov (.t 34))⟩])))
    (.region false [] [
       ⟨(some 35), none, (.bin .add 3 (.t 11) (.v (.int .i64 1)))⟩,
       ⟨(some 11), none, (.mov (.t 35))⟩])))))))
  (.seq (.region false [] [
     ⟨(some 36), none, (.mov (.t 5))⟩,
     ⟨(some 4), none, (.mov (.t 36))⟩])
  .ret))))
theorem k71 : FnIs Try.prog 71 37 [.t 4] a71 := ⟨_, _, Try.func71, rfl, by kernel_rfl, by kernel_rfl, rfl⟩
/- gridhall/topology.Fresh$1 -/
def a72 : ACode :=
  (.seq (.region false [] [
     ⟨(some 2), none, (.mov (.v (.bool false)))⟩])
  (.seq (.region false [] [
     ⟨(some 2), none, (.mov (.v (.bool true)))⟩])
  .ret))
theorem k72 : FnIs Try.prog 72 3 [.t 2] a72 := ⟨_, _, Try.func72, rfl, by kernel_rfl, by kernel_rfl, rfl⟩

def edgesF (n : Net) : List (Nat × Nat) := n.sws.l.map fun s => (idx n s.a, idx n s.b)
def upF (n : Net) (i : Nat) : Bool := !(n.sws.l.getD i default).opn
def busF (n : Net) : List Int := partsF n.nodes.l.length (edgesF n) (upF n)
set_option maxRecDepth 20000 in
set_option maxHeartbeats 1000000 in
theorem s74 (n : Net) (hv : NetV n) : Aw.Spec Try.prog 74 [] [neta n] (fun rg v => rg = [] ∧ v = .imm none false 2 ((edgesF n).map pc2)) := by
  refine Aw.Spec.regsW k74 rfl rfl fun E hn hnp hp => ?_
  unfold a74
  have pin : ∀ r, E.pin r = none := fun r => hp.none hnp (Nat.zero_le _)
  have h32 := hv.nsw
  have h24 := hv.nodes
  refine AWp.seq (AWp.ofD [] [] hn mixed rfl ?_)
  simp (config := { maxSteps := 2000000 }) only [go_sem, ↓reduceIte, Int.reduceToNat, Nat.reduceMul, Int.reduceBEq, Int.reduceBNe, Nat.reduceBEq, Nat.reduceAdd, Nat.reduceSub, Nat.reduceLeDiff, Nat.reduceEqDiff, Nat.reduceLT, reduceCtorEq]
  refine AWp.seq (AWp.ofD [] [] hn mixed rfl ?_)
  simp (config := { maxSteps := 2000000 }) only [go_sem, ↓reduceIte, Int.reduceToNat, Nat.reduceMul, Int.reduceBEq, Int.reduceBNe, Nat.reduceBEq, Nat.reduceAdd, Nat.reduceSub, Nat.reduceLeDiff, Nat.reduceEqDiff, Nat.reduceLT, reduceCtorEq]
  refine AWp.weak (weak_nil 3 96 2 rfl) (AWp.ofD [] [] hn mixed rfl ?_)
  simp (config := { maxSteps := 2000000 }) only [go_sem, ↓reduceIte, Int.reduceToNat, Nat.reduceMul, Int.reduceBEq, Int.reduceBNe, Nat.reduceBEq, Nat.reduceAdd, Nat.reduceSub, Nat.reduceLeDiff, Nat.reduceEqDiff, Nat.reduceLT, reduceCtorEq]
  refine AWp.loop (fun k s => ∃ i : Nat, i + k = n.sws.l.length ∧ Weak E s ⟨[(1, .ptr 0 0 0), (3, .hnd 1 0 i i false), (7, n.sws.av 5 swc), (8, I n.sws.l.length), (9, I i)], [.box 29 (netc n), .arr 96 2 (((edgesF n).take i).map pc2)]⟩) (n := n.sws.l.length)
    ⟨0, by omega, weak_to [0, 1] hp hnp rfl (by simp (config := { maxSteps := 2000000 }) only [go_sem, ↓reduceIte, Int.reduceToNat, Nat.reduceMul, Int.reduceBEq, Int.reduceBNe, Nat.reduceBEq, Nat.reduceAdd, Nat.reduceSub, Nat.reduceLeDiff, Nat.reduceEqDiff, Nat.reduceLT, reduceCtorEq, Int.natCast_zero, Aw.pos]) (by simp (config := { maxSteps := 2000000 }) only [go_sem, ↓reduceIte, Int.reduceToNat, Nat.reduceMul, Int.reduceBEq, Int.reduceBNe, Nat.reduceBEq, Nat.reduceAdd, Nat.reduceSub, Nat.reduceLeDiff, Nat.reduceEqDiff, Nat.reduceLT, reduceCtorEq, Aw.renR, Aw.pos])⟩ ?_
  rintro k s ⟨i, hik, hw⟩
  refine AWp.weak hw (AWp.ofD [] [] hn mixed rfl ?_)
  rcases Nat.lt_or_ge i n.sws.l.length with hlt | hge
  · have e0 : decide ((i : Int) < (n.sws.l.length : Int)) = true := decide_eq_true (by omega)
    have e1 := getD_map swc hlt
    have e2 : IntKind.i64.wrap ((i : Int) + 1) = ((i + 1 : Nat) : Int) := by rw [w64 (by omega) (by omega)]; omega
    have hx := hv.sw _ (List.getElem_mem hlt)
    have hlen : (edgesF n).length = n.sws.l.length := List.length_map _
    have ht : (edgesF n).take (i + 1) = (edgesF n).take i ++ [(idx n n.sws.l[i].a, idx n n.sws.l[i].b)] := by
      rw [take_get (by omega)]
      unfold edgesF
      rw [List.getElem_map]
    have htl : ((edgesF n).take i).length = i := by rw [List.length_take]; omega
    generalize n.sws.l[i] = x at *
    obtain ⟨a1, a2, a3⟩ := idx_int hx.1
    obtain ⟨b1, b2, b3⟩ := idx_int hx.2.1
    simp (config := { maxSteps := 2000000 }) only [go_sem, ↓reduceIte, Int.reduceToNat, Nat.reduceMul, Int.reduceBEq, Int.reduceBNe, Nat.reduceBEq, Nat.reduceAdd, Nat.reduceSub, Nat.reduceLeDiff, Nat.reduceEqDiff, Nat.reduceLT, reduceCtorEq, e0, e1]
    (repeat (refine And.intro (by first | omega | (refine ⟨by omega, by omega⟩) | (refine ⟨by omega, by omega, by omega⟩) | (simp only [List.length_map, List.length_range, List.length_append, List.length_cons, List.length_nil, List.length_replicate, List.length_set]; omega) | (simp; omega) | (intro hgd; cases hgd) | (intro hgd; refine ⟨hgd, ?_⟩; first | omega | (refine ⟨by omega, by omega⟩) | (simp; omega))) ?_))
    refine AWp.plan (.take 0 [false, true, true, true, true, true, true, true, true, true, true, true, true, false, false] (.take 1 [true, false, false, true, true, false, true, true, true, true, false, false, false, false, false] (.take 2 [true, true, false, true, true, false, true, true, true, true, false, false, false, false, false] (.take 3 [true, true, true, false, false, false, true, true, true, true, false, false, false, false, false] (.take 4 [true, true, true, true, false, false, true, true, true, true, false, false, false, false, false] (.take 6 [true, true, true, true, true, true, false, false, true, true, false, false, false, false, false] (.take 7 [true, true, true, true, true, true, true, false, true, true, false, false, false, false, false] (.take 8 [true, true, true, true, true, true, true, true, false, false, false, false, false, false, false] (.take 9 [true, true, true, true, true, true, true, true, true, false, false, false, false, false, false] (.one 5 (.one 10 (.take 11 [true, true, true, true, true, true, true, true, true, true, true, false, false, false, false] (.one 12 (.one 13 (.take 14 [true, true, true, true, true, true, true, true, true, true, true, true, true, true, false] .done))))))))))))))) [true, true, true, true, true, true, true, true, true, true, true, true, true, false, true] mixed hn rfl rfl ?_
    simp (config := { maxSteps := 2000000 }) only [go_sem, ↓reduceIte, Int.reduceToNat, Nat.reduceMul, Int.reduceBEq, Int.reduceBNe, Nat.reduceBEq, Nat.reduceAdd, Nat.reduceSub, Nat.reduceLeDiff, Nat.reduceEqDiff, Nat.reduceLT, reduceCtorEq]
    refine AOne.calle (s36 n.nodes.nl n.nodes.fl n.nodes.l x.a (by omega)) rfl (by rw [hn]; rfl) (by simp (config := { maxSteps := 2000000 }) only [go_sem, ↓reduceIte, Int.reduceToNat, Nat.reduceMul, Int.reduceBEq, Int.reduceBNe, Nat.reduceBEq, Nat.reduceAdd, Nat.reduceSub, Nat.reduceLeDiff, Nat.reduceEqDiff, Nat.reduceLT, reduceCtorEq]) ?_
    simp (config := { maxSteps := 2000000 }) only [go_sem, ↓reduceIte, Int.reduceToNat, Nat.reduceMul, Int.reduceBEq, Int.reduceBNe, Nat.reduceBEq, Nat.reduceAdd, Nat.reduceSub, Nat.reduceLeDiff, Nat.reduceEqDiff, Nat.reduceLT, reduceCtorEq, a1]
    refine AOne.calle (s36 n.nodes.nl n.nodes.fl n.nodes.l x.b (by omega)) rfl (by rw [hn]; rfl) (by simp (config := { maxSteps := 2000000 }) only [go_sem, ↓reduceIte, Int.reduceToNat, Nat.reduceMul, Int.reduceBEq, Int.reduceBNe, Nat.reduceBEq, Nat.reduceAdd, Nat.reduceSub, Nat.reduceLeDiff, Nat.reduceEqDiff, Nat.reduceLT, reduceCtorEq]) ?_
    simp (config := { maxSteps := 2000000 }) only [go_sem, ↓reduceIte, Int.reduceToNat, Nat.reduceMul, Int.reduceBEq, Int.reduceBNe, Nat.reduceBEq, Nat.reduceAdd, Nat.reduceSub, Nat.reduceLeDiff, Nat.reduceEqDiff, Nat.reduceLT, reduceCtorEq, b1]
    refine AOne.rule (AWpL.app (r := 1) (els := ((edgesF n).take i).map pc2) (ys := [pc2 (idx n x.a, idx n x.b)]) rfl rfl rfl rfl (by rw [hn]; rfl) (by rw [List.length_map]; omega) (pin 1) (Nat.le_refl 1) (fun el hm y hy => by
      rw [List.mem_singleton.1 hm] at hy
      rcases List.mem_cons.1 hy with rfl | hy
      · rfl
      · rw [List.mem_singleton.1 hy]; rfl) (by simp only [List.length_cons, List.length_nil]; omega) (by simp only [List.length_cons, List.length_nil]; omega) (AWpL.ofM hn rfl ?_))
    have hap : ((edgesF n).take i).map pc2 ++ [pc2 (idx n x.a, idx n x.b)] = ((edgesF n).take (i + 1)).map pc2 := by rw [ht, List.map_append]; rfl
    simp (config := { maxSteps := 2000000 }) only [go_sem, ↓reduceIte, Int.reduceToNat, Nat.reduceMul, Int.reduceBEq, Int.reduceBNe, Nat.reduceBEq, Nat.reduceAdd, Nat.reduceSub, Nat.reduceLeDiff, Nat.reduceEqDiff, Nat.reduceLT, reduceCtorEq, hap, e2]
    exact ⟨k - 1, by omega, i + 1, by omega, weak_to [0, 1] hp hnp rfl (by simp (config := { maxSteps := 2000000 }) only [go_sem, ↓reduceIte, Int.reduceToNat, Nat.reduceMul, Int.reduceBEq, Int.reduceBNe, Nat.reduceBEq, Nat.reduceAdd, Nat.reduceSub, Nat.reduceLeDiff, Nat.reduceEqDiff, Nat.reduceLT, reduceCtorEq, Aw.pos]) (by simp (config := { maxSteps := 2000000 }) only [go_sem, ↓reduceIte, Int.reduceToNat, Nat.reduceMul, Int.reduceBEq, Int.reduceBNe, Nat.reduceBEq, Nat.reduceAdd, Nat.reduceSub, Nat.reduceLeDiff, Nat.reduceEqDiff, Nat.reduceLT, reduceCtorEq, Aw.renR, Aw.pos])⟩
  · have e0 : decide ((i : Int) < (n.sws.l.length : Int)) = false := decide_eq_false (by omega)
    have hlen : (edgesF n).length = i := by unfold edgesF; rw [List.length_map]; omega
    simp (config := { maxSteps := 2000000 }) only [go_sem, ↓reduceIte, Int.reduceToNat, Nat.reduceMul, Int.reduceBEq, Int.reduceBNe, Nat.reduceBEq, Nat.reduceAdd, Nat.reduceSub, Nat.reduceLeDiff, Nat.reduceEqDiff, Nat.reduceLT, reduceCtorEq, e0]
    refine Retn.weak (weak_freeze 1 rfl (pin 1) ?_) _ ?_
    · simp (config := { maxSteps := 2000000 }) only [go_sem, ↓reduceIte, Int.reduceToNat, Nat.reduceMul, Int.reduceBEq, Int.reduceBNe, Nat.reduceBEq, Nat.reduceAdd, Nat.reduceSub, Nat.reduceLeDiff, Nat.reduceEqDiff, Nat.reduceLT, reduceCtorEq, Nat.le_refl, List.length_map, List.length_take]
      omega
    refine Retn.ret (π := []) hp hnp ⟨rfl, ?_⟩
    simp (config := { maxSteps := 2000000 }) only [go_sem, ↓reduceIte, Int.reduceToNat, Nat.reduceMul, Int.reduceBEq, Int.reduceBNe, Nat.reduceBEq, Nat.reduceAdd, Nat.reduceSub, Nat.reduceLeDiff, Nat.reduceEqDiff, Nat.reduceLT, reduceCtorEq]
    rw [List.take_of_length_le (l := edgesF n) (by omega), List.take_of_length_le (by rw [List.length_map]; omega)]
theorem s75 (n : Net) (i : Nat) (hi : i < n.sws.l.length) : Aw.Spec Try.prog 75 [] [I i, .pim (netc n)] (Gives (· = B (upF n i))) := by
  refine Aw.Spec.givesD k75 mixed rfl rfl rfl fun E hn hnp hp => ?_
  unfold a75
  have e1 := getD_mapD default swc hi
  simp (config := { maxSteps := 2000000 }) only [go_sem, ↓reduceIte, Int.reduceToNat, Nat.reduceMul, Int.reduceBEq, Int.reduceBNe, Nat.reduceBEq, Nat.reduceAdd, Nat.reduceSub, Nat.reduceLeDiff, Nat.reduceEqDiff, Nat.reduceLT, reduceCtorEq, e1]
  (repeat (refine And.intro (by first | omega | (refine ⟨by omega, by omega⟩) | (refine ⟨by omega, by omega, by omega⟩) | (simp only [List.length_map, List.length_range, List.length_append, List.length_cons, List.length_nil, List.length_replicate, List.length_set]; omega) | (simp; omega) | (intro hgd; cases hgd) | (intro hgd; refine ⟨hgd, ?_⟩; first | omega | (refine ⟨by omega, by omega⟩) | (simp; omega))) ?_))
  rfl
theorem ni_ints {e : TypeId} (l : List Int) : NIR (.arr e 1 (l.map ic)) := by
  unfold NIR
  intro el hm
  obtain ⟨z, _, rfl⟩ := List.mem_map.1 hm
  simp only [NIL, NI, and_self]
theorem edges_in {n : Net} (hv : NetV n) : EdgesIn n.nodes.l.length (edgesF n) := fun i hi => by
  unfold edgesF at *
  rw [List.length_map] at hi
  rw [List.getD_eq_getElem?_getD, List.getElem?_eq_getElem (by simpa using hi)]
  simp only [List.getElem_map, Option.getD_some]
  have hx := hv.sw _ (List.getElem_mem hi)
  exact ⟨(idx_int hx.1).2.1, (idx_int hx.2.1).2.1⟩
set_option maxRecDepth 20000 in
theorem s68 (n : Net) (hv : NetV n) : Aw.Spec Try.prog 68 [] [neta n] (fun rg v => rg = [] ∧ v = .imm none true 1 ((busF n).map ic) ∧ (busF n).length = n.nodes.l.length) := by
  refine Aw.Spec.regsW k68 rfl rfl fun E hn hnp hp => ?_
  unfold a68
  have pin : ∀ r, E.pin r = none := fun r => hp.none hnp (Nat.zero_le _)
  refine AWp.ofD [999] [] hn mixed rfl ?_
  simp (config := { maxSteps := 2000000 }) only [go_sem, ↓reduceIte, Int.reduceToNat, Nat.reduceMul, Int.reduceBEq, Int.reduceBNe, Nat.reduceBEq, Nat.reduceAdd, Nat.reduceSub, Nat.reduceLeDiff, Nat.reduceEqDiff, Nat.reduceLT, reduceCtorEq]
  refine AWp.plan (.take 0 [false, false, false, true, true, true, false, false] (.take 1 [true, false, false, true, true, true, false, false] (.take 2 [true, true, false, true, true, true, false, false] (.take 3 [true, true, true, false, false, true, false, false] (.take 5 [true, true, true, true, true, false, false, false] (.one 4 (.one 6 (.take 7 [true, true, true, true, true, true, true, false] .done)))))))) [true, true, true, true, true, true, true, true] mixed hn rfl rfl ?_
  simp (config := { maxSteps := 2000000 }) only [go_sem, ↓reduceIte, Int.reduceToNat, Nat.reduceMul, Int.reduceBEq, Int.reduceBNe, Nat.reduceBEq, Nat.reduceAdd, Nat.reduceSub, Nat.reduceLeDiff, Nat.reduceEqDiff, Nat.reduceLT, reduceCtorEq]
  refine AOne.callA (s74 n hv) rfl (by rw [hn]; rfl) fun rg v hv' => ?_
  obtain ⟨rfl, rfl⟩ := hv'
  rw [retS_nil]
  simp (config := { maxSteps := 2000000 }) only [go_sem, ↓reduceIte, Int.reduceToNat, Nat.reduceMul, Int.reduceBEq, Int.reduceBNe, Nat.reduceBEq, Nat.reduceAdd, Nat.reduceSub, Nat.reduceLeDiff, Nat.reduceEqDiff, Nat.reduceLT, reduceCtorEq]
  have h24 := hv.nodes
  have h32 := hv.nsw
  have hlen : (edgesF n).length = n.sws.l.length := List.length_map _
  refine AOne.callb (s69 n.nodes.l.length none false (edgesF n) 75 [.pim (netc n)] (upF n) (by kernel_rfl) rfl (fun i hi => s75 n i (by omega)) h24 (edges_in hv) (by omega)) (by rw [hn]; rfl) (by simp (config := { maxSteps := 2000000 }) only [go_sem, ↓reduceIte, Int.reduceToNat, Nat.reduceMul, Int.reduceBEq, Int.reduceBNe, Nat.reduceBEq, Nat.reduceAdd, Nat.reduceSub, Nat.reduceLeDiff, Nat.reduceEqDiff, Nat.reduceLT, reduceCtorEq]) fun rg v hv' => ?_
  obtain ⟨rfl, rfl, hbl⟩ := hv'
  refine ⟨⟨by unfold NI; trivial, fun g hg => by
    rw [List.mem_singleton.1 hg]
    exact ni_ints _⟩, ?_⟩
  rw [retS_new]
  simp (config := { maxSteps := 2000000 }) only [go_sem, ↓reduceIte, Int.reduceToNat, Nat.reduceMul, Int.reduceBEq, Int.reduceBNe, Nat.reduceBEq, Nat.reduceAdd, Nat.reduceSub, Nat.reduceLeDiff, Nat.reduceEqDiff, Nat.reduceLT, reduceCtorEq]
  refine Retn.weak (weak_freeze 1 rfl (pin 1) ?_) _ ?_
  · simp (config := { maxSteps := 2000000 }) only [go_sem, ↓reduceIte, Int.reduceToNat, Nat.reduceMul, Int.reduceBEq, Int.reduceBNe, Nat.reduceBEq, Nat.reduceAdd, Nat.reduceSub, Nat.reduceLeDiff, Nat.reduceEqDiff, Nat.reduceLT, reduceCtorEq, Nat.le_refl, List.length_map, hbl]
  refine Retn.ret (π := []) hp hnp ⟨rfl, ?_⟩
  simp (config := { maxSteps := 2000000 }) only [go_sem, ↓reduceIte, Int.reduceToNat, Nat.reduceMul, Int.reduceBEq, Int.reduceBNe, Nat.reduceBEq, Nat.reduceAdd, Nat.reduceSub, Nat.reduceLeDiff, Nat.reduceEqDiff, Nat.reduceLT, reduceCtorEq]
  rw [List.take_of_length_le (by rw [List.length_map, hbl]; exact Nat.le_refl _)]
  exact ⟨rfl, hbl⟩
end Go.Proofs.Ytmginfhlohenhaa
