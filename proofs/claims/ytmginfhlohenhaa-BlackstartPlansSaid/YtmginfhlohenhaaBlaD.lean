/- Networks: Set, for a switch that is to be closed. -/
import Derived.Test.YtmginfhlohenhaaAwZk
import Derived.Test.YtmginfhlohenhaaNetE
import Derived.Test.YtmginfhlohenhaaBlaC
set_option linter.unusedVariables false
set_option linter.unusedSimpArgs false
namespace Go.Proofs.Ytmginfhlohenhaa
open Go.Proofs.Ytmginfhlohenhaa.Aw
attribute [local go_sem] Int.natCast_zero Int.natCast_one bne_self_eq_false beq_self_eq_true Bool.not_true Bool.not_false Option.isSome_none Option.isSome_some Aw.bkM_nil Option.getD_some Option.getD_none Nat.sub_zero Int.toNat_zero Aw.frzS Aw.frzT Aw.frzA Aw.frzL Aw.frzR Aw.frzO Aw.frzOL Aw.frzOT Aw.frzOR Aw.killS Aw.mapT Aw.mapR Aw.killM Aw.resAVs Aw.resAV Aw.quietOps Aw.wpP Aw.wpT Aw.wpS Aw.AOp.mild List.getElem?_cons_zero List.getElem?_cons_succ Bool.and_false Bool.and_self Bool.false_and Aw.opOb Aw.gdB Aw.Rnd Aw.subTm List.length_map Int.toNat_natCast and_self Aw.SeqC Aw.stops Aw.Ends Aw.looks Aw.renA Aw.renL Aw.renT Aw.renS Aw.wpO Aw.aop Aw.putTm Aw.St.ev Aw.St.put Aw.St.putO Aw.binAV Aw.intBin Aw.strBin Aw.pickAV Aw.optInt Aw.AV.strip Aw.AV.guard Aw.AV.cells Aw.gdOb Aw.AOp.opds Aw.AOp.still Aw.ptrCells Aw.St.reg Aw.fillAV Aw.fillOb Aw.elsOb Aw.splice Aw.firm Aw.cellish Aw.AV.shut Aw.shutAll Aw.Seq Aw.Blk Aw.retS_nil Aw.mapA Aw.mapL Aw.borA Aw.borOb Aw.allOb Aw.tupOf Aw.params Aw.Opd.of Array.toList Value.cells List.map_cons List.map_nil List.getD_cons_zero List.getD_cons_succ List.getD_nil List.length_cons List.length_nil List.take_succ_cons List.take_zero List.take_nil List.drop_zero List.drop_succ_cons List.drop_nil List.set_cons_zero List.set_cons_succ List.append_nil List.nil_append List.cons_append List.all_cons List.all_nil cond_false cond_true if_true if_false true_and and_true Bool.and_true Bool.true_and Option.map_some Option.map_none false_implies forall_const implies_true forall_eq imp_self Bool.cond_false_right Bool.cond_true_left beq_true beq_false Bool.not_eq_true' Bool.false_eq_true Nat.zero_add Nat.add_zero Aw.eqCells Aw.stopDraw Aw.skipS Aw.exactCap Aw.revealS Aw.srcEls Aw.srcSz
attribute [local go_sem ↓] Aw.look_nil Aw.look_ite Aw.wpL_nil Aw.wpL_op Aw.wpL_gd Aw.wpQ_nil Aw.wpQ_op Aw.wpQ_gd Aw.wpC_draw Aw.wpC_reg Aw.wpC_skip Aw.wpC_ret Aw.wpC_exit Aw.wpC_seq Aw.wpC_block Aw.wpC_loop Aw.wpC_cond Aw.stopAt_nil Aw.stopAt_cons Aw.wpD_skip Aw.wpD_ret Aw.wpD_exit Aw.wpD_region Aw.wpD_draw Aw.wpM_nil Aw.wpM_op Aw.wpM_gd Aw.wpD_seq Aw.wpD_block Aw.wpD_loop Aw.wpD_cond
/- gridhall/netmodel.Set -/
def a11 : ACode :=
  (.seq (.region false [] [
     ⟨(some 3), none, (.box 29 (.t 0))⟩,
     ⟨(some 6), none, (.alloc 29 (.agg #[(.slice none 0 0), (.slice none 0 0), (.slice none 0 0), (.slice none 0 0), (.slice none 0 0), (.slice none 0 0)]))⟩,
     ⟨(some 7), none, (.mov (.v (.int .i64 0)))⟩])
  (.seq (.region false [] [
     ⟨(some 13), none, (.load 6 true (.t 3))⟩,
     ⟨(some 14), none, (.mov (.t 1))⟩,
     ⟨(some 15), none, (.call 29 [(.t 13), (.t 14)])⟩,
     ⟨(some 12), none, (.mov (.t 15))⟩,
     ⟨(some 16), none, (.ext 0 (.t 12))⟩,
     ⟨(some 17), none, (.ext 1 (.t 12))⟩,
     ⟨(some 18), none, (.ext 2 (.t 12))⟩,
     ⟨(some 8), none, (.mov (.t 16))⟩,
     ⟨(some 9), none, (.mov (.t 17))⟩,
     ⟨(some 10), none, (.mov (.t 18))⟩])
  (.seq (.seq (.region false [] [
     ⟨(some 19), none, (.mov (.t 10))⟩,
     ⟨(some 20), none, (.bin .neq 30 (.t 19) (.v (.int .i64 0)))⟩])
  (.cond (.t 20)
    (.seq (.region false [] [
       ⟨(some 21), none, (.build (.agg #[(.slice none 0 0), (.slice none 0 0), (.slice none 0 0), (.slice none 0 0), (.slice none 0 0), (.slice none 0 0)]) [])⟩,
       ⟨(some 22), none, (.mov (.t 10))⟩,
       ⟨none, none, (.store 6 (.t 6) (.t 21))⟩,
       ⟨(some 7), none, (.mov (.t 22))⟩])
    .ret)
    .skip))
  (.seq (.seq (.region false [] [
     ⟨(some 23), none, (.mov (.t 8))⟩,
     ⟨(some 24), none, (.bin .neq 9 (.t 23) (.v (.string ⟨#[115, 119, 105, 116, 99, 104]⟩)))⟩])
  (.cond (.t 24)
    (.seq (.region false [] [
       ⟨(some 25), none, (.build (.agg #[(.slice none 0 0), (.slice none 0 0), (.slice none 0 0), (.slice none 0 0), (.slice none 0 0), (.slice none 0 0)]) [])⟩,
       ⟨none, none, (.store 6 (.t 6) (.t 25))⟩,
       ⟨(some 7), none, (.mov (.v (.int .i64 1)))⟩])
    .ret)
    .skip))
  (.seq (.region false [] [
     ⟨(some 26), none, (.load 6 true (.t 3))⟩,
     ⟨(some 27), none, (.call 30 [(.t 26)])⟩,
     ⟨(some 11), none, (.alloc 29 (.agg #[(.slice none 0 0), (.slice none 0 0), (.slice none 0 0), (.slice none 0 0), (.slice none 0 0), (.slice none 0 0)]))⟩,
     ⟨none, none, (.store 6 (.t 11) (.t 27))⟩])
  (.seq (.region false [] [
     ⟨(some 28), none, (.fld 1 (.t 11))⟩,
     ⟨(some 29), none, (.load 1 false (.t 28))⟩,
     ⟨(some 30), none, (.mov (.t 9))⟩,
     ⟨(some 31), none, (.mov (.t 2))⟩,
     ⟨(some 32), none, (.idx 5 (.t 29) (.t 30))⟩,
     ⟨(some 33), none, (.fld 4 (.t 32))⟩,
     ⟨none, none, (.store 1 (.t 33) (.t 31))⟩])
  (.seq (.region false [] [
     ⟨(some 34), none, (.load 6 true (.t 11))⟩,
     ⟨none, none, (.store 6 (.t 6) (.t 34))⟩,
     ⟨(some 7), none, (.mov (.v (.int .i64 0)))⟩])
  .ret)))))))
theorem k11 : FnIs Try.prog 11 35 [.c 6 6 true, .t 7] a11 := ⟨_, _, Try.func11, rfl, by kernel_rfl, by kernel_rfl, rfl⟩
/- gridhall/blackstart.Path -/
def a9 : ACode :=
  (.seq (.region false [] [
     ⟨(some 3), none, (.box 29 (.t 0))⟩,
     ⟨(some 6), none, (.mov (.v (.slice none 0 0)))⟩,
     ⟨(some 7), none, (.mov (.v (.int .i64 0)))⟩])
  (.seq (.seq (.region false [] [
     ⟨(some 14), none, (.mov (.t 1))⟩,
     ⟨(some 15), none, (.mov (.t 2))⟩,
     ⟨(some 16), none, (.build (.agg #[(.string ⟨#[]⟩), (.string ⟨#[]⟩)]) [(0, (1, (.t 14))), (1, (1, (.t 15)))])⟩,
     ⟨(some 17), none, (.mov (.v (.int .i64 0)))⟩])
  (.block 0 (.loop (.seq (.region false [] [
       ⟨(some 18), none, (.bin .lss 3 (.t 17) (.v (.int .i64 2)))⟩])
    (.seq (.cond (.t 18)
      .skip
      (.exit 0))
    (.seq (.block 1 (.seq (.region false [] [
        ⟨(some 19), none, (.idxv 2 1 false (.t 16) (.t 17))⟩,
        ⟨(some 9), none, (.mov (.t 19))⟩])
     (.seq (.region false [] [
        ⟨(some 21), none, (.load 6 true (.t 3))⟩,
        ⟨(some 22), none, (.mov (.t 9))⟩,
        ⟨(some 23), none, (.call 19 [(.t 21), (.t 22)])⟩,
        ⟨(some 20), none, (.mov (.t 23))⟩,
        ⟨(some 24), none, (.ext 0 (.t 20))⟩,
        ⟨(some 25), none, (.ext 1 (.t 20))⟩,
        ⟨(some 10), none, (.mov (.t 24))⟩,
        ⟨(some 11), none, (.mov (.t 25))⟩])
     (.seq (.region false [] [
        ⟨(some 26), none, (.mov (.t 11))⟩,
        ⟨(some 27), none, (.bin .neq 30 (.t 26) (.v (.int .i64 0)))⟩])
     (.cond (.t 27)
       (.seq (.region false [] [
          ⟨(some 28), none, (.mov (.t 11))⟩,
          ⟨(some 6), none, (.mov (.v (.slice none 0 0)))⟩,
          ⟨(some 7), none, (.mov (.t 28))⟩])
       .ret)
       .skip)))))
    (.region false [] [
       ⟨(some 29), none, (.bin .add 3 (.t 17) (.v (.int .i64 1)))⟩,
       ⟨(some 17), none, (.mov (.t 29))⟩])))))))
  (.seq (.region false [] [
     ⟨(some 31), none, (.load 6 true (.t 3))⟩,
     ⟨(some 32), none, (.mov (.t 1))⟩,
     ⟨(some 33), none, (.mov (.t 2))⟩,
     ⟨(some 34), none, (.call 28 [(.t 31), (.t 32), (.t 33)])⟩,
     ⟨(some 30), none, (.mov (.t 34))⟩,
     ⟨(some 35), none, (.ext 0 (.t 30))⟩,
     ⟨(some 36), none, (.ext 1 (.t 30))⟩,
     ⟨(some 12), none, (.mov (.t 35))⟩,
     ⟨(some 13), none, (.mov (.t 36))⟩])
  (.seq (.seq (.region false [] [
     ⟨(some 37), none, (.mov (.t 13))⟩,
     ⟨(some 38), none, (.un .not (.t 37))⟩])
  (.cond (.t 38)
    (.seq (.region false [] [
       ⟨(some 6), none, (.mov (.v (.slice none 0 0)))⟩,
       ⟨(some 7), none, (.mov (.v (.int .i64 8)))⟩])
    .ret)
    .skip))
  (.seq (.region false [] [
     ⟨(some 39), none, (.mov (.t 12))⟩,
     ⟨(some 6), none, (.mov (.t 39))⟩,
     ⟨(some 7), none, (.mov (.v (.int .i64 0)))⟩])
  .ret)))))
theorem k9 : FnIs Try.prog 9 40 [.t 6, .t 7] a9 := ⟨_, _, Try.func9, rfl, by kernel_rfl, by kernel_rfl, rfl⟩
/- gridhall/blackstart.closed -/
def a34 : ACode :=
  (.seq (.region false [] [
     ⟨(some 2), none, (.box 29 (.t 0))⟩,
     ⟨(some 4), none, (.alloc 29 (.agg #[(.slice none 0 0), (.slice none 0 0), (.slice none 0 0), (.slice none 0 0), (.slice none 0 0), (.slice none 0 0)]))⟩])
  (.seq (.seq (.region false [] [
     ⟨(some 7), none, (.mov (.t 1))⟩,
     ⟨(some 8), none, (.len (.t 7))⟩,
     ⟨(some 9), none, (.mov (.v (.int .i64 0)))⟩])
  (.block 0 (.loop (.seq (.region false [] [
       ⟨(some 10), none, (.bin .lss 3 (.t 9) (.t 8))⟩])
    (.seq (.cond (.t 10)
      .skip
      (.exit 0))
    (.seq (.block 1 (.seq (.region false [] [
        ⟨(some 11), none, (.idx 1 (.t 7) (.t 9))⟩,
        ⟨(some 12), none, (.load 1 false (.t 11))⟩,
        ⟨(some 6), none, (.mov (.t 12))⟩])
     (.region false [] [
        ⟨(some 14), none, (.load 6 true (.t 2))⟩,
        ⟨(some 15), none, (.mov (.t 6))⟩,
        ⟨(some 16), none, (.call 11 [(.t 14), (.t 15), (.v (.bool false))])⟩,
        ⟨(some 13), none, (.mov (.t 16))⟩,
        ⟨(some 17), none, (.ext 0 (.t 13))⟩,
        ⟨(some 18), none, (.ext 1 (.t 13))⟩,
        ⟨none, none, (.store 6 (.t 2) (.t 17))⟩])))
    (.region false [] [
       ⟨(some 19), none, (.bin .add 3 (.t 9) (.v (.int .i64 1)))⟩,
       ⟨(some 9), none, (.mov (.t 19))⟩])))))))
  (.seq (.region false [] [
     ⟨(some 20), none, (.load 6 true (.t 2))⟩,
     ⟨none, none, (.store 6 (.t 4) (.t 20))⟩])
  .ret)))
theorem k34 : FnIs Try.prog 34 21 [.c 4 6 true] a34 := ⟨_, _, Try.func34, rfl, by kernel_rfl, by kernel_rfl, rfl⟩

/-- The network with its k-th switch closed, all slices its own. -/
def setN (n : Net) (k : Nat) : Net := ⟨⟨none, false, n.nodes.l⟩, ⟨none, false, n.sws.l.set k { n.sws.l.getD k default with opn := false }⟩, ⟨none, false, n.brs.l⟩, ⟨none, false, n.gens.l⟩, ⟨none, false, n.loads.l⟩, ⟨none, false, n.stores.l⟩⟩
set_option maxRecDepth 20000 in
set_option maxHeartbeats 1000000 in
theorem s11 (n : Net) (hk : NetOk n) (hv : NetV n) (s : ByteArray) (k : Nat) (hkl : k < n.sws.l.length) (hf : findN n s = (kSw, (k : Int), 0)) :
    Aw.Spec Try.prog 11 [] [neta n, S s, B false] (fun rg v => rg = [.box 29 (netc (setN n k))] ∧ v = .tup [neta (setN n k), I 0]) := by
  refine Aw.Spec.regsW k11 rfl rfl fun E hn hnp hp => ?_
  unfold a11
  have pin : ∀ r, E.pin r = none := fun r => hp.none hnp (Nat.zero_le _)
  have hF := s29 n hk s
  rw [hf] at hF
  have n1 : (kSw.toList == (ByteArray.mk #[115, 119, 105, 116, 99, 104]).toList) = true := by decide +kernel
  refine AWp.ofD [] [] hn mixed rfl ?_
  simp (config := { maxSteps := 2000000 }) only [go_sem, ↓reduceIte, Int.reduceToNat, Nat.reduceMul, Int.reduceBEq, Int.reduceBNe, Nat.reduceBEq, Nat.reduceAdd, Nat.reduceSub, Nat.reduceLeDiff, Nat.reduceEqDiff, Nat.reduceLT, reduceCtorEq]
  (refine AWpL.calle (hF) rfl (by rw [hn]; rfl) (by simp (config := { maxSteps := 2000000 }) only [go_sem, ↓reduceIte, Int.reduceToNat, Nat.reduceMul, Int.reduceBEq, Int.reduceBNe, Nat.reduceBEq, Nat.reduceAdd, Nat.reduceSub, Nat.reduceLeDiff, Nat.reduceEqDiff, Nat.reduceLT, reduceCtorEq]) (AWpL.ofM hn rfl ?_); simp (config := { maxSteps := 2000000 }) only [go_sem, ↓reduceIte, Int.reduceToNat, Nat.reduceMul, Int.reduceBEq, Int.reduceBNe, Nat.reduceBEq, Nat.reduceAdd, Nat.reduceSub, Nat.reduceLeDiff, Nat.reduceEqDiff, Nat.reduceLT, reduceCtorEq])
  simp (config := { maxSteps := 2000000 }) only [go_sem, ↓reduceIte, Int.reduceToNat, Nat.reduceMul, Int.reduceBEq, Int.reduceBNe, Nat.reduceBEq, Nat.reduceAdd, Nat.reduceSub, Nat.reduceLeDiff, Nat.reduceEqDiff, Nat.reduceLT, reduceCtorEq, n1]
  refine AWpL.callA [] (s30 n hv) rfl rfl (by rw [hn]; rfl) rfl (fun r hr => by cases hr) fun rg v hv' => ?_
  obtain ⟨rfl, rfl⟩ := hv'
  refine ⟨Nat.zero_le _, ?_⟩
  rw [retS_new]
  refine AWpL.ofM hn rfl ?_
  have e1 := getD_mapD default swc hkl
  have hset : (n.sws.l.map swc).set k [S (n.sws.l.getD k default).name, S (n.sws.l.getD k default).a, S (n.sws.l.getD k default).b, B (n.sws.l.getD k default).brk, B false] = (n.sws.l.set k { n.sws.l.getD k default with opn := false }).map swc := by rw [List.map_set]
  have hsl : (n.sws.l.set k { n.sws.l.getD k default with opn := false }).length = n.sws.l.length := List.length_set
  simp (config := { maxSteps := 2000000 }) only [go_sem, ↓reduceIte, Int.reduceToNat, Nat.reduceMul, Int.reduceBEq, Int.reduceBNe, Nat.reduceBEq, Nat.reduceAdd, Nat.reduceSub, Nat.reduceLeDiff, Nat.reduceEqDiff, Nat.reduceLT, reduceCtorEq, e1, hset]
  refine ⟨by omega, by omega, ?_⟩
  refine Retn.weak (weak_freeze 3 rfl (pin 3) (by simp (config := { maxSteps := 2000000 }) only [go_sem, ↓reduceIte, Int.reduceToNat, Nat.reduceMul, Int.reduceBEq, Int.reduceBNe, Nat.reduceBEq, Nat.reduceAdd, Nat.reduceSub, Nat.reduceLeDiff, Nat.reduceEqDiff, Nat.reduceLT, reduceCtorEq, Nat.le_refl, List.length_map])) _ ?_
  simp (config := { maxSteps := 2000000 }) only [go_sem, ↓reduceIte, Int.reduceToNat, Nat.reduceMul, Int.reduceBEq, Int.reduceBNe, Nat.reduceBEq, Nat.reduceAdd, Nat.reduceSub, Nat.reduceLeDiff, Nat.reduceEqDiff, Nat.reduceLT, reduceCtorEq]
  refine Retn.weak (weak_freeze 4 rfl (pin 4) (by simp (config := { maxSteps := 2000000 }) only [go_sem, ↓reduceIte, Int.reduceToNat, Nat.reduceMul, Int.reduceBEq, Int.reduceBNe, Nat.reduceBEq, Nat.reduceAdd, Nat.reduceSub, Nat.reduceLeDiff, Nat.reduceEqDiff, Nat.reduceLT, reduceCtorEq, Nat.le_refl, List.length_map, hsl])) _ ?_
  simp (config := { maxSteps := 2000000 }) only [go_sem, ↓reduceIte, Int.reduceToNat, Nat.reduceMul, Int.reduceBEq, Int.reduceBNe, Nat.reduceBEq, Nat.reduceAdd, Nat.reduceSub, Nat.reduceLeDiff, Nat.reduceEqDiff, Nat.reduceLT, reduceCtorEq]
  refine Retn.weak (weak_freeze 5 rfl (pin 5) (by simp (config := { maxSteps := 2000000 }) only [go_sem, ↓reduceIte, Int.reduceToNat, Nat.reduceMul, Int.reduceBEq, Int.reduceBNe, Nat.reduceBEq, Nat.reduceAdd, Nat.reduceSub, Nat.reduceLeDiff, Nat.reduceEqDiff, Nat.reduceLT, reduceCtorEq, Nat.le_refl, List.length_map])) _ ?_
  simp (config := { maxSteps := 2000000 }) only [go_sem, ↓reduceIte, Int.reduceToNat, Nat.reduceMul, Int.reduceBEq, Int.reduceBNe, Nat.reduceBEq, Nat.reduceAdd, Nat.reduceSub, Nat.reduceLeDiff, Nat.reduceEqDiff, Nat.reduceLT, reduceCtorEq]
  refine Retn.weak (weak_freeze 6 rfl (pin 6) (by simp (config := { maxSteps := 2000000 }) only [go_sem, ↓reduceIte, Int.reduceToNat, Nat.reduceMul, Int.reduceBEq, Int.reduceBNe, Nat.reduceBEq, Nat.reduceAdd, Nat.reduceSub, Nat.reduceLeDiff, Nat.reduceEqDiff, Nat.reduceLT, reduceCtorEq, Nat.le_refl, List.length_map])) _ ?_
  simp (config := { maxSteps := 2000000 }) only [go_sem, ↓reduceIte, Int.reduceToNat, Nat.reduceMul, Int.reduceBEq, Int.reduceBNe, Nat.reduceBEq, Nat.reduceAdd, Nat.reduceSub, Nat.reduceLeDiff, Nat.reduceEqDiff, Nat.reduceLT, reduceCtorEq]
  refine Retn.weak (weak_freeze 7 rfl (pin 7) (by simp (config := { maxSteps := 2000000 }) only [go_sem, ↓reduceIte, Int.reduceToNat, Nat.reduceMul, Int.reduceBEq, Int.reduceBNe, Nat.reduceBEq, Nat.reduceAdd, Nat.reduceSub, Nat.reduceLeDiff, Nat.reduceEqDiff, Nat.reduceLT, reduceCtorEq, Nat.le_refl, List.length_map])) _ ?_
  simp (config := { maxSteps := 2000000 }) only [go_sem, ↓reduceIte, Int.reduceToNat, Nat.reduceMul, Int.reduceBEq, Int.reduceBNe, Nat.reduceBEq, Nat.reduceAdd, Nat.reduceSub, Nat.reduceLeDiff, Nat.reduceEqDiff, Nat.reduceLT, reduceCtorEq]
  refine Retn.weak (weak_freeze 8 rfl (pin 8) (by simp (config := { maxSteps := 2000000 }) only [go_sem, ↓reduceIte, Int.reduceToNat, Nat.reduceMul, Int.reduceBEq, Int.reduceBNe, Nat.reduceBEq, Nat.reduceAdd, Nat.reduceSub, Nat.reduceLeDiff, Nat.reduceEqDiff, Nat.reduceLT, reduceCtorEq, Nat.le_refl, List.length_map])) _ ?_
  simp (config := { maxSteps := 2000000 }) only [go_sem, ↓reduceIte, Int.reduceToNat, Nat.reduceMul, Int.reduceBEq, Int.reduceBNe, Nat.reduceBEq, Nat.reduceAdd, Nat.reduceSub, Nat.reduceLeDiff, Nat.reduceEqDiff, Nat.reduceLT, reduceCtorEq]
  refine Retn.ret (π := [1]) hp hnp ⟨rfl, ?_⟩
  simp (config := { maxSteps := 2000000 }) only [go_sem, ↓reduceIte, Int.reduceToNat, Nat.reduceMul, Int.reduceBEq, Int.reduceBNe, Nat.reduceBEq, Nat.reduceAdd, Nat.reduceSub, Nat.reduceLeDiff, Nat.reduceEqDiff, Nat.reduceLT, reduceCtorEq, Aw.renR, Aw.pos]
  have tk : ∀ {α : Type} (c : α → List AV) (l : List α), (l.map c).take l.length = l.map c := fun c l => List.take_of_length_le (by rw [List.length_map]; exact Nat.le_refl _)
  have tb : ((n.sws.l.set k { n.sws.l.getD k default with opn := false }).map swc).take n.sws.l.length = (n.sws.l.set k { n.sws.l.getD k default with opn := false }).map swc := List.take_of_length_le (by rw [List.length_map, hsl]; exact Nat.le_refl _)
  simp only [tk, tb]
  exact ⟨rfl, rfl⟩
theorem fIndex_none {α : Type} {p : α → Bool} : ∀ {l : List α} {k : Nat}, (∀ x ∈ l, p x = false) → fIndex p k l = -1
  | [], _, _ => rfl
  | x :: l, k, h => by
    unfold fIndex
    rw [if_neg (by rw [h x List.mem_cons_self]; decide)]
    exact fIndex_none fun y hy => h y (List.mem_cons_of_mem _ hy)
theorem fIndex_at {α : Type} {p : α → Bool} : ∀ {l : List α} {i k : Nat} (h : i < l.length), p l[i] = true → (∀ j (hj : j < i), p (l[j]'(by omega)) = false) → fIndex p k l = ((k + i : Nat) : Int)
  | x :: l, 0, k, h, hp, _ => by
    unfold fIndex
    rw [if_pos (show p x = true from hp)]; rfl
  | x :: l, i + 1, k, h, hp, hn => by
    unfold fIndex
    have := hn 0 (by omega)
    rw [if_neg (by rw [show p x = false from this]; decide), fIndex_at (i := i) (by simpa using h) hp fun j hj => hn (j + 1) (by omega)]
    congr 1; omega
def namesN (n : Net) : List ByteArray := n.nodes.l ++ (n.sws.l.map (·.name) ++ (n.brs.l.map (·.name) ++ (n.gens.l.map (·.name) ++ (n.loads.l.map (·.name) ++ n.stores.l.map (·.name)))))
theorem names_items (n : Net) : (itemsN n).map (·.name) = namesN n := by
  unfold itemsN namesN
  simp only [List.map_append, List.map_map]
  congr 1
  exact List.map_id _
theorem NetV.names {n : Net} (hv : NetV n) : (namesN n).Nodup := by rw [← names_items]; exact hv.dis
/-- The place of a switch. -/
def swK (n : Net) (s : ByteArray) : Nat := (ixSw n s).toNat
def SwName (n : Net) (s : ByteArray) : Prop := ∃ x ∈ n.sws.l, x.name = s
theorem sw_names {n : Net} (hv : NetV n) : (n.sws.l.map (·.name)).Nodup := by
  have h := hv.names
  unfold namesN at h
  exact (List.nodup_append.1 (List.nodup_append.1 h).2.1).1
theorem nodup_idx {l : List ByteArray} (h : l.Nodup) {i j : Nat} (hi : i < l.length) (hj : j < l.length) (e : l[i] = l[j]) : i = j := by
  induction l generalizing i j with
  | nil => simp at hi
  | cons x l ih =>
    rw [List.nodup_cons] at h
    cases i with
    | zero =>
      cases j with
      | zero => rfl
      | succ j => exact absurd (List.getElem_mem (by simpa using hj)) (by rw [List.getElem_cons_zero, List.getElem_cons_succ] at e; rw [← e]; exact h.1)
    | succ i =>
      cases j with
      | zero => exact absurd (List.getElem_mem (by simpa using hi)) (by rw [List.getElem_cons_zero, List.getElem_cons_succ] at e; rw [e]; exact h.1)
      | succ j =>
        rw [List.getElem_cons_succ, List.getElem_cons_succ] at e
        rw [ih h.2 (by simpa using hi) (by simpa using hj) e]
theorem ix_sw {n : Net} (hv : NetV n) {i : Nat} (hi : i < n.sws.l.length) : ixSw n n.sws.l[i].name = (i : Int) := by
  unfold ixSw
  rw [fIndex_at hi (by rw [seqq]) (fun j hj => by
    cases h : seq (n.sws.l[j]).name (n.sws.l[i]).name with
    | false => rfl
    | true =>
      have e := seqq.1 h
      have := nodup_idx (sw_names hv) (i := j) (j := i) (by simp; omega) (by simpa using hi) (by simpa using e)
      omega), Nat.zero_add]
theorem find_sw {n : Net} (hv : NetV n) {s : ByteArray} (h : SwName n s) : swK n s < n.sws.l.length ∧ findN n s = (kSw, (swK n s : Int), 0) ∧ (n.sws.l.getD (swK n s) default).name = s := by
  obtain ⟨x, hx, rfl⟩ := h
  obtain ⟨i, hi, rfl⟩ := List.mem_iff_getElem.1 hx
  have hix := ix_sw hv hi
  have hk : swK n n.sws.l[i].name = i := by unfold swK; rw [hix]; rfl
  have hnot : n.sws.l[i].name ∉ n.nodes.l := fun hm => by
    have h := hv.names
    unfold namesN at h
    exact (List.nodup_append.1 h).2.2 _ hm _ (List.mem_append_left _ (List.mem_map.2 ⟨_, List.getElem_mem hi, rfl⟩)) rfl
  have hs := sIndex_not (k := 0) hnot
  refine ⟨by rw [hk]; exact hi, ?_, by rw [hk, List.getD_eq_getElem?_getD, List.getElem?_eq_getElem hi]; rfl⟩
  unfold findN
  rw [hk, if_neg (by simp [netF_zero.2 hv]), if_neg (by omega), if_pos (by omega), hix]
theorem set_item {n : Net} {k : Nat} (hk : k < n.sws.l.length) : (setN n k).sws.l.map swiI = n.sws.l.map swiI := by
  show (n.sws.l.set k _).map swiI = _
  rw [List.map_set]
  refine List.ext_getElem (by simp) fun i h1 h2 => ?_
  rw [List.getElem_set]
  split
  · rename_i h; subst h
    rw [List.getElem_map, List.getD_eq_getElem?_getD, List.getElem?_eq_getElem hk]; rfl
  · rfl
theorem set_v {n : Net} (hv : NetV n) {k : Nat} (hk : k < n.sws.l.length) : NetV (setN n k) := by
  refine netF_zero.1 ?_
  have h0 := netF_zero.2 hv
  have hi : itemsN (setN n k) = itemsN n := by
    show n.nodes.l.map nodI ++ ((setN n k).sws.l.map swiI ++ _) = _
    rw [set_item hk]; rfl
  have hs : sizesF (setN n k) = sizesF n := by
    have hle : (setN n k).sws.l.length = n.sws.l.length := List.length_set
    unfold sizesF
    simp only [hle]
    rfl
  have he : ∀ (l : List Item) (met : List ByteArray), itemsE (setN n k) met l = itemsE n met l := fun l => by
    have hd : ∀ (m : List ByteArray) (x : ByteArray) (e : List ByteArray), devE (setN n k) m x e = devE n m x e := fun m x e => by
      unfold devE
      have : ∀ e, endsF (setN n k) e = endsF n e := fun e => by
        induction e with
        | nil => rfl
        | cons y r ih => unfold endsF; rw [ih]; rfl
      rw [this]
    induction l with
    | nil => intro met; rfl
    | cons x r ih => intro met; unfold itemsE; rw [hd, ih]
  unfold netF at h0 ⊢
  rw [hs, hi, he]; exact h0
theorem set_ok {n : Net} (hk : NetOk n) {k : Nat} (hkl : k < n.sws.l.length) : NetOk (setN n k) :=
  ⟨hk.nodes, hk.nlen, fun x hx => by
    rcases List.mem_or_eq_of_mem_set hx with h | rfl
    · exact hk.sws x h
    · show (n.sws.l.getD k default).name.size ≤ _
      rw [List.getD_eq_getElem?_getD, List.getElem?_eq_getElem hkl]
      exact hk.sws _ (List.getElem_mem hkl), hk.brs, hk.gens, hk.loads, hk.stores⟩
def setS (n : Net) (s : ByteArray) : Net := setN n (swK n s)
/-- Switches closed. -/
def closeL (n : Net) : List ByteArray → Net
  | [] => n
  | s :: r => closeL (setS n s) r
theorem set_names {n : Net} {k : Nat} (hk : k < n.sws.l.length) : (setN n k).sws.l.map (·.name) = n.sws.l.map (·.name) := by
  have := congrArg (List.map (·.name)) (set_item hk)
  rw [List.map_map, List.map_map] at this
  exact this
theorem SwName_iff {n : Net} {s : ByteArray} : SwName n s ↔ s ∈ n.sws.l.map (·.name) := by
  unfold SwName
  rw [List.mem_map]
theorem SwName.set {n : Net} {s t : ByteArray} (hv : NetV n) (h : SwName n s) (h2 : SwName n t) : SwName (setS n s) t := by
  rw [SwName_iff] at h2 ⊢
  unfold setS
  rw [set_names (find_sw hv h).1]; exact h2
abbrev nil6 : List AV := [.val (.slice none 0 0), .val (.slice none 0 0), .val (.slice none 0 0), .val (.slice none 0 0), .val (.slice none 0 0), .val (.slice none 0 0)]
set_option maxRecDepth 20000 in
set_option maxHeartbeats 1000000 in
theorem s34 (n : Net) (hk : NetOk n) (hv : NetV n) (nl fl) (l : List ByteArray) (hl : ∀ s ∈ l, SwName n s) (hll : l.length ≤ 1000) :
    Aw.Spec Try.prog 34 [] [neta n, ss nl fl l] (fun rg v => rg = [.box 29 (netc (closeL n l))] ∧ v = neta (closeL n l)) := by
  refine Aw.Spec.regsW k34 rfl rfl fun E hn hnp hp => ?_
  unfold a34
  refine AWp.ofD [] [] hn mixed rfl ?_
  simp (config := { maxSteps := 2000000 }) only [go_sem, ↓reduceIte, Int.reduceToNat, Nat.reduceMul, Int.reduceBEq, Int.reduceBNe, Nat.reduceBEq, Nat.reduceAdd, Nat.reduceSub, Nat.reduceLeDiff, Nat.reduceEqDiff, Nat.reduceLT, reduceCtorEq]
  refine AWp.loop (fun k s => ∃ (i : Nat) (m : Net), i + k = l.length ∧ NetOk m ∧ NetV m ∧ closeL m (l.drop i) = closeL n l ∧ (∀ s ∈ l, SwName m s) ∧ Weak E s ⟨[(2, .ptr 0 0 0), (4, .ptr 1 0 0), (7, ss nl fl l), (8, I l.length), (9, I i)], [.box 29 (netc m), .box 29 nil6]⟩) (n := l.length)
    ⟨0, n, by omega, hk, hv, rfl, hl, weak_to [0, 1] hp hnp rfl (by simp (config := { maxSteps := 2000000 }) only [go_sem, ↓reduceIte, Int.reduceToNat, Nat.reduceMul, Int.reduceBEq, Int.reduceBNe, Nat.reduceBEq, Nat.reduceAdd, Nat.reduceSub, Nat.reduceLeDiff, Nat.reduceEqDiff, Nat.reduceLT, reduceCtorEq, Int.natCast_zero, Aw.pos]) (by simp (config := { maxSteps := 2000000 }) only [go_sem, ↓reduceIte, Int.reduceToNat, Nat.reduceMul, Int.reduceBEq, Int.reduceBNe, Nat.reduceBEq, Nat.reduceAdd, Nat.reduceSub, Nat.reduceLeDiff, Nat.reduceEqDiff, Nat.reduceLT, reduceCtorEq, Aw.renR, Aw.pos])⟩ ?_
  rintro k s ⟨i, m, hik, hmk, hmv, hcl, hsw, hw⟩
  refine AWp.weak hw (AWp.ofD [] [] hn mixed rfl ?_)
  rcases Nat.lt_or_ge i l.length with hlt | hge
  · have e0 : decide ((i : Int) < (l.length : Int)) = true := decide_eq_true (by omega)
    have e1 := getD_mapD default sc hlt
    have e2 : IntKind.i64.wrap ((i : Int) + 1) = ((i + 1 : Nat) : Int) := by rw [w64 (by omega) (by omega)]; omega
    have hx : l.getD i default ∈ l := by
      rw [List.getD_eq_getElem?_getD, List.getElem?_eq_getElem hlt]
      exact List.getElem_mem _
    rw [List.drop_eq_getElem_cons hlt] at hcl
    have hd : l[i] = l.getD i default := by rw [List.getD_eq_getElem?_getD, List.getElem?_eq_getElem hlt]; rfl
    rw [hd] at hcl
    generalize l.getD i default = x at *
    have hS := hsw x hx
    obtain ⟨f1, f2, f3⟩ := find_sw hmv hS
    simp (config := { maxSteps := 2000000 }) only [go_sem, ↓reduceIte, Int.reduceToNat, Nat.reduceMul, Int.reduceBEq, Int.reduceBNe, Nat.reduceBEq, Nat.reduceAdd, Nat.reduceSub, Nat.reduceLeDiff, Nat.reduceEqDiff, Nat.reduceLT, reduceCtorEq, e0, e1]
    (repeat (refine And.intro (by first | omega | (refine ⟨by omega, by omega⟩) | (refine ⟨by omega, by omega, by omega⟩) | (simp only [List.length_map, List.length_range, List.length_append, List.length_cons, List.length_nil, List.length_replicate, List.length_set]; omega) | (simp; omega) | (intro hgd; cases hgd) | (intro hgd; refine ⟨hgd, ?_⟩; first | omega | (refine ⟨by omega, by omega⟩) | (simp; omega))) ?_))
    refine AWpL.callA [] (s11 m hmk hmv x (swK m x) f1 f2) rfl rfl (by rw [hn]; rfl) rfl (fun r hr => by cases hr) fun rg v hv' => ?_
    obtain ⟨rfl, rfl⟩ := hv'
    refine ⟨Nat.zero_le _, ?_⟩
    rw [retS_new]
    refine AWpL.ofM hn rfl ?_
    simp (config := { maxSteps := 2000000 }) only [go_sem, ↓reduceIte, Int.reduceToNat, Nat.reduceMul, Int.reduceBEq, Int.reduceBNe, Nat.reduceBEq, Nat.reduceAdd, Nat.reduceSub, Nat.reduceLeDiff, Nat.reduceEqDiff, Nat.reduceLT, reduceCtorEq, e2]
    exact ⟨k - 1, by omega, i + 1, setS m x, by omega, set_ok hmk f1, set_v hmv f1, hcl, fun t ht => hS.set hmv (hsw t ht), weak_to [0, 1] hp hnp rfl (by simp (config := { maxSteps := 2000000 }) only [go_sem, ↓reduceIte, Int.reduceToNat, Nat.reduceMul, Int.reduceBEq, Int.reduceBNe, Nat.reduceBEq, Nat.reduceAdd, Nat.reduceSub, Nat.reduceLeDiff, Nat.reduceEqDiff, Nat.reduceLT, reduceCtorEq, Aw.pos]) (by simp (config := { maxSteps := 2000000 }) only [go_sem, ↓reduceIte, Int.reduceToNat, Nat.reduceMul, Int.reduceBEq, Int.reduceBNe, Nat.reduceBEq, Nat.reduceAdd, Nat.reduceSub, Nat.reduceLeDiff, Nat.reduceEqDiff, Nat.reduceLT, reduceCtorEq, Aw.renR, Aw.pos]; rfl)⟩
  · have e0 : decide ((i : Int) < (l.length : Int)) = false := decide_eq_false (by omega)
    rw [List.drop_of_length_le hge] at hcl
    simp (config := { maxSteps := 2000000 }) only [go_sem, ↓reduceIte, Int.reduceToNat, Nat.reduceMul, Int.reduceBEq, Int.reduceBNe, Nat.reduceBEq, Nat.reduceAdd, Nat.reduceSub, Nat.reduceLeDiff, Nat.reduceEqDiff, Nat.reduceLT, reduceCtorEq, e0]
    refine Retn.ret (π := [1]) hp hnp ⟨rfl, ?_⟩
    simp (config := { maxSteps := 2000000 }) only [go_sem, ↓reduceIte, Int.reduceToNat, Nat.reduceMul, Int.reduceBEq, Int.reduceBNe, Nat.reduceBEq, Nat.reduceAdd, Nat.reduceSub, Nat.reduceLeDiff, Nat.reduceEqDiff, Nat.reduceLT, reduceCtorEq, Aw.renR, Aw.pos]
    rw [← hcl]
    exact ⟨rfl, rfl⟩
theorem s9 (n : Net) (hk : NetOk n) (hv : NetV n) (a b : ByteArray) (ha : a ∈ n.nodes.l) (hb : b ∈ n.nodes.l) :
    Aw.Spec Try.prog 9 [] [neta n, S a, S b] (fun rg v => rg = [] ∧ v = .tup [.imm none false 1 (((wayN n a b).getD []).map sc), I (if (wayN n a b).isSome then 0 else 8)]) := by
  refine Aw.Spec.regsW k9 rfl rfl fun E hn hnp hp => ?_
  unfold a9
  have hN : ∀ x ∈ n.nodes.l, nodeE n x = 0 := fun x hx => by
    obtain ⟨a1, a2, a3⟩ := idx_int hx
    unfold nodeE; rw [if_neg (by simp [netF_zero.2 hv]), if_neg (by omega)]
  have na := hN a ha
  have nb := hN b hb
  refine AWp.ofD [] [] hn mixed rfl ?_
  simp (config := { maxSteps := 2000000 }) only [go_sem, ↓reduceIte, Int.reduceToNat, Nat.reduceMul, Int.reduceBEq, Int.reduceBNe, Nat.reduceBEq, Nat.reduceAdd, Nat.reduceSub, Nat.reduceLeDiff, Nat.reduceEqDiff, Nat.reduceLT, reduceCtorEq]
  refine AWp.loop (fun k s => ∃ j : Int, (j = 0 ∧ k = 2 ∨ j = 1 ∧ k = 1 ∨ j = 2 ∧ k = 0) ∧ Weak E s ⟨[(1, S a), (2, S b), (3, .ptr 0 0 0), (16, .agg [S a, S b]), (17, I j)], [.box 29 (netc n)]⟩) (n := 2)
    ⟨0, .inl ⟨rfl, rfl⟩, weak_to [0] hp hnp rfl (by simp (config := { maxSteps := 2000000 }) only [go_sem, ↓reduceIte, Int.reduceToNat, Nat.reduceMul, Int.reduceBEq, Int.reduceBNe, Nat.reduceBEq, Nat.reduceAdd, Nat.reduceSub, Nat.reduceLeDiff, Nat.reduceEqDiff, Nat.reduceLT, reduceCtorEq, Aw.pos]) (by simp (config := { maxSteps := 2000000 }) only [go_sem, ↓reduceIte, Int.reduceToNat, Nat.reduceMul, Int.reduceBEq, Int.reduceBNe, Nat.reduceBEq, Nat.reduceAdd, Nat.reduceSub, Nat.reduceLeDiff, Nat.reduceEqDiff, Nat.reduceLT, reduceCtorEq, Aw.renR, Aw.pos])⟩ ?_
  rintro k s ⟨j, hj, hw⟩
  refine AWp.weak hw (AWp.ofD [] [] hn mixed rfl ?_)
  rcases hj with ⟨rfl, rfl⟩ | ⟨rfl, rfl⟩ | ⟨rfl, rfl⟩
  · have g0 : decide ((0 : Int) < 2) = true := rfl
    have g1 : IntKind.i64.wrap ((0 : Int) + 1) = 1 := rfl
    simp (config := { maxSteps := 2000000 }) only [go_sem, ↓reduceIte, Int.reduceToNat, Nat.reduceMul, Int.reduceBEq, Int.reduceBNe, Nat.reduceBEq, Nat.reduceAdd, Nat.reduceSub, Nat.reduceLeDiff, Nat.reduceEqDiff, Nat.reduceLT, reduceCtorEq, g0, g1]
    (repeat (refine And.intro (by first | omega | (refine ⟨by omega, by omega⟩) | (refine ⟨by omega, by omega, by omega⟩) | (simp only [List.length_map, List.length_range, List.length_append, List.length_cons, List.length_nil, List.length_replicate, List.length_set]; omega) | (simp; omega) | (intro hgd; cases hgd) | (intro hgd; refine ⟨hgd, ?_⟩; first | omega | (refine ⟨by omega, by omega⟩) | (simp; omega))) ?_))
    (refine AWpL.calle (s19 n hk a) rfl (by rw [hn]; rfl) (by simp (config := { maxSteps := 2000000 }) only [go_sem, ↓reduceIte, Int.reduceToNat, Nat.reduceMul, Int.reduceBEq, Int.reduceBNe, Nat.reduceBEq, Nat.reduceAdd, Nat.reduceSub, Nat.reduceLeDiff, Nat.reduceEqDiff, Nat.reduceLT, reduceCtorEq]) (AWpL.ofM hn rfl ?_); simp (config := { maxSteps := 2000000 }) only [go_sem, ↓reduceIte, Int.reduceToNat, Nat.reduceMul, Int.reduceBEq, Int.reduceBNe, Nat.reduceBEq, Nat.reduceAdd, Nat.reduceSub, Nat.reduceLeDiff, Nat.reduceEqDiff, Nat.reduceLT, reduceCtorEq])
    simp (config := { maxSteps := 2000000 }) only [go_sem, ↓reduceIte, Int.reduceToNat, Nat.reduceMul, Int.reduceBEq, Int.reduceBNe, Nat.reduceBEq, Nat.reduceAdd, Nat.reduceSub, Nat.reduceLeDiff, Nat.reduceEqDiff, Nat.reduceLT, reduceCtorEq, na, g1]
    exact ⟨1, by omega, 1, .inr (.inl ⟨rfl, rfl⟩), weak_to [0] hp hnp rfl (by simp (config := { maxSteps := 2000000 }) only [go_sem, ↓reduceIte, Int.reduceToNat, Nat.reduceMul, Int.reduceBEq, Int.reduceBNe, Nat.reduceBEq, Nat.reduceAdd, Nat.reduceSub, Nat.reduceLeDiff, Nat.reduceEqDiff, Nat.reduceLT, reduceCtorEq, Aw.pos]) (by simp (config := { maxSteps := 2000000 }) only [go_sem, ↓reduceIte, Int.reduceToNat, Nat.reduceMul, Int.reduceBEq, Int.reduceBNe, Nat.reduceBEq, Nat.reduceAdd, Nat.reduceSub, Nat.reduceLeDiff, Nat.reduceEqDiff, Nat.reduceLT, reduceCtorEq, Aw.renR, Aw.pos])⟩
  · have g0 : decide ((1 : Int) < 2) = true := rfl
    have g1 : IntKind.i64.wrap ((1 : Int) + 1) = 2 := rfl
    simp (config := { maxSteps := 2000000 }) only [go_sem, ↓reduceIte, Int.reduceToNat, Nat.reduceMul, Int.reduceBEq, Int.reduceBNe, Nat.reduceBEq, Nat.reduceAdd, Nat.reduceSub, Nat.reduceLeDiff, Nat.reduceEqDiff, Nat.reduceLT, reduceCtorEq, g0, g1]
    (repeat (refine And.intro (by first | omega | (refine ⟨by omega, by omega⟩) | (refine ⟨by omega, by omega, by omega⟩) | (simp only [List.length_map, List.length_range, List.length_append, List.length_cons, List.length_nil, List.length_replicate, List.length_set]; omega) | (simp; omega) | (intro hgd; cases hgd) | (intro hgd; refine ⟨hgd, ?_⟩; first | omega | (refine ⟨by omega, by omega⟩) | (simp; omega))) ?_))
    (refine AWpL.calle (s19 n hk b) rfl (by rw [hn]; rfl) (by simp (config := { maxSteps := 2000000 }) only [go_sem, ↓reduceIte, Int.reduceToNat, Nat.reduceMul, Int.reduceBEq, Int.reduceBNe, Nat.reduceBEq, Nat.reduceAdd, Nat.reduceSub, Nat.reduceLeDiff, Nat.reduceEqDiff, Nat.reduceLT, reduceCtorEq]) (AWpL.ofM hn rfl ?_); simp (config := { maxSteps := 2000000 }) only [go_sem, ↓reduceIte, Int.reduceToNat, Nat.reduceMul, Int.reduceBEq, Int.reduceBNe, Nat.reduceBEq, Nat.reduceAdd, Nat.reduceSub, Nat.reduceLeDiff, Nat.reduceEqDiff, Nat.reduceLT, reduceCtorEq])
    simp (config := { maxSteps := 2000000 }) only [go_sem, ↓reduceIte, Int.reduceToNat, Nat.reduceMul, Int.reduceBEq, Int.reduceBNe, Nat.reduceBEq, Nat.reduceAdd, Nat.reduceSub, Nat.reduceLeDiff, Nat.reduceEqDiff, Nat.reduceLT, reduceCtorEq, nb, g1]
    exact ⟨0, by omega, 2, .inr (.inr ⟨rfl, rfl⟩), weak_to [0] hp hnp rfl (by simp (config := { maxSteps := 2000000 }) only [go_sem, ↓reduceIte, Int.reduceToNat, Nat.reduceMul, Int.reduceBEq, Int.reduceBNe, Nat.reduceBEq, Nat.reduceAdd, Nat.reduceSub, Nat.reduceLeDiff, Nat.reduceEqDiff, Nat.reduceLT, reduceCtorEq, Aw.pos]) (by simp (config := { maxSteps := 2000000 }) only [go_sem, ↓reduceIte, Int.reduceToNat, Nat.reduceMul, Int.reduceBEq, Int.reduceBNe, Nat.reduceBEq, Nat.reduceAdd, Nat.reduceSub, Nat.reduceLeDiff, Nat.reduceEqDiff, Nat.reduceLT, reduceCtorEq, Aw.renR, Aw.pos])⟩
  · have g0 : decide ((2 : Int) < 2) = false := rfl
    simp (config := { maxSteps := 2000000 }) only [go_sem, ↓reduceIte, Int.reduceToNat, Nat.reduceMul, Int.reduceBEq, Int.reduceBNe, Nat.reduceBEq, Nat.reduceAdd, Nat.reduceSub, Nat.reduceLeDiff, Nat.reduceEqDiff, Nat.reduceLT, reduceCtorEq, g0]
    refine AWpL.callA [] (s28 n hk hv a b ha hb) rfl rfl (by rw [hn]; rfl) rfl (fun r hr => by cases hr) fun rg v hv' => ?_
    obtain ⟨rfl, rfl⟩ := hv'
    refine ⟨Nat.zero_le _, ?_⟩
    rw [retS_nil]
    refine AWpL.ofM hn rfl ?_
    cases hw : wayN n a b with
    | none =>
      simp (config := { maxSteps := 2000000 }) only [go_sem, ↓reduceIte, Int.reduceToNat, Nat.reduceMul, Int.reduceBEq, Int.reduceBNe, Nat.reduceBEq, Nat.reduceAdd, Nat.reduceSub, Nat.reduceLeDiff, Nat.reduceEqDiff, Nat.reduceLT, reduceCtorEq, Option.isSome_none, Option.getD_none, List.map_nil]
      refine Retn.weak (weak_ent 6 (by rfl) (Ent.ofnil0 1)) _ (Retn.ret (π := []) hp hnp ⟨rfl, ?_⟩)
      simp (config := { maxSteps := 2000000 }) only [go_sem, ↓reduceIte, Int.reduceToNat, Nat.reduceMul, Int.reduceBEq, Int.reduceBNe, Nat.reduceBEq, Nat.reduceAdd, Nat.reduceSub, Nat.reduceLeDiff, Nat.reduceEqDiff, Nat.reduceLT, reduceCtorEq]
    | some p =>
      simp (config := { maxSteps := 2000000 }) only [go_sem, ↓reduceIte, Int.reduceToNat, Nat.reduceMul, Int.reduceBEq, Int.reduceBNe, Nat.reduceBEq, Nat.reduceAdd, Nat.reduceSub, Nat.reduceLeDiff, Nat.reduceEqDiff, Nat.reduceLT, reduceCtorEq, Option.isSome_some, Option.getD_some]
      refine Retn.ret (π := []) hp hnp ⟨rfl, ?_⟩
      simp (config := { maxSteps := 2000000 }) only [go_sem, ↓reduceIte, Int.reduceToNat, Nat.reduceMul, Int.reduceBEq, Int.reduceBNe, Nat.reduceBEq, Nat.reduceAdd, Nat.reduceSub, Nat.reduceLeDiff, Nat.reduceEqDiff, Nat.reduceLT, reduceCtorEq]
end Go.Proofs.Ytmginfhlohenhaa
