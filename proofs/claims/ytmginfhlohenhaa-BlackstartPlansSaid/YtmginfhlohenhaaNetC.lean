/- Networks: Check and Node. -/
import Derived.Test.YtmginfhlohenhaaAwZk
import Derived.Test.YtmginfhlohenhaaNetB
set_option linter.unusedVariables false
set_option linter.unusedSimpArgs false
namespace Go.Proofs.Ytmginfhlohenhaa
open Go.Proofs.Ytmginfhlohenhaa.Aw
attribute [local go_sem] Int.natCast_zero Int.natCast_one bne_self_eq_false beq_self_eq_true Bool.not_true Bool.not_false Option.isSome_none Option.isSome_some Aw.bkM_nil Option.getD_some Option.getD_none Nat.sub_zero Int.toNat_zero Aw.frzS Aw.frzT Aw.frzA Aw.frzL Aw.frzR Aw.frzO Aw.frzOL Aw.frzOT Aw.frzOR Aw.killS Aw.mapT Aw.mapR Aw.killM Aw.resAVs Aw.resAV Aw.quietOps Aw.wpP Aw.wpT Aw.wpS Aw.AOp.mild List.getElem?_cons_zero List.getElem?_cons_succ Bool.and_false Bool.and_self Bool.false_and Aw.opOb Aw.gdB Aw.Rnd Aw.subTm List.length_map Int.toNat_natCast and_self Aw.SeqC Aw.stops Aw.Ends Aw.looks Aw.renA Aw.renL Aw.renT Aw.renS Aw.wpO Aw.aop Aw.putTm Aw.St.ev Aw.St.put Aw.St.putO Aw.binAV Aw.intBin Aw.strBin Aw.pickAV Aw.optInt Aw.AV.strip Aw.AV.guard Aw.AV.cells Aw.gdOb Aw.AOp.opds Aw.AOp.still Aw.ptrCells Aw.St.reg Aw.fillAV Aw.fillOb Aw.elsOb Aw.splice Aw.firm Aw.cellish Aw.AV.shut Aw.shutAll Aw.Seq Aw.Blk Aw.retS_nil Aw.mapA Aw.mapL Aw.borA Aw.borOb Aw.allOb Aw.tupOf Aw.params Aw.Opd.of Array.toList Value.cells List.map_cons List.map_nil List.getD_cons_zero List.getD_cons_succ List.getD_nil List.length_cons List.length_nil List.take_succ_cons List.take_zero List.take_nil List.drop_zero List.drop_succ_cons List.drop_nil List.set_cons_zero List.set_cons_succ List.append_nil List.nil_append List.cons_append List.all_cons List.all_nil cond_false cond_true if_true if_false true_and and_true Bool.and_true Bool.true_and Option.map_some Option.map_none false_implies forall_const implies_true forall_eq imp_self Bool.cond_false_right Bool.cond_true_left beq_true beq_false Bool.not_eq_true' Bool.false_eq_true Nat.zero_add Nat.add_zero Aw.eqCells Aw.stopDraw Aw.skipS Aw.exactCap Aw.revealS Aw.srcEls Aw.srcSz
attribute [local go_sem ↓] Aw.look_nil Aw.look_ite Aw.wpL_nil Aw.wpL_op Aw.wpL_gd Aw.wpQ_nil Aw.wpQ_op Aw.wpQ_gd Aw.wpC_draw Aw.wpC_reg Aw.wpC_skip Aw.wpC_ret Aw.wpC_exit Aw.wpC_seq Aw.wpC_block Aw.wpC_loop Aw.wpC_cond Aw.stopAt_nil Aw.stopAt_cons Aw.wpD_skip Aw.wpD_ret Aw.wpD_exit Aw.wpD_region Aw.wpD_draw Aw.wpM_nil Aw.wpM_op Aw.wpM_gd Aw.wpD_seq Aw.wpD_block Aw.wpD_loop Aw.wpD_cond
/- gridhall/netmodel.Check -/
def a6 : ACode :=
  (.seq (.region false [] [
     ⟨(some 1), none, (.box 29 (.t 0))⟩,
     ⟨(some 2), none, (.mov (.v (.int .i64 0)))⟩])
  (.seq (.seq (.region false [] [
     ⟨(some 15), none, (.load 6 true (.t 1))⟩,
     ⟨(some 16), none, (.call 22 [(.t 15)])⟩,
     ⟨(some 3), none, (.mov (.t 16))⟩])
  (.seq (.region false [] [
     ⟨(some 17), none, (.mov (.t 3))⟩,
     ⟨(some 18), none, (.bin .neq 30 (.t 17) (.v (.int .i64 0)))⟩])
  (.cond (.t 18)
    (.seq (.region false [] [
       ⟨(some 19), none, (.mov (.t 3))⟩,
       ⟨(some 2), none, (.mov (.t 19))⟩])
    .ret)
    .skip)))
  (.seq (.region false [] [
     ⟨(some 4), none, (.alloc 63 (.agg #[(.slice none 0 0)]))⟩])
  (.seq (.seq (.region false [] [
     ⟨(some 20), none, (.fld 0 (.t 1))⟩,
     ⟨(some 21), none, (.load 1 false (.t 20))⟩,
     ⟨(some 22), none, (.len (.t 21))⟩,
     ⟨(some 23), none, (.mov (.v (.int .i64 0)))⟩])
  (.block 0 (.loop (.seq (.region false [] [
       ⟨(some 24), none, (.bin .lss 3 (.t 23) (.t 22))⟩])
    (.seq (.cond (.t 24)
      .skip
      (.exit 0))
    (.seq (.block 1 (.seq (.region false [] [
        ⟨(some 25), none, (.idx 1 (.t 21) (.t 23))⟩,
        ⟨(some 26), none, (.load 1 false (.t 25))⟩,
        ⟨(some 6), none, (.mov (.t 26))⟩])
     (.seq (.region false [] [
        ⟨(some 27), none, (.mov (.t 6))⟩,
        ⟨(some 28), none, (.call 23 [(.t 4), (.t 27)])⟩,
        ⟨(some 7), none, (.mov (.t 28))⟩])
     (.seq (.region false [] [
        ⟨(some 29), none, (.mov (.t 7))⟩,
        ⟨(some 30), none, (.bin .neq 30 (.t 29) (.v (.int .i64 0)))⟩])
     (.cond (.t 30)
       (.seq (.region false [] [
          ⟨(some 31), none, (.mov (.t 7))⟩,
          ⟨(some 2), none, (.mov (.t 31))⟩])
       .ret)
       .skip)))))
    (.region false [] [
       ⟨(some 32), none, (.bin .add 3 (.t 23) (.v (.int .i64 1)))⟩,
       ⟨(some 23), none, (.mov (.t 32))⟩])))))))
  (.seq (.seq (.region false [] [
     ⟨(some 33), none, (.fld 1 (.t 1))⟩,
     ⟨(some 34), none, (.load 1 false (.t 33))⟩,
     ⟨(some 35), none, (.len (.t 34))⟩,
     ⟨(some 36), none, (.mov (.v (.int .i64 0)))⟩])
  (.block 2 (.loop (.seq (.region false [] [
       ⟨(some 37), none, (.bin .lss 3 (.t 36) (.t 35))⟩])
    (.seq (.cond (.t 37)
      .skip
      (.exit 2))
    (.seq (.block 3 (.seq (.region false [] [
        ⟨(some 38), none, (.idx 5 (.t 34) (.t 36))⟩,
        ⟨(some 39), none, (.load 5 true (.t 38))⟩,
        ⟨(some 9), none, (.alloc 66 (.agg #[(.string ⟨#[]⟩), (.string ⟨#[]⟩), (.string ⟨#[]⟩), (.bool false), (.bool false)]))⟩,
        ⟨none, none, (.store 5 (.t 9) (.t 39))⟩])
     (.seq (.seq (.region false [] [
        ⟨(some 40), none, (.load 6 true (.t 1))⟩,
        ⟨(some 41), none, (.fld 0 (.t 9))⟩,
        ⟨(some 42), none, (.load 1 false (.t 41))⟩,
        ⟨(some 43), none, (.fld 1 (.t 9))⟩,
        ⟨(some 44), none, (.load 1 false (.t 43))⟩,
        ⟨(some 45), none, (.fld 2 (.t 9))⟩,
        ⟨(some 46), none, (.load 1 false (.t 45))⟩,
        ⟨(some 47), none, (.bsl 9 1 2 [(0, (.t 44)), (1, (.t 46))])⟩,
        ⟨(some 48), none, (.call 24 [(.t 40), (.t 4), (.t 42), (.t 47)])⟩,
        ⟨(some 10), none, (.mov (.t 48))⟩])
     (.seq (.region false [] [
        ⟨(some 49), none, (.mov (.t 10))⟩,
        ⟨(some 50), none, (.bin .neq 30 (.t 49) (.v (.int .i64 0)))⟩])
     (.cond (.t 50)
       (.seq (.region false [] [
          ⟨(some 51), none, (.mov (.t 10))⟩,
          ⟨(some 2), none, (.mov (.t 51))⟩])
       .ret)
       .skip)))
     (.seq (.region false [] [
        ⟨(some 52), none, (.fld 1 (.t 9))⟩,
        ⟨(some 53), none, (.load 1 false (.t 52))⟩,
        ⟨(some 54), none, (.fld 2 (.t 9))⟩,
        ⟨(some 55), none, (.load 1 false (.t 54))⟩,
        ⟨(some 56), none, (.bin .eql 9 (.t 53) (.t 55))⟩])
     (.cond (.t 56)
       (.seq (.region false [] [
          ⟨(some 2), none, (.mov (.v (.int .i64 3)))⟩])
       .ret)
       .skip)))))
    (.region false [] [
       ⟨(some 57), none, (.bin .add 3 (.t 36) (.v (.int .i64 1)))⟩,
       ⟨(some 36), none, (.mov (.t 57))⟩])))))))
  (.seq (.seq (.region false [] [
     ⟨(some 58), none, (.fld 2 (.t 1))⟩,
     ⟨(some 59), none, (.load 1 false (.t 58))⟩,
     ⟨(some 60), none, (.len (.t 59))⟩,
     ⟨(some 61), none, (.mov (.v (.int .i64 0)))⟩])
  (.block 4 (.loop (.seq (.region false [] [
       ⟨(some 62), none, (.bin .lss 3 (.t 61) (.t 60))⟩])
    (.seq (.cond (.t 62)
      .skip
      (.exit 4))
    (.seq (.block 5 (.seq (.region false [] [
        ⟨(some 63), none, (.idx 9 (.t 59) (.t 61))⟩,
        ⟨(some 64), none, (.load 9 true (.t 63))⟩,
        ⟨(some 12), none, (.alloc 70 (.agg #[(.string ⟨#[]⟩), (.string ⟨#[]⟩), (.string ⟨#[]⟩), (.int .i64 0), (.int .i64 0), (.int .i64 0), (.int .i64 0), (.int .i64 0), (.int .i64 0)]))⟩,
        ⟨none, none, (.store 9 (.t 12) (.t 64))⟩])
     (.seq (.seq (.region false [] [
        ⟨(some 65), none, (.load 6 true (.t 1))⟩,
        ⟨(some 66), none, (.fld 0 (.t 12))⟩,
        ⟨(some 67), none, (.load 1 false (.t 66))⟩,
        ⟨(some 68), none, (.fld 1 (.t 12))⟩,
        ⟨(some 69), none, (.load 1 false (.t 68))⟩,
        ⟨(some 70), none, (.fld 2 (.t 12))⟩,
        ⟨(some 71), none, (.load 1 false (.t 70))⟩,
        ⟨(some 72), none, (.bsl 9 1 2 [(0, (.t 69)), (1, (.t 71))])⟩,
        ⟨(some 73), none, (.call 24 [(.t 65), (.t 4), (.t 67), (.t 72)])⟩,
        ⟨(some 13), none, (.mov (.t 73))⟩])
     (.seq (.region false [] [
        ⟨(some 74), none, (.mov (.t 13))⟩,
        ⟨(some 75), none, (.bin .neq 30 (.t 74) (.v (.int .i64 0)))⟩])
     (.cond (.t 75)
       (.seq (.region false [] [
          ⟨(some 76), none, (.mov (.t 13))⟩,
          ⟨(some 2), none, (.mov (.t 76))⟩])
       .ret)
       .skip)))
     (.seq (.seq (.region false [] [
        ⟨(some 77), none, (.fld 1 (.t 12))⟩,
        ⟨(some 78), none, (.load 1 false (.t 77))⟩,
        ⟨(some 79), none, (.fld 2 (.t 12))⟩,
        ⟨(some 80), none, (.load 1 false (.t 79))⟩,
        ⟨(some 81), none, (.bin .eql 9 (.t 78) (.t 80))⟩])
     (.cond (.t 81)
       (.seq (.region false [] [
          ⟨(some 2), none, (.mov (.v (.int .i64 3)))⟩])
       .ret)
       .skip))
     (.seq (.region false [] [
        ⟨(some 82), none, (.load 9 true (.t 12))⟩,
        ⟨(some 83), none, (.call 25 [(.t 82)])⟩,
        ⟨(some 14), none, (.mov (.t 83))⟩])
     (.seq (.region false [] [
        ⟨(some 84), none, (.mov (.t 14))⟩,
        ⟨(some 85), none, (.bin .neq 30 (.t 84) (.v (.int .i64 0)))⟩])
     (.cond (.t 85)
       (.seq (.region false [] [
          ⟨(some 86), none, (.mov (.t 14))⟩,
          ⟨(some 2), none, (.mov (.t 86))⟩])
       .ret)
       .skip)))))))
    (.region false [] [
       ⟨(some 87), none, (.bin .add 3 (.t 61) (.v (.int .i64 1)))⟩,
       ⟨(some 61), none, (.mov (.t 87))⟩])))))))
  (.seq (.region false [] [
     ⟨(some 88), none, (.load 6 true (.t 1))⟩,
     ⟨(some 89), none, (.call 26 [(.t 88), (.t 4)])⟩,
     ⟨(some 2), none, (.mov (.t 89))⟩])
  .ret)))))))
theorem k6 : FnIs Try.prog 6 90 [.t 2] a6 := ⟨_, _, Try.func6, rfl, by kernel_rfl, by kernel_rfl, rfl⟩
/- gridhall/netmodel.Node -/
def a19 : ACode :=
  (.seq (.region false [] [
     ⟨(some 2), none, (.box 29 (.t 0))⟩,
     ⟨(some 4), none, (.mov (.v (.int .i64 0)))⟩,
     ⟨(some 5), none, (.mov (.v (.int .i64 0)))⟩])
  (.seq (.seq (.region false [] [
     ⟨(some 8), none, (.load 6 true (.t 2))⟩,
     ⟨(some 9), none, (.call 6 [(.t 8)])⟩,
     ⟨(some 6), none, (.mov (.t 9))⟩])
  (.seq (.region false [] [
     ⟨(some 10), none, (.mov (.t 6))⟩,
     ⟨(some 11), none, (.bin .neq 30 (.t 10) (.v (.int .i64 0)))⟩])
  (.cond (.t 11)
    (.seq (.region false [] [
       ⟨(some 12), none, (.mov (.t 6))⟩,
       ⟨(some 4), none, (.mov (.v (.int .i64 0)))⟩,
       ⟨(some 5), none, (.mov (.t 12))⟩])
    .ret)
    .skip)))
  (.seq (.region false [] [
     ⟨(some 13), none, (.fld 0 (.t 2))⟩,
     ⟨(some 14), none, (.load 1 false (.t 13))⟩,
     ⟨(some 15), none, (.mov (.t 1))⟩,
     ⟨(some 16), none, (.call 36 [(.t 14), (.t 15)])⟩,
     ⟨(some 7), none, (.mov (.t 16))⟩])
  (.seq (.seq (.region false [] [
     ⟨(some 17), none, (.mov (.t 7))⟩,
     ⟨(some 18), none, (.bin .lss 3 (.t 17) (.v (.int .i64 0)))⟩])
  (.cond (.t 18)
    (.seq (.region false [] [
       ⟨(some 4), none, (.mov (.v (.int .i64 0)))⟩,
       ⟨(some 5), none, (.mov (.v (.int .i64 6)))⟩])
    .ret)
    .skip))
  (.seq (.region false [] [
     ⟨(some 19), none, (.mov (.t 7))⟩,
     ⟨(some 4), none, (.mov (.t 19))⟩,
     ⟨(some 5), none, (.mov (.v (.int .i64 0)))⟩])
  .ret)))))
theorem k19 : FnIs Try.prog 19 20 [.t 4, .t 5] a19 := ⟨_, _, Try.func19, rfl, by kernel_rfl, by kernel_rfl, rfl⟩

def swiE (x : Swi) : Int := if seq x.a x.b = true then 3 else 0
def brE (x : Bra) : Int := if seq x.a x.b = true then 3 else braE x
def nodI (s : ByteArray) : Item := ⟨s, [], 0⟩
def swiI (x : Swi) : Item := ⟨x.name, [x.a, x.b], swiE x⟩
def braI (x : Bra) : Item := ⟨x.name, [x.a, x.b], brE x⟩
def itemsN (n : Net) : List Item := n.nodes.l.map nodI ++ (n.sws.l.map swiI ++ (n.brs.l.map braI ++ (n.gens.l.map genI ++ (n.loads.l.map loaI ++ n.stores.l.map stoI))))
def netF (n : Net) : Int := if sizesF n ≠ 0 then sizesF n else itemsE n [] (itemsN n)
theorem sizesF_zero {n : Net} (h : sizesF n = 0) : n.nodes.l.length ≤ 24 ∧ n.sws.l.length ≤ 32 ∧ n.brs.l.length ≤ 24 ∧ n.gens.l.length ≤ 10 ∧ n.loads.l.length ≤ 12 ∧ n.stores.l.length ≤ 4 := by
  unfold sizesF at h
  split at h
  · cases h
  · split at h
    · cases h
    · omega
abbrev chkR (n : Net) (met : List ByteArray) : List Reg := [.box 29 (netc n), .box 63 [.hnd 2 0 met.length met.length false], .arr 9 1 (met.map sc)]
set_option maxRecDepth 20000 in
set_option maxHeartbeats 1000000 in
theorem s6 (n : Net) (hk : NetOk n) : Aw.Spec Try.prog 6 [] [neta n] (Gives (· = I (netF n))) := by
  refine Aw.Spec.givesD k6 mixed rfl rfl rfl fun E hn hnp hp => ?_
  unfold a6
  have pin : ∀ r, E.pin r = none := fun r => hp.none hnp (Nat.zero_le _)
  have hN : netF n = if sizesF n ≠ 0 then sizesF n else itemsE n [] (itemsN n) := rfl
  simp (config := { maxSteps := 2000000 }) only [go_sem, ↓reduceIte, Int.reduceToNat, Nat.reduceMul, Int.reduceBEq, Int.reduceBNe, Nat.reduceBEq, Nat.reduceAdd, Nat.reduceSub, Nat.reduceLeDiff, Nat.reduceEqDiff, Nat.reduceLT, reduceCtorEq]
  (refine AWpL.calle (s22 n) rfl (by rw [hn]; rfl) (by simp (config := { maxSteps := 2000000 }) only [go_sem, ↓reduceIte, Int.reduceToNat, Nat.reduceMul, Int.reduceBEq, Int.reduceBNe, Nat.reduceBEq, Nat.reduceAdd, Nat.reduceSub, Nat.reduceLeDiff, Nat.reduceEqDiff, Nat.reduceLT, reduceCtorEq]) (AWpL.ofM hn rfl ?_); simp (config := { maxSteps := 2000000 }) only [go_sem, ↓reduceIte, Int.reduceToNat, Nat.reduceMul, Int.reduceBEq, Int.reduceBNe, Nat.reduceBEq, Nat.reduceAdd, Nat.reduceSub, Nat.reduceLeDiff, Nat.reduceEqDiff, Nat.reduceLT, reduceCtorEq])
  simp only [bne_iff_ne, ne_eq, bne_eq_false_iff_eq]
  refine ⟨fun h => ?_, fun h => ?_⟩
  · rw [hN, if_pos h]
  rw [if_neg (by simpa using h)] at hN
  obtain ⟨l1, l2, l3, l4, l5, l6⟩ := sizesF_zero h
  obtain ⟨R0, hR⟩ : ∃ R : List Item, R = [] := ⟨_, rfl⟩
  have hall : itemsE n [] (itemsN n) = itemsE n [] ((n.nodes.l.drop 0).map nodI ++ (n.sws.l.map swiI ++ (n.brs.l.map braI ++ (n.gens.l.map genI ++ (n.loads.l.map loaI ++ n.stores.l.map stoI))))) := rfl
  generalize itemsN n = all at hN hall
  have h0L : ([] : List ByteArray).length = 0 := rfl
  refine AWp.weak (weak_nilbox 1 0 9 1 rfl rfl) ?_
  refine AWp.loop (fun k s => ∃ i : Nat, ∃ met1 : List ByteArray, i + k = n.nodes.l.length ∧ met1.length = ([] : List ByteArray).length + i ∧ itemsE n [] all = itemsE n met1 ((n.nodes.l.drop i).map nodI ++ (n.sws.l.map swiI ++ (n.brs.l.map braI ++ (n.gens.l.map genI ++ (n.loads.l.map loaI ++ n.stores.l.map stoI)))))
      ∧ Weak E s ⟨[(1, .ptr 0 0 0), (4, .ptr 1 0 0), (21, n.nodes.av 1 sc), (22, I n.nodes.l.length), (23, I i)], chkR n met1⟩) (n := n.nodes.l.length)
    ⟨0, ([] : List ByteArray), by omega, rfl, hall, weak_to [0, 1, 2] hp hnp rfl (by simp (config := { maxSteps := 2000000 }) only [go_sem, ↓reduceIte, Int.reduceToNat, Nat.reduceMul, Int.reduceBEq, Int.reduceBNe, Nat.reduceBEq, Nat.reduceAdd, Nat.reduceSub, Nat.reduceLeDiff, Nat.reduceEqDiff, Nat.reduceLT, reduceCtorEq, Int.natCast_zero, Aw.pos]) (by simp (config := { maxSteps := 2000000 }) only [go_sem, ↓reduceIte, Int.reduceToNat, Nat.reduceMul, Int.reduceBEq, Int.reduceBNe, Nat.reduceBEq, Nat.reduceAdd, Nat.reduceSub, Nat.reduceLeDiff, Nat.reduceEqDiff, Nat.reduceLT, reduceCtorEq, Aw.renR, Aw.pos] <;> rfl)⟩ ?_
  rintro k s ⟨i, met1, hik, hml, hc, hw⟩
  refine AWp.weak hw (AWp.ofD [] [] hn mixed rfl ?_)
  rcases Nat.lt_or_ge i n.nodes.l.length with hlt | hge
  · have e0 : decide ((i : Int) < (n.nodes.l.length : Int)) = true := decide_eq_true (by omega)
    have e1 := getD_map sc hlt
    have e2 : IntKind.i64.wrap ((i : Int) + 1) = ((i + 1 : Nat) : Int) := by rw [w64 (by omega) (by omega)]; omega
    rw [map_drop nodI hlt] at hc
    have hx := hk.nodes _ (List.getElem_mem hlt)
    generalize n.nodes.l[i] = x at e1 hc hx
    simp (config := { maxSteps := 2000000 }) only [go_sem, ↓reduceIte, Int.reduceToNat, Nat.reduceMul, Int.reduceBEq, Int.reduceBNe, Nat.reduceBEq, Nat.reduceAdd, Nat.reduceSub, Nat.reduceLeDiff, Nat.reduceEqDiff, Nat.reduceLT, reduceCtorEq, e0, e1]
    (repeat (refine And.intro (by first | omega | (refine ⟨by omega, by omega⟩) | (refine ⟨by omega, by omega, by omega⟩) | (simp only [List.length_map, List.length_range, List.length_append, List.length_cons, List.length_nil, List.length_replicate, List.length_set]; omega) | (simp; omega) | (intro hgd; cases hgd) | (intro hgd; refine ⟨hgd, ?_⟩; first | omega | (refine ⟨by omega, by omega⟩) | (simp; omega))) ?_))

    refine AWpL.callA [1, 2] (s23 met1 x hx (by omega)) rfl rfl (by rw [hn]; rfl) rfl (fun r hr => .inr (pin r)) fun rg v hv => ?_
    obtain ⟨rfl, rfl⟩ := hv
    refine ⟨Nat.le_refl _, AWpL.ofM hn rfl ?_⟩
    simp (config := { maxSteps := 2000000 }) only [go_sem, ↓reduceIte, Int.reduceToNat, Nat.reduceMul, Int.reduceBEq, Int.reduceBNe, Nat.reduceBEq, Nat.reduceAdd, Nat.reduceSub, Nat.reduceLeDiff, Nat.reduceEqDiff, Nat.reduceLT, reduceCtorEq, Aw.retS, Aw.retRg, Aw.kpM, Aw.bkM, Aw.pos, Aw.isBox]
    have hD : devE n met1 x [] = if addE met1 x ≠ 0 then addE met1 x else 0 := rfl
    simp only [bne_iff_ne, ne_eq, bne_eq_false_iff_eq]
    refine ⟨fun h => ?_, fun h => ?_⟩
    · rw [if_pos h] at hD
      rw [hN, hc, itemsE_dev (x := nodI x) (by show devE n met1 x [] ≠ 0; rw [hD]; exact h)]
      show _ = I (devE n met1 x [])
      rw [hD]
    rw [if_neg (by simpa using h)] at hD
    rw [addL_dev hD]
    rw [itemsE_ok (x := nodI x) hD rfl] at hc
    rw [e2]
    exact ⟨k - 1, by omega, i + 1, met1 ++ [x], by omega, by rw [List.length_append, List.length_singleton]; omega, hc, weak_to [0, 1, 2] hp hnp rfl (by simp (config := { maxSteps := 2000000 }) only [go_sem, ↓reduceIte, Int.reduceToNat, Nat.reduceMul, Int.reduceBEq, Int.reduceBNe, Nat.reduceBEq, Nat.reduceAdd, Nat.reduceSub, Nat.reduceLeDiff, Nat.reduceEqDiff, Nat.reduceLT, reduceCtorEq, Aw.pos]) (by simp (config := { maxSteps := 2000000 }) only [go_sem, ↓reduceIte, Int.reduceToNat, Nat.reduceMul, Int.reduceBEq, Int.reduceBNe, Nat.reduceBEq, Nat.reduceAdd, Nat.reduceSub, Nat.reduceLeDiff, Nat.reduceEqDiff, Nat.reduceLT, reduceCtorEq, Aw.renR, Aw.pos])⟩
  have e0 : decide ((i : Int) < (n.nodes.l.length : Int)) = false := decide_eq_false (by omega)
  simp (config := { maxSteps := 2000000 }) only [go_sem, ↓reduceIte, Int.reduceToNat, Nat.reduceMul, Int.reduceBEq, Int.reduceBNe, Nat.reduceBEq, Nat.reduceAdd, Nat.reduceSub, Nat.reduceLeDiff, Nat.reduceEqDiff, Nat.reduceLT, reduceCtorEq, e0]
  rw [map_dropE nodI hge] at hc
  have hml2 : met1.length ≤ ([] : List ByteArray).length + n.nodes.l.length := by omega
  clear hw hml hik hge e0 hall
  have hall := hc
  clear hc

  refine AWp.loop (fun k s => ∃ i : Nat, ∃ met2 : List ByteArray, i + k = n.sws.l.length ∧ met2.length = met1.length + i ∧ itemsE n [] all = itemsE n met2 ((n.sws.l.drop i).map swiI ++ (n.brs.l.map braI ++ (n.gens.l.map genI ++ (n.loads.l.map loaI ++ n.stores.l.map stoI))))
      ∧ Weak E s ⟨[(1, .ptr 0 0 0), (4, .ptr 1 0 0), (34, n.sws.av 5 swc), (35, I n.sws.l.length), (36, I i)], chkR n met2⟩) (n := n.sws.l.length)
    ⟨0, met1, by omega, rfl, hall, weak_to [0, 1, 2] hp hnp rfl (by simp (config := { maxSteps := 2000000 }) only [go_sem, ↓reduceIte, Int.reduceToNat, Nat.reduceMul, Int.reduceBEq, Int.reduceBNe, Nat.reduceBEq, Nat.reduceAdd, Nat.reduceSub, Nat.reduceLeDiff, Nat.reduceEqDiff, Nat.reduceLT, reduceCtorEq, Int.natCast_zero, Aw.pos]) (by simp (config := { maxSteps := 2000000 }) only [go_sem, ↓reduceIte, Int.reduceToNat, Nat.reduceMul, Int.reduceBEq, Int.reduceBNe, Nat.reduceBEq, Nat.reduceAdd, Nat.reduceSub, Nat.reduceLeDiff, Nat.reduceEqDiff, Nat.reduceLT, reduceCtorEq, Aw.renR, Aw.pos] <;> rfl)⟩ ?_
  rintro k s ⟨i, met2, hik, hml, hc, hw⟩
  refine AWp.weak hw (AWp.ofD [] [] hn mixed rfl ?_)
  rcases Nat.lt_or_ge i n.sws.l.length with hlt | hge
  · have e0 : decide ((i : Int) < (n.sws.l.length : Int)) = true := decide_eq_true (by omega)
    have e1 := getD_map swc hlt
    have e2 : IntKind.i64.wrap ((i : Int) + 1) = ((i + 1 : Nat) : Int) := by rw [w64 (by omega) (by omega)]; omega
    rw [map_drop swiI hlt] at hc
    have hx := hk.sws _ (List.getElem_mem hlt)
    generalize n.sws.l[i] = x at e1 hc hx
    simp (config := { maxSteps := 2000000 }) only [go_sem, ↓reduceIte, Int.reduceToNat, Nat.reduceMul, Int.reduceBEq, Int.reduceBNe, Nat.reduceBEq, Nat.reduceAdd, Nat.reduceSub, Nat.reduceLeDiff, Nat.reduceEqDiff, Nat.reduceLT, reduceCtorEq, e0, e1]
    (repeat (refine And.intro (by first | omega | (refine ⟨by omega, by omega⟩) | (refine ⟨by omega, by omega, by omega⟩) | (simp only [List.length_map, List.length_range, List.length_append, List.length_cons, List.length_nil, List.length_replicate, List.length_set]; omega) | (simp; omega) | (intro hgd; cases hgd) | (intro hgd; refine ⟨hgd, ?_⟩; first | omega | (refine ⟨by omega, by omega⟩) | (simp; omega))) ?_))

    refine AWpL.weak (weak_freeze 4 rfl (pin 4) (by simp (config := { maxSteps := 2000000 }) only [go_sem, ↓reduceIte, Int.reduceToNat, Nat.reduceMul, Int.reduceBEq, Int.reduceBNe, Nat.reduceBEq, Nat.reduceAdd, Nat.reduceSub, Nat.reduceLeDiff, Nat.reduceEqDiff, Nat.reduceLT, reduceCtorEq, Nat.le_refl])) (AWpL.ofM hn rfl ?_)
    simp (config := { maxSteps := 2000000 }) only [go_sem, ↓reduceIte, Int.reduceToNat, Nat.reduceMul, Int.reduceBEq, Int.reduceBNe, Nat.reduceBEq, Nat.reduceAdd, Nat.reduceSub, Nat.reduceLeDiff, Nat.reduceEqDiff, Nat.reduceLT, reduceCtorEq]
    refine AWpL.callA [1, 2] (s24 n met2 x.name none true (swiI x).ends hk.nlen hx (by omega) (by simp [swiI])) rfl rfl (by rw [hn]; rfl) rfl (fun r hr => .inr (pin r)) fun rg v hv => ?_
    obtain ⟨rfl, rfl⟩ := hv
    refine ⟨Nat.le_refl _, AWpL.ofM hn rfl ?_⟩
    simp (config := { maxSteps := 2000000 }) only [go_sem, ↓reduceIte, Int.reduceToNat, Nat.reduceMul, Int.reduceBEq, Int.reduceBNe, Nat.reduceBEq, Nat.reduceAdd, Nat.reduceSub, Nat.reduceLeDiff, Nat.reduceEqDiff, Nat.reduceLT, reduceCtorEq, Aw.retS, Aw.retRg, Aw.kpM, Aw.bkM, Aw.pos, Aw.isBox]
    simp only [bne_iff_ne, ne_eq, bne_eq_false_iff_eq]
    refine ⟨fun h => ?_, fun h => ?_⟩
    · rw [hN, hc, itemsE_dev (x := swiI x) h]
      rfl
    rw [addL_dev h]

    refine ⟨fun h2 => ?_, fun h2 => ?_⟩
    · rw [hN, hc, itemsE_e (x := swiI x) h (by show swiE x ≠ 0; unfold swiE; rw [if_pos (show seq x.a x.b = true from h2)]; decide), show (swiI x).e = 3 from if_pos h2]
    rw [itemsE_ok (x := swiI x) h (if_neg (by show ¬ seq x.a x.b = true; unfold seq; rw [h2]; decide))] at hc
    rw [e2]
    exact ⟨k - 1, by omega, i + 1, met2 ++ [x.name], by omega, by rw [List.length_append, List.length_singleton]; omega, hc, weak_to [0, 1, 2] hp hnp rfl (by simp (config := { maxSteps := 2000000 }) only [go_sem, ↓reduceIte, Int.reduceToNat, Nat.reduceMul, Int.reduceBEq, Int.reduceBNe, Nat.reduceBEq, Nat.reduceAdd, Nat.reduceSub, Nat.reduceLeDiff, Nat.reduceEqDiff, Nat.reduceLT, reduceCtorEq, Aw.pos]) (by simp (config := { maxSteps := 2000000 }) only [go_sem, ↓reduceIte, Int.reduceToNat, Nat.reduceMul, Int.reduceBEq, Int.reduceBNe, Nat.reduceBEq, Nat.reduceAdd, Nat.reduceSub, Nat.reduceLeDiff, Nat.reduceEqDiff, Nat.reduceLT, reduceCtorEq, Aw.renR, Aw.pos])⟩
  have e0 : decide ((i : Int) < (n.sws.l.length : Int)) = false := decide_eq_false (by omega)
  simp (config := { maxSteps := 2000000 }) only [go_sem, ↓reduceIte, Int.reduceToNat, Nat.reduceMul, Int.reduceBEq, Int.reduceBNe, Nat.reduceBEq, Nat.reduceAdd, Nat.reduceSub, Nat.reduceLeDiff, Nat.reduceEqDiff, Nat.reduceLT, reduceCtorEq, e0]
  rw [map_dropE swiI hge] at hc
  have hml2 : met2.length ≤ met1.length + n.sws.l.length := by omega
  clear hw hml hik hge e0 hall
  have hall := hc
  clear hc

  refine AWp.loop (fun k s => ∃ i : Nat, ∃ met3 : List ByteArray, i + k = n.brs.l.length ∧ met3.length = met2.length + i ∧ itemsE n [] all = itemsE n met3 ((n.brs.l.drop i).map braI ++ (n.gens.l.map genI ++ (n.loads.l.map loaI ++ n.stores.l.map stoI)))
      ∧ Weak E s ⟨[(1, .ptr 0 0 0), (4, .ptr 1 0 0), (59, n.brs.av 9 brc), (60, I n.brs.l.length), (61, I i)], chkR n met3⟩) (n := n.brs.l.length)
    ⟨0, met2, by omega, rfl, hall, weak_to [0, 1, 2] hp hnp rfl (by simp (config := { maxSteps := 2000000 }) only [go_sem, ↓reduceIte, Int.reduceToNat, Nat.reduceMul, Int.reduceBEq, Int.reduceBNe, Nat.reduceBEq, Nat.reduceAdd, Nat.reduceSub, Nat.reduceLeDiff, Nat.reduceEqDiff, Nat.reduceLT, reduceCtorEq, Int.natCast_zero, Aw.pos]) (by simp (config := { maxSteps := 2000000 }) only [go_sem, ↓reduceIte, Int.reduceToNat, Nat.reduceMul, Int.reduceBEq, Int.reduceBNe, Nat.reduceBEq, Nat.reduceAdd, Nat.reduceSub, Nat.reduceLeDiff, Nat.reduceEqDiff, Nat.reduceLT, reduceCtorEq, Aw.renR, Aw.pos] <;> rfl)⟩ ?_
  rintro k s ⟨i, met3, hik, hml, hc, hw⟩
  refine AWp.weak hw (AWp.ofD [] [] hn mixed rfl ?_)
  rcases Nat.lt_or_ge i n.brs.l.length with hlt | hge
  · have e0 : decide ((i : Int) < (n.brs.l.length : Int)) = true := decide_eq_true (by omega)
    have e1 := getD_map brc hlt
    have e2 : IntKind.i64.wrap ((i : Int) + 1) = ((i + 1 : Nat) : Int) := by rw [w64 (by omega) (by omega)]; omega
    rw [map_drop braI hlt] at hc
    have hx := hk.brs _ (List.getElem_mem hlt)
    generalize n.brs.l[i] = x at e1 hc hx
    simp (config := { maxSteps := 2000000 }) only [go_sem, ↓reduceIte, Int.reduceToNat, Nat.reduceMul, Int.reduceBEq, Int.reduceBNe, Nat.reduceBEq, Nat.reduceAdd, Nat.reduceSub, Nat.reduceLeDiff, Nat.reduceEqDiff, Nat.reduceLT, reduceCtorEq, e0, e1]
    (repeat (refine And.intro (by first | omega | (refine ⟨by omega, by omega⟩) | (refine ⟨by omega, by omega, by omega⟩) | (simp only [List.length_map, List.length_range, List.length_append, List.length_cons, List.length_nil, List.length_replicate, List.length_set]; omega) | (simp; omega) | (intro hgd; cases hgd) | (intro hgd; refine ⟨hgd, ?_⟩; first | omega | (refine ⟨by omega, by omega⟩) | (simp; omega))) ?_))

    refine AWpL.weak (weak_freeze 4 rfl (pin 4) (by simp (config := { maxSteps := 2000000 }) only [go_sem, ↓reduceIte, Int.reduceToNat, Nat.reduceMul, Int.reduceBEq, Int.reduceBNe, Nat.reduceBEq, Nat.reduceAdd, Nat.reduceSub, Nat.reduceLeDiff, Nat.reduceEqDiff, Nat.reduceLT, reduceCtorEq, Nat.le_refl])) (AWpL.ofM hn rfl ?_)
    simp (config := { maxSteps := 2000000 }) only [go_sem, ↓reduceIte, Int.reduceToNat, Nat.reduceMul, Int.reduceBEq, Int.reduceBNe, Nat.reduceBEq, Nat.reduceAdd, Nat.reduceSub, Nat.reduceLeDiff, Nat.reduceEqDiff, Nat.reduceLT, reduceCtorEq]
    refine AWpL.callA [1, 2] (s24 n met3 x.name none true (braI x).ends hk.nlen hx (by omega) (by simp [braI])) rfl rfl (by rw [hn]; rfl) rfl (fun r hr => .inr (pin r)) fun rg v hv => ?_
    obtain ⟨rfl, rfl⟩ := hv
    refine ⟨Nat.le_refl _, AWpL.ofM hn rfl ?_⟩
    simp (config := { maxSteps := 2000000 }) only [go_sem, ↓reduceIte, Int.reduceToNat, Nat.reduceMul, Int.reduceBEq, Int.reduceBNe, Nat.reduceBEq, Nat.reduceAdd, Nat.reduceSub, Nat.reduceLeDiff, Nat.reduceEqDiff, Nat.reduceLT, reduceCtorEq, Aw.retS, Aw.retRg, Aw.kpM, Aw.bkM, Aw.pos, Aw.isBox]
    simp only [bne_iff_ne, ne_eq, bne_eq_false_iff_eq]
    refine ⟨fun h => ?_, fun h => ?_⟩
    · rw [hN, hc, itemsE_dev (x := braI x) h]
      rfl
    rw [addL_dev h]

    have hB : (braI x).e = if seq x.a x.b = true then 3 else braE x := rfl
    refine ⟨fun h2 => ?_, fun h2 => ?_⟩
    · rw [if_pos (show seq x.a x.b = true from h2)] at hB
      rw [hN, hc, itemsE_e (x := braI x) h (by rw [hB]; decide), hB]
    rw [if_neg (by show ¬ seq x.a x.b = true; unfold seq; rw [h2]; decide)] at hB
    (refine AWpL.calle (s25 x) rfl (by rw [hn]; rfl) (by simp (config := { maxSteps := 2000000 }) only [go_sem, ↓reduceIte, Int.reduceToNat, Nat.reduceMul, Int.reduceBEq, Int.reduceBNe, Nat.reduceBEq, Nat.reduceAdd, Nat.reduceSub, Nat.reduceLeDiff, Nat.reduceEqDiff, Nat.reduceLT, reduceCtorEq]) (AWpL.ofM hn rfl ?_); simp (config := { maxSteps := 2000000 }) only [go_sem, ↓reduceIte, Int.reduceToNat, Nat.reduceMul, Int.reduceBEq, Int.reduceBNe, Nat.reduceBEq, Nat.reduceAdd, Nat.reduceSub, Nat.reduceLeDiff, Nat.reduceEqDiff, Nat.reduceLT, reduceCtorEq])
    simp only [bne_iff_ne, ne_eq, bne_eq_false_iff_eq]
    refine ⟨fun h3 => ?_, fun h3 => ?_⟩
    · rw [hN, hc, itemsE_e (x := braI x) h (by rw [hB]; exact h3), hB]
    rw [itemsE_ok (x := braI x) h (by rw [hB]; exact h3)] at hc
    rw [e2]
    exact ⟨k - 1, by omega, i + 1, met3 ++ [x.name], by omega, by rw [List.length_append, List.length_singleton]; omega, hc, weak_to [0, 1, 2] hp hnp rfl (by simp (config := { maxSteps := 2000000 }) only [go_sem, ↓reduceIte, Int.reduceToNat, Nat.reduceMul, Int.reduceBEq, Int.reduceBNe, Nat.reduceBEq, Nat.reduceAdd, Nat.reduceSub, Nat.reduceLeDiff, Nat.reduceEqDiff, Nat.reduceLT, reduceCtorEq, Aw.pos]) (by simp (config := { maxSteps := 2000000 }) only [go_sem, ↓reduceIte, Int.reduceToNat, Nat.reduceMul, Int.reduceBEq, Int.reduceBNe, Nat.reduceBEq, Nat.reduceAdd, Nat.reduceSub, Nat.reduceLeDiff, Nat.reduceEqDiff, Nat.reduceLT, reduceCtorEq, Aw.renR, Aw.pos])⟩
  have e0 : decide ((i : Int) < (n.brs.l.length : Int)) = false := decide_eq_false (by omega)
  simp (config := { maxSteps := 2000000 }) only [go_sem, ↓reduceIte, Int.reduceToNat, Nat.reduceMul, Int.reduceBEq, Int.reduceBNe, Nat.reduceBEq, Nat.reduceAdd, Nat.reduceSub, Nat.reduceLeDiff, Nat.reduceEqDiff, Nat.reduceLT, reduceCtorEq, e0]
  rw [map_dropE braI hge] at hc
  have hml2 : met3.length ≤ met2.length + n.brs.l.length := by omega
  clear hw hml hik hge e0 hall
  have hall := hc
  clear hc

  refine AWpL.callA [1, 2] (s26 n met3 hk l4 l5 l6 (by omega)) rfl rfl (by rw [hn]; rfl) rfl (fun r hr => .inr (pin r)) fun rg v hv => ?_
  obtain ⟨l', rfl, rfl⟩ := hv
  refine ⟨Nat.le_refl _, AWpL.ofM hn rfl ?_⟩
  simp (config := { maxSteps := 2000000 }) only [go_sem, ↓reduceIte, Int.reduceToNat, Nat.reduceMul, Int.reduceBEq, Int.reduceBNe, Nat.reduceBEq, Nat.reduceAdd, Nat.reduceSub, Nat.reduceLeDiff, Nat.reduceEqDiff, Nat.reduceLT, reduceCtorEq, Aw.retS, Aw.retRg, Aw.kpM, Aw.bkM, Aw.pos, Aw.isBox]
  rw [hN, hall]
def nodeE (n : Net) (name : ByteArray) : Int := if netF n ≠ 0 then netF n else if sIndex name 0 n.nodes.l < 0 then 6 else 0
def nodeI (n : Net) (name : ByteArray) : Int := if nodeE n name = 0 then sIndex name 0 n.nodes.l else 0
theorem s19 (n : Net) (hk : NetOk n) (name : ByteArray) : Aw.Spec Try.prog 19 [] [neta n, S name] (Gives (· = .tup [I (nodeI n name), I (nodeE n name)])) := by
  refine Aw.Spec.givesD k19 mixed rfl rfl rfl fun E hn hnp hp => ?_
  unfold a19
  have hE : nodeE n name = if netF n ≠ 0 then netF n else if sIndex name 0 n.nodes.l < 0 then 6 else 0 := rfl
  have hI : nodeI n name = if nodeE n name = 0 then sIndex name 0 n.nodes.l else 0 := rfl
  simp (config := { maxSteps := 2000000 }) only [go_sem, ↓reduceIte, Int.reduceToNat, Nat.reduceMul, Int.reduceBEq, Int.reduceBNe, Nat.reduceBEq, Nat.reduceAdd, Nat.reduceSub, Nat.reduceLeDiff, Nat.reduceEqDiff, Nat.reduceLT, reduceCtorEq]
  (refine AWpL.calle (s6 n hk) rfl (by rw [hn]; rfl) (by simp (config := { maxSteps := 2000000 }) only [go_sem, ↓reduceIte, Int.reduceToNat, Nat.reduceMul, Int.reduceBEq, Int.reduceBNe, Nat.reduceBEq, Nat.reduceAdd, Nat.reduceSub, Nat.reduceLeDiff, Nat.reduceEqDiff, Nat.reduceLT, reduceCtorEq]) (AWpL.ofM hn rfl ?_); simp (config := { maxSteps := 2000000 }) only [go_sem, ↓reduceIte, Int.reduceToNat, Nat.reduceMul, Int.reduceBEq, Int.reduceBNe, Nat.reduceBEq, Nat.reduceAdd, Nat.reduceSub, Nat.reduceLeDiff, Nat.reduceEqDiff, Nat.reduceLT, reduceCtorEq])
  simp only [bne_iff_ne, ne_eq, bne_eq_false_iff_eq]
  refine ⟨fun h => ?_, fun h => ?_⟩
  · rw [if_pos h] at hE
    rw [hI, hE, if_neg h]
  rw [if_neg (by simpa using h)] at hE
  (refine AWpL.calle (s36 n.nodes.nl n.nodes.fl n.nodes.l name hk.nlen) rfl (by rw [hn]; rfl) (by simp (config := { maxSteps := 2000000 }) only [go_sem, ↓reduceIte, Int.reduceToNat, Nat.reduceMul, Int.reduceBEq, Int.reduceBNe, Nat.reduceBEq, Nat.reduceAdd, Nat.reduceSub, Nat.reduceLeDiff, Nat.reduceEqDiff, Nat.reduceLT, reduceCtorEq]) (AWpL.ofM hn rfl ?_); simp (config := { maxSteps := 2000000 }) only [go_sem, ↓reduceIte, Int.reduceToNat, Nat.reduceMul, Int.reduceBEq, Int.reduceBNe, Nat.reduceBEq, Nat.reduceAdd, Nat.reduceSub, Nat.reduceLeDiff, Nat.reduceEqDiff, Nat.reduceLT, reduceCtorEq])
  simp only [decide_eq_true_eq, decide_eq_false_iff_not]
  refine ⟨fun h2 => ?_, fun h2 => ?_⟩
  · rw [if_pos h2] at hE
    rw [hI, hE, if_neg (by decide)]
  · rw [if_neg h2] at hE
    rw [hI, hE, if_pos rfl]
end Go.Proofs.Ytmginfhlohenhaa
