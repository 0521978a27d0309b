/- Islands: Lack and Share. -/
import Derived.Test.YtmkodhpbjedfkaaAwZh
import Derived.Test.YtmkodhpbjedfkaaIslA
set_option linter.unusedVariables false
set_option linter.unusedSimpArgs false
namespace Go.Proofs.Ytmkodhpbjedfkaa
open Go.Proofs.Ytmkodhpbjedfkaa.Aw
attribute [local go_sem] Int.natCast_zero Int.natCast_one bne_self_eq_false beq_self_eq_true Bool.not_true Bool.not_false Option.isSome_none Option.isSome_some Aw.bkM_nil Option.getD_some Option.getD_none Nat.sub_zero Int.toNat_zero Aw.frzS Aw.frzT Aw.frzA Aw.frzL Aw.frzR Aw.frzO Aw.frzOL Aw.frzOT Aw.frzOR Aw.killS Aw.mapT Aw.mapR Aw.killM Aw.resAVs Aw.resAV Aw.quietOps Aw.wpP Aw.wpT Aw.wpS Aw.AOp.mild List.getElem?_cons_zero List.getElem?_cons_succ Bool.and_false Bool.and_self Bool.false_and Aw.opOb Aw.gdB Aw.Rnd Aw.subTm List.length_map Int.toNat_natCast and_self Aw.SeqC Aw.stops Aw.Ends Aw.looks Aw.renA Aw.renL Aw.renT Aw.renS Aw.wpO Aw.aop Aw.putTm Aw.St.ev Aw.St.put Aw.St.putO Aw.binAV Aw.intBin Aw.strBin Aw.pickAV Aw.optInt Aw.AV.strip Aw.AV.guard Aw.AV.cells Aw.gdOb Aw.AOp.opds Aw.AOp.still Aw.ptrCells Aw.St.reg Aw.fillAV Aw.fillOb Aw.elsOb Aw.splice Aw.firm Aw.cellish Aw.AV.shut Aw.shutAll Aw.Seq Aw.Blk Aw.retS_nil Aw.mapA Aw.mapL Aw.borA Aw.borOb Aw.allOb Aw.tupOf Aw.params Aw.Opd.of Array.toList Value.cells List.map_cons List.map_nil List.getD_cons_zero List.getD_cons_succ List.getD_nil List.length_cons List.length_nil List.take_succ_cons List.take_zero List.take_nil List.drop_zero List.drop_succ_cons List.drop_nil List.set_cons_zero List.set_cons_succ List.append_nil List.nil_append List.cons_append List.all_cons List.all_nil cond_false cond_true if_true if_false true_and and_true Bool.and_true Bool.true_and Option.map_some Option.map_none false_implies forall_const implies_true forall_eq imp_self Bool.cond_false_right Bool.cond_true_left beq_true beq_false Bool.not_eq_true' Bool.false_eq_true Nat.zero_add Nat.add_zero Aw.eqCells Aw.stopDraw Aw.skipS Aw.exactCap Aw.revealS Aw.srcEls Aw.srcSz
attribute [local go_sem ↓] Aw.look_nil Aw.look_ite Aw.wpL_nil Aw.wpL_op Aw.wpL_gd Aw.wpQ_nil Aw.wpQ_op Aw.wpQ_gd Aw.wpC_draw Aw.wpC_reg Aw.wpC_skip Aw.wpC_ret Aw.wpC_exit Aw.wpC_seq Aw.wpC_block Aw.wpC_loop Aw.wpC_cond Aw.stopAt_nil Aw.stopAt_cons Aw.wpD_skip Aw.wpD_ret Aw.wpD_exit Aw.wpD_region Aw.wpD_draw Aw.wpM_nil Aw.wpM_op Aw.wpM_gd Aw.wpD_seq Aw.wpD_block Aw.wpD_loop Aw.wpD_cond
/- gridhall/islands.Lack -/
def a9 : ACode :=
  (.seq (.region false [] [
     ⟨(some 1), none, (.box 29 (.t 0))⟩,
     ⟨(some 2), none, (.mov (.v (.slice none 0 0)))⟩,
     ⟨(some 3), none, (.mov (.v (.int .i64 0)))⟩])
  (.seq (.region false [] [
     ⟨(some 10), none, (.load 6 true (.t 1))⟩,
     ⟨(some 11), none, (.call 7 [(.t 10)])⟩,
     ⟨(some 9), none, (.mov (.t 11))⟩,
     ⟨(some 12), none, (.ext 0 (.t 9))⟩,
     ⟨(some 13), none, (.ext 1 (.t 9))⟩,
     ⟨(some 4), none, (.mov (.t 12))⟩,
     ⟨(some 5), none, (.mov (.t 13))⟩])
  (.seq (.seq (.region false [] [
     ⟨(some 14), none, (.mov (.t 5))⟩,
     ⟨(some 15), none, (.bin .neq 31 (.t 14) (.v (.int .i64 0)))⟩])
  (.cond (.t 15)
    (.seq (.region false [] [
       ⟨(some 16), none, (.mov (.t 5))⟩,
       ⟨(some 2), none, (.mov (.v (.slice none 0 0)))⟩,
       ⟨(some 3), none, (.mov (.t 16))⟩])
    .ret)
    .skip))
  (.seq (.region false [] [
     ⟨(some 6), none, (.mov (.v (.slice none 0 0)))⟩])
  (.seq (.seq (.region false [] [
     ⟨(some 17), none, (.mov (.t 4))⟩,
     ⟨(some 18), none, (.len (.t 17))⟩,
     ⟨(some 19), none, (.mov (.v (.int .i64 0)))⟩])
  (.block 0 (.loop (.seq (.region false [] [
       ⟨(some 20), none, (.bin .lss 3 (.t 19) (.t 18))⟩])
    (.seq (.cond (.t 20)
      .skip
      (.exit 0))
    (.seq (.block 1 (.seq (.region false [] [
        ⟨(some 21), none, (.idx 3 (.t 17) (.t 19))⟩,
        ⟨(some 22), none, (.load 3 true (.t 21))⟩,
        ⟨(some 8), none, (.alloc 41 (.agg #[(.int .i64 0), (.int .i64 0), (.int .i64 0)]))⟩,
        ⟨none, none, (.store 3 (.t 8) (.t 22))⟩])
     (.region false [] [
        ⟨(some 23), none, (.mov (.t 6))⟩,
        ⟨(some 24), none, (.fld 2 (.t 8))⟩,
        ⟨(some 25), none, (.load 1 false (.t 24))⟩,
        ⟨(some 26), none, (.fld 1 (.t 8))⟩,
        ⟨(some 27), none, (.load 1 false (.t 26))⟩,
        ⟨(some 28), none, (.bin .sub 3 (.t 25) (.t 27))⟩,
        ⟨(some 29), none, (.mxi (.v (.int .i64 0)) (.t 28))⟩,
        ⟨(some 30), none, (.bsl 3 1 1 [(0, (.t 29))])⟩,
        ⟨(some 31), none, (.app 3 1 8 (.int .i64 0) (.t 23) (.t 30))⟩,
        ⟨(some 6), none, (.mov (.t 31))⟩])))
    (.region false [] [
       ⟨(some 32), none, (.bin .add 3 (.t 19) (.v (.int .i64 1)))⟩,
       ⟨(some 19), none, (.mov (.t 32))⟩])))))))
  (.seq (.region false [] [
     ⟨(some 33), none, (.mov (.t 6))⟩,
     ⟨(some 2), none, (.mov (.t 33))⟩,
     ⟨(some 3), none, (.mov (.v (.int .i64 0)))⟩])
  .ret))))))
theorem k9 : FnIs Try.prog 9 34 [.t 2, .t 3] a9 := ⟨_, _, Try.func9, rfl, by kernel_rfl, by kernel_rfl, rfl⟩
/- gridhall/islands.Share -/
def a6 : ACode :=
  (.seq (.region false [] [
     ⟨(some 1), none, (.box 29 (.t 0))⟩,
     ⟨(some 2), none, (.mov (.v (.slice none 0 0)))⟩,
     ⟨(some 3), none, (.mov (.v (.int .i64 0)))⟩])
  (.seq (.region false [] [
     ⟨(some 16), none, (.load 6 true (.t 1))⟩,
     ⟨(some 17), none, (.call 7 [(.t 16)])⟩,
     ⟨(some 15), none, (.mov (.t 17))⟩,
     ⟨(some 18), none, (.ext 0 (.t 15))⟩,
     ⟨(some 19), none, (.ext 1 (.t 15))⟩,
     ⟨(some 4), none, (.mov (.t 18))⟩,
     ⟨(some 5), none, (.mov (.t 19))⟩])
  (.seq (.seq (.region false [] [
     ⟨(some 20), none, (.mov (.t 5))⟩,
     ⟨(some 21), none, (.bin .neq 31 (.t 20) (.v (.int .i64 0)))⟩])
  (.cond (.t 21)
    (.seq (.region false [] [
       ⟨(some 22), none, (.mov (.t 5))⟩,
       ⟨(some 2), none, (.mov (.v (.slice none 0 0)))⟩,
       ⟨(some 3), none, (.mov (.t 22))⟩])
    .ret)
    .skip))
  (.seq (.region false [] [
     ⟨(some 24), none, (.load 6 true (.t 1))⟩,
     ⟨(some 25), none, (.call 16 [(.t 24)])⟩,
     ⟨(some 23), none, (.mov (.t 25))⟩,
     ⟨(some 26), none, (.ext 0 (.t 23))⟩,
     ⟨(some 27), none, (.ext 1 (.t 23))⟩,
     ⟨(some 6), none, (.mov (.t 26))⟩,
     ⟨(some 7), none, (.mov (.t 27))⟩])
  (.seq (.region false [] [
     ⟨(some 8), none, (.mov (.v (.slice none 0 0)))⟩])
  (.seq (.seq (.region false [] [
     ⟨(some 28), none, (.fld 3 (.t 1))⟩,
     ⟨(some 29), none, (.load 1 false (.t 28))⟩,
     ⟨(some 30), none, (.len (.t 29))⟩,
     ⟨(some 31), none, (.mov (.v (.int .i64 0)))⟩])
  (.block 0 (.loop (.seq (.region false [] [
       ⟨(some 32), none, (.bin .lss 3 (.t 31) (.t 30))⟩])
    (.seq (.cond (.t 32)
      .skip
      (.exit 0))
    (.seq (.block 1 (.seq (.region false [] [
        ⟨(some 33), none, (.idx 5 (.t 29) (.t 31))⟩,
        ⟨(some 34), none, (.load 5 true (.t 33))⟩,
        ⟨(some 10), none, (.alloc 39 (.agg #[(.string ⟨#[]⟩), (.string ⟨#[]⟩), (.int .i64 0), (.int .i64 0), (.int .i64 0)]))⟩,
        ⟨none, none, (.store 5 (.t 10) (.t 34))⟩])
     (.seq (.region false [] [
        ⟨(some 35), none, (.mov (.t 4))⟩,
        ⟨(some 36), none, (.load 6 true (.t 1))⟩,
        ⟨(some 37), none, (.mov (.t 6))⟩,
        ⟨(some 38), none, (.fld 1 (.t 10))⟩,
        ⟨(some 39), none, (.load 1 false (.t 38))⟩,
        ⟨(some 40), none, (.call 17 [(.t 36), (.t 37), (.t 39)])⟩,
        ⟨(some 41), none, (.idx 3 (.t 35) (.t 40))⟩,
        ⟨(some 11), none, (.mov (.t 41))⟩])
     (.seq (.region false [] [
        ⟨(some 12), none, (.mov (.v (.int .i64 0)))⟩])
     (.seq (.seq (.region true [[], [0], [1], [2], [], [4], [3, 5]] [
        ⟨(some 42), none, (.mov (.t 11))⟩,
        ⟨(some 43), none, (.nilc (.t 42))⟩,
        ⟨(some 44), none, (.fld 2 (.t 43))⟩,
        ⟨(some 45), none, (.load 1 false (.t 44))⟩,
        ⟨(some 46), none, (.fld 2 (.t 10))⟩,
        ⟨(some 47), none, (.load 1 false (.t 46))⟩,
        ⟨(some 48), none, (.bin .geq 3 (.t 45) (.t 47))⟩])
     (.cond (.t 48)
       (.region true [[], [0], [], [2], [3], [4], [1, 5], [6, 0, 1, 2, 3, 4, 5, 6]] [
          ⟨(some 49), none, (.fld 3 (.t 10))⟩,
          ⟨(some 50), none, (.load 1 false (.t 49))⟩,
          ⟨(some 51), none, (.mov (.t 11))⟩,
          ⟨(some 52), none, (.nilc (.t 51))⟩,
          ⟨(some 53), none, (.fld 2 (.t 52))⟩,
          ⟨(some 54), none, (.load 1 false (.t 53))⟩,
          ⟨(some 55), none, (.mni (.t 50) (.t 54))⟩,
          ⟨(some 12), none, (.mov (.t 55))⟩])
       .skip))
     (.seq (.region false [] [
        ⟨(some 56), none, (.mov (.t 11))⟩,
        ⟨(some 57), none, (.nilc (.t 56))⟩,
        ⟨(some 58), none, (.fld 2 (.t 57))⟩,
        ⟨(some 59), none, (.load 1 false (.t 58))⟩,
        ⟨(some 60), none, (.mov (.t 12))⟩,
        ⟨(some 61), none, (.bin .sub 3 (.t 59) (.t 60))⟩,
        ⟨(some 62), none, (.nilc (.t 56))⟩,
        ⟨(some 63), none, (.fld 2 (.t 62))⟩,
        ⟨none, none, (.store 1 (.t 63) (.t 61))⟩])
     (.region false [] [
        ⟨(some 64), none, (.mov (.t 8))⟩,
        ⟨(some 65), none, (.mov (.t 12))⟩,
        ⟨(some 66), none, (.bsl 3 1 1 [(0, (.t 65))])⟩,
        ⟨(some 67), none, (.app 3 1 8 (.int .i64 0) (.t 64) (.t 66))⟩,
        ⟨(some 8), none, (.mov (.t 67))⟩])))))))
    (.region false [] [
       ⟨(some 68), none, (.bin .add 3 (.t 31) (.v (.int .i64 1)))⟩,
       ⟨(some 31), none, (.mov (.t 68))⟩])))))))
  (.seq (.seq (.region false [] [
     ⟨(some 69), none, (.mov (.t 4))⟩,
     ⟨(some 70), none, (.len (.t 69))⟩,
     ⟨(some 71), none, (.mov (.v (.int .i64 0)))⟩])
  (.block 2 (.loop (.seq (.region false [] [
       ⟨(some 72), none, (.bin .lss 3 (.t 71) (.t 70))⟩])
    (.seq (.cond (.t 72)
      .skip
      (.exit 2))
    (.seq (.block 3 (.seq (.region false [] [
        ⟨(some 73), none, (.idx 3 (.t 69) (.t 71))⟩,
        ⟨(some 74), none, (.load 3 true (.t 73))⟩,
        ⟨(some 14), none, (.alloc 41 (.agg #[(.int .i64 0), (.int .i64 0), (.int .i64 0)]))⟩,
        ⟨none, none, (.store 3 (.t 14) (.t 74))⟩])
     (.seq (.region false [] [
        ⟨(some 75), none, (.fld 2 (.t 14))⟩,
        ⟨(some 76), none, (.load 1 false (.t 75))⟩,
        ⟨(some 77), none, (.bin .gtr 3 (.t 76) (.v (.int .i64 0)))⟩])
     (.cond (.t 77)
       (.seq (.region false [] [
          ⟨(some 2), none, (.mov (.v (.slice none 0 0)))⟩,
          ⟨(some 3), none, (.mov (.v (.int .i64 14)))⟩])
       .ret)
       .skip))))
    (.region false [] [
       ⟨(some 78), none, (.bin .add 3 (.t 71) (.v (.int .i64 1)))⟩,
       ⟨(some 71), none, (.mov (.t 78))⟩])))))))
  (.seq (.region false [] [
     ⟨(some 79), none, (.mov (.t 8))⟩,
     ⟨(some 2), none, (.mov (.t 79))⟩,
     ⟨(some 3), none, (.mov (.v (.int .i64 0)))⟩])
  .ret))))))))
theorem k6 : FnIs Try.prog 6 80 [.t 2, .t 3] a6 := ⟨_, _, Try.func6, rfl, by kernel_rfl, by kernel_rfl, rfl⟩

def lackS (s : Sm) : Int := max 0 (s.demand - s.most)
def lackL (n : Net) : List Int := if netF n = 0 then (sumsF n).map lackS else []
theorem sumsF_ok {n : Net} (hv : NetV n) : (sumsF n).length = (manyF n).toNat ∧ ∀ k, k < (manyF n).toNat → SmB 10 12 ((sumsF n).getD k default) := by
  obtain ⟨h1, h2⟩ := sumsL_ok hv n.loads.l.length (Nat.le_refl _)
  refine ⟨h1, fun k hk => ?_⟩
  have := h2 k hk
  have h10 := hv.nge
  have h12 := hv.nlo
  unfold sumsF
  unfold SmB at *
  omega
theorem sumsF_mem {n : Net} (hv : NetV n) {s : Sm} (h : s ∈ sumsF n) : SmB 10 12 s := by
  obtain ⟨i, hi, rfl⟩ := List.mem_iff_getElem.1 h
  obtain ⟨h1, h2⟩ := sumsF_ok hv
  have := h2 i (by omega)
  rwa [List.getD_eq_getElem?_getD, List.getElem?_eq_getElem hi] at this
set_option maxRecDepth 20000 in
set_option maxHeartbeats 1000000 in
theorem s9 (n : Net) (hk : NetOk n) : Aw.Spec Try.prog 9 [] [neta n] (fun rg v => rg = [] ∧ v = .tup [.imm none false 1 ((lackL n).map ic), I (netF n)]) := by
  refine Aw.Spec.regsW k9 rfl rfl fun E hn hnp hp => ?_
  unfold a9
  have pin : ∀ r, E.pin r = none := fun r => hp.none hnp (Nat.zero_le _)
  have hL : lackL n = if netF n = 0 then (sumsF n).map lackS else [] := rfl
  refine AWp.ofD [] [] hn mixed rfl ?_
  simp (config := { maxSteps := 2000000 }) only [go_sem, ↓reduceIte, Int.reduceToNat, Nat.reduceMul, Int.reduceBEq, Int.reduceBNe, Nat.reduceBEq, Nat.reduceAdd, Nat.reduceSub, Nat.reduceLeDiff, Nat.reduceEqDiff, Nat.reduceLT, reduceCtorEq]
  refine AWpL.callA [] (s7 n hk) rfl rfl (by rw [hn]; rfl) rfl (fun r hr => by cases hr) fun rg v hv' => ?_
  refine ⟨Nat.zero_le _, ?_⟩
  by_cases h0 : netF n = 0
  · obtain ⟨rfl, rfl⟩ := hv'.2 h0
    rw [if_pos h0] at hL
    have hv := netF_zero.1 h0
    have hml := many_le hv
    obtain ⟨hsl, hsb⟩ := sumsF_ok hv
    clear hv'
    generalize hM : (manyF n).toNat = M at *
    rw [retS_new]
    refine AWpL.weak (weak_freeze 1 rfl (pin 1) ?_) (AWpL.ofM hn rfl ?_)
    · simp (config := { maxSteps := 2000000 }) only [go_sem, ↓reduceIte, Int.reduceToNat, Nat.reduceMul, Int.reduceBEq, Int.reduceBNe, Nat.reduceBEq, Nat.reduceAdd, Nat.reduceSub, Nat.reduceLeDiff, Nat.reduceEqDiff, Nat.reduceLT, reduceCtorEq, Nat.le_refl, List.length_map, hsl]
    have htk : ((sumsF n).map smc).take M = (sumsF n).map smc := List.take_of_length_le (by rw [List.length_map, hsl]; exact Nat.le_refl _)
    simp (config := { maxSteps := 2000000 }) only [go_sem, ↓reduceIte, Int.reduceToNat, Nat.reduceMul, Int.reduceBEq, Int.reduceBNe, Nat.reduceBEq, Nat.reduceAdd, Nat.reduceSub, Nat.reduceLeDiff, Nat.reduceEqDiff, Nat.reduceLT, reduceCtorEq, htk]
    refine AWp.weak (weak_nil 6 3 1 rfl) ?_
    have hmap : ∀ i, ((sumsF n).map lackS).take (i + 1) = ((sumsF n).map lackS).take i ++ (if h : i < (sumsF n).length then [lackS (sumsF n)[i]] else []) := fun i => by
      split
      · rename_i h
        rw [take_get (by rw [List.length_map]; exact h), List.getElem_map]
      · rename_i h
        rw [List.take_of_length_le (by rw [List.length_map]; omega), List.take_of_length_le (by rw [List.length_map]; omega), List.append_nil]
    refine AWp.loop (fun k s => ∃ i : Nat, i + k = M ∧ Weak E s ⟨[(6, .hnd 0 0 i i false), (17, .imm none true 3 ((sumsF n).map smc)), (18, I M), (19, I i)], [.arr 3 1 ((((sumsF n).map lackS).take i).map ic)]⟩) (n := M)
      ⟨0, by omega, weak_to [2] hp hnp rfl (by simp (config := { maxSteps := 2000000 }) only [go_sem, ↓reduceIte, Int.reduceToNat, Nat.reduceMul, Int.reduceBEq, Int.reduceBNe, Nat.reduceBEq, Nat.reduceAdd, Nat.reduceSub, Nat.reduceLeDiff, Nat.reduceEqDiff, Nat.reduceLT, reduceCtorEq, Int.natCast_zero, Aw.pos, hsl]) (by simp (config := { maxSteps := 2000000 }) only [go_sem, ↓reduceIte, Int.reduceToNat, Nat.reduceMul, Int.reduceBEq, Int.reduceBNe, Nat.reduceBEq, Nat.reduceAdd, Nat.reduceSub, Nat.reduceLeDiff, Nat.reduceEqDiff, Nat.reduceLT, reduceCtorEq, Aw.renR, Aw.pos])⟩ ?_
    rintro k s ⟨i, hik, hw⟩
    refine AWp.weak hw (AWp.ofD [] [] hn mixed rfl ?_)
    rcases Nat.lt_or_ge i M with hlt | hge
    · have e0 : decide ((i : Int) < (M : Int)) = true := decide_eq_true (by omega)
      have e1 := getD_map (l := sumsF n) smc (i := i) (by omega)
      have e2 : IntKind.i64.wrap ((i : Int) + 1) = ((i + 1 : Nat) : Int) := by rw [w64 (by omega) (by omega)]; omega
      have hb := sumsF_mem hv (List.getElem_mem (l := sumsF n) (n := i) (by omega))
      have ht := hmap i
      rw [dif_pos (by omega)] at ht
      have htl : (((sumsF n).map lackS).take i).length = i := by rw [List.length_take, List.length_map]; omega
      have hlk : lackS (sumsF n)[i] = max 0 ((sumsF n)[i].demand - (sumsF n)[i].most) := rfl
      generalize (sumsF n)[i] = x at *
      unfold SmB at hb
      have e3 : IntKind.i64.wrap (x.demand - x.most) = x.demand - x.most := w64 (by omega) (by omega)
      simp (config := { maxSteps := 2000000 }) only [go_sem, ↓reduceIte, Int.reduceToNat, Nat.reduceMul, Int.reduceBEq, Int.reduceBNe, Nat.reduceBEq, Nat.reduceAdd, Nat.reduceSub, Nat.reduceLeDiff, Nat.reduceEqDiff, Nat.reduceLT, reduceCtorEq, e0, e1, e3]
      refine ⟨⟨by omega, by omega⟩, ?_⟩
      refine AWpL.app (r := 0) (els := (((sumsF n).map lackS).take i).map ic) (ys := [ic (lackS x)]) rfl rfl rfl rfl (by rw [hn]; rfl) (by rw [List.length_map]; omega) (pin 0) (Nat.le_refl 1) (fun el hm y hy => by
        rw [List.mem_singleton.1 hm] at hy
        rw [List.mem_singleton.1 hy]; rfl) (by simp only [List.length_cons, List.length_nil]; omega) (by simp only [List.length_cons, List.length_nil]; omega) (AWpL.ofM hn rfl ?_)
      have hap : (((sumsF n).map lackS).take i).map ic ++ [ic (lackS x)] = (((sumsF n).map lackS).take (i + 1)).map ic := by rw [ht, List.map_append]; rfl
      simp (config := { maxSteps := 2000000 }) only [go_sem, ↓reduceIte, Int.reduceToNat, Nat.reduceMul, Int.reduceBEq, Int.reduceBNe, Nat.reduceBEq, Nat.reduceAdd, Nat.reduceSub, Nat.reduceLeDiff, Nat.reduceEqDiff, Nat.reduceLT, reduceCtorEq, hap, e2]
      exact ⟨k - 1, by omega, i + 1, by omega, weak_to [0] hp hnp rfl (by simp (config := { maxSteps := 2000000 }) only [go_sem, ↓reduceIte, Int.reduceToNat, Nat.reduceMul, Int.reduceBEq, Int.reduceBNe, Nat.reduceBEq, Nat.reduceAdd, Nat.reduceSub, Nat.reduceLeDiff, Nat.reduceEqDiff, Nat.reduceLT, reduceCtorEq, Aw.pos]) (by simp (config := { maxSteps := 2000000 }) only [go_sem, ↓reduceIte, Int.reduceToNat, Nat.reduceMul, Int.reduceBEq, Int.reduceBNe, Nat.reduceBEq, Nat.reduceAdd, Nat.reduceSub, Nat.reduceLeDiff, Nat.reduceEqDiff, Nat.reduceLT, reduceCtorEq, Aw.renR, Aw.pos])⟩
    · have e0 : decide ((i : Int) < (M : Int)) = false := decide_eq_false (by omega)
      obtain rfl : i = M := by omega
      have ht : ((sumsF n).map lackS).take i = (sumsF n).map lackS := List.take_of_length_le (by rw [List.length_map]; omega)
      simp (config := { maxSteps := 2000000 }) only [go_sem, ↓reduceIte, Int.reduceToNat, Nat.reduceMul, Int.reduceBEq, Int.reduceBNe, Nat.reduceBEq, Nat.reduceAdd, Nat.reduceSub, Nat.reduceLeDiff, Nat.reduceEqDiff, Nat.reduceLT, reduceCtorEq, e0, ht]
      refine Retn.weak (weak_freeze 0 rfl (pin 0) ?_) _ ?_
      · simp (config := { maxSteps := 2000000 }) only [go_sem, ↓reduceIte, Int.reduceToNat, Nat.reduceMul, Int.reduceBEq, Int.reduceBNe, Nat.reduceBEq, Nat.reduceAdd, Nat.reduceSub, Nat.reduceLeDiff, Nat.reduceEqDiff, Nat.reduceLT, reduceCtorEq, Nat.le_refl, List.length_map, hsl]
      refine Retn.ret (π := []) hp hnp ⟨rfl, ?_⟩
      simp (config := { maxSteps := 2000000 }) only [go_sem, ↓reduceIte, Int.reduceToNat, Nat.reduceMul, Int.reduceBEq, Int.reduceBNe, Nat.reduceBEq, Nat.reduceAdd, Nat.reduceSub, Nat.reduceLeDiff, Nat.reduceEqDiff, Nat.reduceLT, reduceCtorEq]
      rw [List.take_of_length_le (by rw [List.length_map, List.length_map, hsl]; exact Nat.le_refl _), hL, h0]
  · obtain ⟨rfl, rfl⟩ := hv'.1 h0
    rw [if_neg h0] at hL
    have h1 : (netF n != 0) = true := by simpa using h0
    rw [retS_nil]
    refine AWpL.ofM hn rfl ?_
    simp (config := { maxSteps := 2000000 }) only [go_sem, ↓reduceIte, Int.reduceToNat, Nat.reduceMul, Int.reduceBEq, Int.reduceBNe, Nat.reduceBEq, Nat.reduceAdd, Nat.reduceSub, Nat.reduceLeDiff, Nat.reduceEqDiff, Nat.reduceLT, reduceCtorEq, h1]
    refine Retn.weak (weak_ent 2 (by rfl) (Ent.ofnil0 1)) _ (Retn.ret (π := []) hp hnp ⟨rfl, ?_⟩)
    simp (config := { maxSteps := 2000000 }) only [go_sem, ↓reduceIte, Int.reduceToNat, Nat.reduceMul, Int.reduceBEq, Int.reduceBNe, Nat.reduceBEq, Nat.reduceAdd, Nat.reduceSub, Nat.reduceLeDiff, Nat.reduceEqDiff, Nat.reduceLT, reduceCtorEq, hL, List.map_nil]
def shP (s : Sm) (g : Gen) : Int := if s.demand ≥ g.least then min g.most s.demand else 0
def subP (s : Sm) (p : Int) : Sm := ⟨s.least, s.most, s.demand - p⟩
def stS (n : Net) (st : List Sm × List Int) (g : Gen) : List Sm × List Int :=
  (upd st.1 (pl n g.node) fun s => subP s (shP s g), st.2 ++ [shP (st.1.getD (pl n g.node) default) g])
def shG (n : Net) (i : Nat) : List Sm × List Int := (n.gens.l.take i).foldl (stS n) (sumsF n, [])
def shareE (n : Net) : Int := if netF n ≠ 0 then netF n else if (shG n n.gens.l.length).1.any (fun s => decide (0 < s.demand)) = true then 14 else 0
def shareL (n : Net) : List Int := if shareE n = 0 then (shG n n.gens.l.length).2 else []
theorem shG_ok {n : Net} (hv : NetV n) : ∀ i, i ≤ n.gens.l.length → (shG n i).1.length = (manyF n).toNat ∧ (shG n i).2.length = i ∧ ∀ k, k < (manyF n).toNat → SmB 10 12 ((shG n i).1.getD k default)
  | 0, _ => ⟨(sumsF_ok hv).1, rfl, (sumsF_ok hv).2⟩
  | i + 1, hi => by
    obtain ⟨h1, h2, h3⟩ := shG_ok hv i (by omega)
    have hx := hv.ge _ (List.getElem_mem (l := n.gens.l) (n := i) (by omega))
    have hs : shG n (i + 1) = stS n (shG n i) (n.gens.l[i]'(by omega)) := foldl_take _ _ (by omega)
    have hp := (pl_ok hv hx.1).2
    have hg := genE_zero hx.2
    rw [hs]
    unfold stS
    refine ⟨by dsimp only; rw [upd_len]; exact h1, by dsimp only; rw [List.length_append]; simp [h2], fun k hk => ?_⟩
    dsimp only
    rw [upd_get (by omega)]
    split
    · have := h3 _ hp
      unfold SmB subP shP at *
      dsimp only
      split <;> omega
    · exact h3 _ hk
theorem any_drop {α : Type} (p : α → Bool) {l : List α} {i : Nat} (h : i < l.length) : (l.drop i).any p = (p l[i] || (l.drop (i + 1)).any p) := by
  rw [List.drop_eq_getElem_cons h, List.any_cons]
set_option maxRecDepth 20000 in
set_option maxHeartbeats 2000000 in
theorem s6 (n : Net) (hk : NetOk n) : Aw.Spec Try.prog 6 [] [neta n] (fun rg v => rg = [] ∧ v = .tup [.imm none false 1 ((shareL n).map ic), I (shareE n)]) := by
  refine Aw.Spec.regsW k6 rfl rfl fun E hn hnp hp => ?_
  unfold a6
  have pin : ∀ r, E.pin r = none := fun r => hp.none hnp (Nat.zero_le _)
  have hS : shareE n = if netF n ≠ 0 then netF n else if (shG n n.gens.l.length).1.any (fun s => decide (0 < s.demand)) = true then 14 else 0 := rfl
  have hL : shareL n = if shareE n = 0 then (shG n n.gens.l.length).2 else [] := rfl
  refine AWp.ofD [] [] hn mixed rfl ?_
  simp (config := { maxSteps := 2000000 }) only [go_sem, ↓reduceIte, Int.reduceToNat, Nat.reduceMul, Int.reduceBEq, Int.reduceBNe, Nat.reduceBEq, Nat.reduceAdd, Nat.reduceSub, Nat.reduceLeDiff, Nat.reduceEqDiff, Nat.reduceLT, reduceCtorEq]
  refine AWpL.callA [] (s7 n hk) rfl rfl (by rw [hn]; rfl) rfl (fun r hr => by cases hr) fun rg v hv' => ?_
  refine ⟨Nat.zero_le _, ?_⟩
  by_cases h0 : netF n = 0
  · obtain ⟨rfl, rfl⟩ := hv'.2 h0
    rw [if_neg (by simpa using h0)] at hS
    have hv := netF_zero.1 h0
    have hml := many_le hv
    obtain ⟨hsl, hsb⟩ := sumsF_ok hv
    have h10 := hv.nge
    have hpl : ∀ {x}, x ∈ n.nodes.l → (placesF n).getD (idx n x) 0 = (pl n x : Int) ∧ pl n x < (manyF n).toNat := fun hx => pl_ok hv hx
    have hok := fun i hi => shG_ok hv i hi
    clear hv'
    generalize hM : (manyF n).toNat = M at *
    rw [retS_new]
    refine AWpL.ofM hn rfl ?_
    simp (config := { maxSteps := 2000000 }) only [go_sem, ↓reduceIte, Int.reduceToNat, Nat.reduceMul, Int.reduceBEq, Int.reduceBNe, Nat.reduceBEq, Nat.reduceAdd, Nat.reduceSub, Nat.reduceLeDiff, Nat.reduceEqDiff, Nat.reduceLT, reduceCtorEq]
    refine AWpL.callA [] (s16 n hk hv) rfl rfl (by rw [hn]; rfl) rfl (fun r hr => by cases hr) fun rg v hv' => ?_
    obtain ⟨rfl, rfl⟩ := hv'
    refine ⟨Nat.zero_le _, ?_⟩
    rw [retS_nil]
    refine AWpL.ofM hn rfl ?_
    simp (config := { maxSteps := 2000000 }) only [go_sem, ↓reduceIte, Int.reduceToNat, Nat.reduceMul, Int.reduceBEq, Int.reduceBNe, Nat.reduceBEq, Nat.reduceAdd, Nat.reduceSub, Nat.reduceLeDiff, Nat.reduceEqDiff, Nat.reduceLT, reduceCtorEq]
    refine AWp.weak (weak_nil 8 3 1 rfl) ?_
    refine AWp.loop (fun k s => ∃ i : Nat, i + k = n.gens.l.length ∧ Weak E s ⟨[(1, .ptr 0 0 0), (4, .hnd 1 0 M M true), (6, .imm none true 1 ((placesF n).map ic)), (8, .hnd 2 0 i i false), (29, n.gens.av 5 gec), (30, I n.gens.l.length), (31, I i)], [.box 29 (netc n), .arr 41 3 ((shG n i).1.map smc), .arr 3 1 ((shG n i).2.map ic)]⟩) (n := n.gens.l.length)
      ⟨0, by omega, weak_to [0, 1, 2] hp hnp rfl (by simp (config := { maxSteps := 2000000 }) only [go_sem, ↓reduceIte, Int.reduceToNat, Nat.reduceMul, Int.reduceBEq, Int.reduceBNe, Nat.reduceBEq, Nat.reduceAdd, Nat.reduceSub, Nat.reduceLeDiff, Nat.reduceEqDiff, Nat.reduceLT, reduceCtorEq, Int.natCast_zero, Aw.pos]) (by simp (config := { maxSteps := 2000000 }) only [go_sem, ↓reduceIte, Int.reduceToNat, Nat.reduceMul, Int.reduceBEq, Int.reduceBNe, Nat.reduceBEq, Nat.reduceAdd, Nat.reduceSub, Nat.reduceLeDiff, Nat.reduceEqDiff, Nat.reduceLT, reduceCtorEq, Aw.renR, Aw.pos]; rfl)⟩ ?_
    rintro k s ⟨i, hik, hw⟩
    refine AWp.weak hw (AWp.ofD [] [] hn mixed rfl ?_)
    rcases Nat.lt_or_ge i n.gens.l.length with hlt | hge
    · have e0 : decide ((i : Int) < (n.gens.l.length : Int)) = true := decide_eq_true (by omega)
      have e1 := getD_map gec hlt
      have e2 : IntKind.i64.wrap ((i : Int) + 1) = ((i + 1 : Nat) : Int) := by rw [w64 (by omega) (by omega)]; omega
      have hx := hv.ge _ (List.getElem_mem hlt)
      have hs : shG n (i + 1) = stS n (shG n i) n.gens.l[i] := foldl_take _ _ hlt
      obtain ⟨hsl2, hsl3, hsb2⟩ := hok i (by omega)
      generalize n.gens.l[i] = x at *
      obtain ⟨hp1, hp2⟩ := hpl hx.1
      have hgx := genE_zero hx.2
      have hb := hsb2 _ hp2
      unfold stS at hs
      generalize shG n i = st at *
      generalize pl n x.node = p at *
      have e3 := getD_mapD default smc (l := st.1) (i := p) (by omega)
      have e4 : IntKind.i64.wrap ((st.1.getD p default).demand - shP (st.1.getD p default) x) = (st.1.getD p default).demand - shP (st.1.getD p default) x := by
        unfold SmB at hb; unfold shP; split <;> exact w64 (by omega) (by omega)
      have hs3 : (shG n (i + 1)).2 = st.2 ++ [shP (st.1.getD p default) x] := by rw [hs]
      have hs4 : (shG n (i + 1)).1 = upd st.1 p fun s => subP s (shP s x) := by rw [hs]
      generalize ha : st.1.getD p default = a at *
      have hsh : shP a x = if a.demand ≥ x.least then min x.most a.demand else 0 := rfl
      have hs2 : (st.1.map smc).set p [I a.least, I a.most, I (a.demand - shP a x)] = (shG n (i + 1)).1.map smc := by
        rw [hs4]
        unfold upd
        rw [ha, List.map_set]; rfl
      have hap : st.2.map ic ++ [ic (shP a x)] = (shG n (i + 1)).2.map ic := by rw [hs3, List.map_append]; rfl
      simp (config := { maxSteps := 2000000 }) only [go_sem, ↓reduceIte, Int.reduceToNat, Nat.reduceMul, Int.reduceBEq, Int.reduceBNe, Nat.reduceBEq, Nat.reduceAdd, Nat.reduceSub, Nat.reduceLeDiff, Nat.reduceEqDiff, Nat.reduceLT, reduceCtorEq, e0, e1]
      (repeat (refine And.intro (by first | omega | (refine ⟨by omega, by omega⟩) | (refine ⟨by omega, by omega, by omega⟩) | (simp only [List.length_map, List.length_range, List.length_append, List.length_cons, List.length_nil, List.length_replicate, List.length_set]; omega) | (simp; omega) | (intro hgd; cases hgd) | (intro hgd; refine ⟨hgd, ?_⟩; first | omega | (refine ⟨by omega, by omega⟩) | (simp; omega))) ?_))
      (refine AWpL.calle (s17 n hk hv x.node hx.1 none true) rfl (by rw [hn]; rfl) (by simp (config := { maxSteps := 2000000 }) only [go_sem, ↓reduceIte, Int.reduceToNat, Nat.reduceMul, Int.reduceBEq, Int.reduceBNe, Nat.reduceBEq, Nat.reduceAdd, Nat.reduceSub, Nat.reduceLeDiff, Nat.reduceEqDiff, Nat.reduceLT, reduceCtorEq]) (AWpL.ofM hn rfl ?_); simp (config := { maxSteps := 2000000 }) only [go_sem, ↓reduceIte, Int.reduceToNat, Nat.reduceMul, Int.reduceBEq, Int.reduceBNe, Nat.reduceBEq, Nat.reduceAdd, Nat.reduceSub, Nat.reduceLeDiff, Nat.reduceEqDiff, Nat.reduceLT, reduceCtorEq])
      simp (config := { maxSteps := 2000000 }) only [go_sem, ↓reduceIte, Int.reduceToNat, Nat.reduceMul, Int.reduceBEq, Int.reduceBNe, Nat.reduceBEq, Nat.reduceAdd, Nat.reduceSub, Nat.reduceLeDiff, Nat.reduceEqDiff, Nat.reduceLT, reduceCtorEq, hp1, e3]
      refine ⟨⟨by omega, by omega⟩, by omega, fun hc => ?_, fun hc => ?_⟩
      · rw [if_pos (of_decide_eq_true hc)] at hsh
        rw [hsh] at e4 hs2 hap
        refine ⟨by omega, by omega, by omega, ?_⟩
        refine AWpL.app (r := 2) (els := st.2.map ic) (ys := [ic (min x.most a.demand)]) rfl rfl rfl rfl (by rw [hn]; rfl) (by rw [List.length_map]; omega) (pin 2) (Nat.le_refl 1) (fun el hm y hy => by
          rw [List.mem_singleton.1 hm] at hy
          rw [List.mem_singleton.1 hy]; rfl) (by simp only [List.length_cons, List.length_nil]; omega) (by simp only [List.length_cons, List.length_nil]; omega) (AWpL.ofM hn rfl ?_)
        simp (config := { maxSteps := 2000000 }) only [go_sem, ↓reduceIte, Int.reduceToNat, Nat.reduceMul, Int.reduceBEq, Int.reduceBNe, Nat.reduceBEq, Nat.reduceAdd, Nat.reduceSub, Nat.reduceLeDiff, Nat.reduceEqDiff, Nat.reduceLT, reduceCtorEq, e4, hs2, hap, e2]
        exact ⟨k - 1, by omega, i + 1, by omega, weak_to [0, 1, 2] hp hnp rfl (by simp (config := { maxSteps := 2000000 }) only [go_sem, ↓reduceIte, Int.reduceToNat, Nat.reduceMul, Int.reduceBEq, Int.reduceBNe, Nat.reduceBEq, Nat.reduceAdd, Nat.reduceSub, Nat.reduceLeDiff, Nat.reduceEqDiff, Nat.reduceLT, reduceCtorEq, Aw.pos]) (by simp (config := { maxSteps := 2000000 }) only [go_sem, ↓reduceIte, Int.reduceToNat, Nat.reduceMul, Int.reduceBEq, Int.reduceBNe, Nat.reduceBEq, Nat.reduceAdd, Nat.reduceSub, Nat.reduceLeDiff, Nat.reduceEqDiff, Nat.reduceLT, reduceCtorEq, Aw.renR, Aw.pos])⟩
      · rw [if_neg (of_decide_eq_false hc)] at hsh
        rw [hsh] at e4 hs2 hap
        refine ⟨by omega, by omega, ?_⟩
        refine AWpL.app (r := 2) (els := st.2.map ic) (ys := [ic 0]) rfl rfl rfl rfl (by rw [hn]; rfl) (by rw [List.length_map]; omega) (pin 2) (Nat.le_refl 1) (fun el hm y hy => by
          rw [List.mem_singleton.1 hm] at hy
          rw [List.mem_singleton.1 hy]; rfl) (by simp only [List.length_cons, List.length_nil]; omega) (by simp only [List.length_cons, List.length_nil]; omega) (AWpL.ofM hn rfl ?_)
        simp (config := { maxSteps := 2000000 }) only [go_sem, ↓reduceIte, Int.reduceToNat, Nat.reduceMul, Int.reduceBEq, Int.reduceBNe, Nat.reduceBEq, Nat.reduceAdd, Nat.reduceSub, Nat.reduceLeDiff, Nat.reduceEqDiff, Nat.reduceLT, reduceCtorEq, e4, hs2, hap, e2]
        exact ⟨k - 1, by omega, i + 1, by omega, weak_to [0, 1, 2] hp hnp rfl (by simp (config := { maxSteps := 2000000 }) only [go_sem, ↓reduceIte, Int.reduceToNat, Nat.reduceMul, Int.reduceBEq, Int.reduceBNe, Nat.reduceBEq, Nat.reduceAdd, Nat.reduceSub, Nat.reduceLeDiff, Nat.reduceEqDiff, Nat.reduceLT, reduceCtorEq, Aw.pos]) (by simp (config := { maxSteps := 2000000 }) only [go_sem, ↓reduceIte, Int.reduceToNat, Nat.reduceMul, Int.reduceBEq, Int.reduceBNe, Nat.reduceBEq, Nat.reduceAdd, Nat.reduceSub, Nat.reduceLeDiff, Nat.reduceEqDiff, Nat.reduceLT, reduceCtorEq, Aw.renR, Aw.pos])⟩
    · have e0 : decide ((i : Int) < (n.gens.l.length : Int)) = false := decide_eq_false (by omega)
      obtain rfl : i = n.gens.l.length := by omega
      simp (config := { maxSteps := 2000000 }) only [go_sem, ↓reduceIte, Int.reduceToNat, Nat.reduceMul, Int.reduceBEq, Int.reduceBNe, Nat.reduceBEq, Nat.reduceAdd, Nat.reduceSub, Nat.reduceLeDiff, Nat.reduceEqDiff, Nat.reduceLT, reduceCtorEq, e0]
      obtain ⟨hl1, hl2, hl3⟩ := hok n.gens.l.length (Nat.le_refl _)
      clear hw hik hge e0 hok
      generalize shG n n.gens.l.length = st at *
      refine AWp.loop (fun k s => ∃ i : Nat, i + k = M ∧ st.1.any (fun s => decide (0 < s.demand)) = (st.1.drop i).any (fun s => decide (0 < s.demand)) ∧ Weak E s ⟨[(8, .hnd 1 0 n.gens.l.length n.gens.l.length false), (69, .hnd 0 0 M M true), (70, I M), (71, I i)], [.arr 41 3 (st.1.map smc), .arr 3 1 (st.2.map ic)]⟩) (n := M)
        ⟨0, by omega, rfl, weak_to [1, 2] hp hnp rfl (by simp (config := { maxSteps := 2000000 }) only [go_sem, ↓reduceIte, Int.reduceToNat, Nat.reduceMul, Int.reduceBEq, Int.reduceBNe, Nat.reduceBEq, Nat.reduceAdd, Nat.reduceSub, Nat.reduceLeDiff, Nat.reduceEqDiff, Nat.reduceLT, reduceCtorEq, Int.natCast_zero, Aw.pos]) (by simp (config := { maxSteps := 2000000 }) only [go_sem, ↓reduceIte, Int.reduceToNat, Nat.reduceMul, Int.reduceBEq, Int.reduceBNe, Nat.reduceBEq, Nat.reduceAdd, Nat.reduceSub, Nat.reduceLeDiff, Nat.reduceEqDiff, Nat.reduceLT, reduceCtorEq, Aw.renR, Aw.pos])⟩ ?_
      rintro k s ⟨i, hik, hany, hw⟩
      refine AWp.weak hw (AWp.ofD [] [] hn mixed rfl ?_)
      rcases Nat.lt_or_ge i M with hlt | hge
      · have e0 : decide ((i : Int) < (M : Int)) = true := decide_eq_true (by omega)
        have e2 : IntKind.i64.wrap ((i : Int) + 1) = ((i + 1 : Nat) : Int) := by rw [w64 (by omega) (by omega)]; omega
        have e1 := getD_map (l := st.1) smc (i := i) (by omega)
        rw [any_drop _ (by omega)] at hany
        generalize st.1[i]'(by omega) = x at *
        simp (config := { maxSteps := 2000000 }) only [go_sem, ↓reduceIte, Int.reduceToNat, Nat.reduceMul, Int.reduceBEq, Int.reduceBNe, Nat.reduceBEq, Nat.reduceAdd, Nat.reduceSub, Nat.reduceLeDiff, Nat.reduceEqDiff, Nat.reduceLT, reduceCtorEq, e0, e1]
        refine ⟨⟨by omega, by omega⟩, by omega, fun hc => ?_, fun hc => ?_⟩
        · have hd : decide (0 < x.demand) = true := by simpa using hc
          rw [hd, Bool.true_or] at hany
          rw [if_pos hany] at hS
          rw [hS, if_neg (by decide)] at hL
          refine Retn.weak (weak_ent 2 (by rfl) (Ent.ofnil0 1)) _ (Retn.ret (π := []) hp hnp ⟨rfl, ?_⟩)
          simp (config := { maxSteps := 2000000 }) only [go_sem, ↓reduceIte, Int.reduceToNat, Nat.reduceMul, Int.reduceBEq, Int.reduceBNe, Nat.reduceBEq, Nat.reduceAdd, Nat.reduceSub, Nat.reduceLeDiff, Nat.reduceEqDiff, Nat.reduceLT, reduceCtorEq, hL, hS, List.map_nil]
        · have hd : decide (0 < x.demand) = false := by simpa using hc
          rw [hd, Bool.false_or] at hany
          rw [e2]
          exact ⟨k - 1, by omega, i + 1, by omega, hany, weak_to [0, 1] hp hnp rfl (by simp (config := { maxSteps := 2000000 }) only [go_sem, ↓reduceIte, Int.reduceToNat, Nat.reduceMul, Int.reduceBEq, Int.reduceBNe, Nat.reduceBEq, Nat.reduceAdd, Nat.reduceSub, Nat.reduceLeDiff, Nat.reduceEqDiff, Nat.reduceLT, reduceCtorEq, Aw.pos]) (by simp (config := { maxSteps := 2000000 }) only [go_sem, ↓reduceIte, Int.reduceToNat, Nat.reduceMul, Int.reduceBEq, Int.reduceBNe, Nat.reduceBEq, Nat.reduceAdd, Nat.reduceSub, Nat.reduceLeDiff, Nat.reduceEqDiff, Nat.reduceLT, reduceCtorEq, Aw.renR, Aw.pos])⟩
      · have e0 : decide ((i : Int) < (M : Int)) = false := decide_eq_false (by omega)
        rw [List.drop_of_length_le (by omega), List.any_nil] at hany
        rw [if_neg (by rw [hany]; decide)] at hS
        rw [hS, if_pos rfl] at hL
        simp (config := { maxSteps := 2000000 }) only [go_sem, ↓reduceIte, Int.reduceToNat, Nat.reduceMul, Int.reduceBEq, Int.reduceBNe, Nat.reduceBEq, Nat.reduceAdd, Nat.reduceSub, Nat.reduceLeDiff, Nat.reduceEqDiff, Nat.reduceLT, reduceCtorEq, e0]
        refine Retn.weak (weak_freeze 1 rfl (pin 1) ?_) _ ?_
        · simp (config := { maxSteps := 2000000 }) only [go_sem, ↓reduceIte, Int.reduceToNat, Nat.reduceMul, Int.reduceBEq, Int.reduceBNe, Nat.reduceBEq, Nat.reduceAdd, Nat.reduceSub, Nat.reduceLeDiff, Nat.reduceEqDiff, Nat.reduceLT, reduceCtorEq, Nat.le_refl, List.length_map, hl2]
        refine Retn.ret (π := []) hp hnp ⟨rfl, ?_⟩
        simp (config := { maxSteps := 2000000 }) only [go_sem, ↓reduceIte, Int.reduceToNat, Nat.reduceMul, Int.reduceBEq, Int.reduceBNe, Nat.reduceBEq, Nat.reduceAdd, Nat.reduceSub, Nat.reduceLeDiff, Nat.reduceEqDiff, Nat.reduceLT, reduceCtorEq]
        rw [List.take_of_length_le (by rw [List.length_map, hl2]; exact Nat.le_refl _), hL, hS]
  · obtain ⟨rfl, rfl⟩ := hv'.1 h0
    rw [if_pos h0] at hS
    rw [hS, if_neg h0] at hL
    have h1 : (netF n != 0) = true := by simpa using h0
    rw [retS_nil]
    refine AWpL.ofM hn rfl ?_
    simp (config := { maxSteps := 2000000 }) only [go_sem, ↓reduceIte, Int.reduceToNat, Nat.reduceMul, Int.reduceBEq, Int.reduceBNe, Nat.reduceBEq, Nat.reduceAdd, Nat.reduceSub, Nat.reduceLeDiff, Nat.reduceEqDiff, Nat.reduceLT, reduceCtorEq, h1]
    refine Retn.weak (weak_ent 2 (by rfl) (Ent.ofnil0 1)) _ (Retn.ret (π := []) hp hnp ⟨rfl, ?_⟩)
    simp (config := { maxSteps := 2000000 }) only [go_sem, ↓reduceIte, Int.reduceToNat, Nat.reduceMul, Int.reduceBEq, Int.reduceBNe, Nat.reduceBEq, Nat.reduceAdd, Nat.reduceSub, Nat.reduceLeDiff, Nat.reduceEqDiff, Nat.reduceLT, reduceCtorEq, hL, hS, List.map_nil]
end Go.Proofs.Ytmkodhpbjedfkaa
