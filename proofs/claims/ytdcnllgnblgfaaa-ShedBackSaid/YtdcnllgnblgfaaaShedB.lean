/- What shed.New computes. -/
import Derived.Test.YtdcnllgnblgfaaaAwZf
import Derived.Test.YtdcnllgnblgfaaaShedQ
set_option linter.unusedVariables false
set_option linter.unusedSimpArgs false
namespace Go.Proofs.Ytdcnllgnblgfaaa
open Go.Proofs.Ytdcnllgnblgfaaa.Aw
attribute [local go_sem] Int.natCast_zero Int.natCast_one bne_self_eq_false beq_self_eq_true Bool.not_true Bool.not_false Option.isSome_none Option.isSome_some Aw.bkM_nil Option.getD_some Option.getD_none Nat.sub_zero Int.toNat_zero Aw.frzS Aw.frzT Aw.frzA Aw.frzL Aw.frzR Aw.frzO Aw.frzOL Aw.frzOT Aw.frzOR Aw.killS Aw.mapT Aw.mapR Aw.killM Aw.resAVs Aw.resAV Aw.quietOps Aw.wpP Aw.wpT Aw.wpS Aw.AOp.mild List.getElem?_cons_zero List.getElem?_cons_succ Bool.and_false Bool.and_self Bool.false_and Aw.opOb Aw.gdB Aw.Rnd Aw.subTm List.length_map Int.toNat_natCast and_self Aw.SeqC Aw.stops Aw.Ends Aw.looks Aw.renA Aw.renL Aw.renT Aw.renS Aw.wpO Aw.aop Aw.putTm Aw.St.ev Aw.St.put Aw.St.putO Aw.binAV Aw.intBin Aw.strBin Aw.pickAV Aw.optInt Aw.AV.strip Aw.AV.guard Aw.AV.cells Aw.gdOb Aw.AOp.opds Aw.AOp.still Aw.ptrCells Aw.St.reg Aw.fillAV Aw.fillOb Aw.elsOb Aw.splice Aw.firm Aw.cellish Aw.AV.shut Aw.shutAll Aw.Seq Aw.Blk Aw.retS_nil Aw.mapA Aw.mapL Aw.borA Aw.borOb Aw.allOb Aw.tupOf Aw.params Aw.Opd.of Array.toList Value.cells List.map_cons List.map_nil List.getD_cons_zero List.getD_cons_succ List.getD_nil List.length_cons List.length_nil List.take_succ_cons List.take_zero List.take_nil List.drop_zero List.drop_succ_cons List.drop_nil List.set_cons_zero List.set_cons_succ List.append_nil List.nil_append List.cons_append List.all_cons List.all_nil cond_false cond_true if_true if_false true_and and_true Bool.and_true Bool.true_and Option.map_some Option.map_none false_implies forall_const implies_true forall_eq imp_self Bool.cond_false_right Bool.cond_true_left beq_true beq_false Bool.not_eq_true' Bool.false_eq_true Nat.zero_add Nat.add_zero Aw.eqCells Aw.exactCap Aw.overEls Aw.revealS Aw.srcEls Aw.srcSz
attribute [local go_sem ↓] Aw.look_nil Aw.look_ite Aw.wpL_nil Aw.wpL_op Aw.wpL_gd Aw.wpQ_nil Aw.wpQ_op Aw.wpQ_gd Aw.wpC_draw Aw.wpC_reg Aw.wpC_skip Aw.wpC_ret Aw.wpC_exit Aw.wpC_seq Aw.wpC_block Aw.wpC_loop Aw.wpC_cond Aw.stopAt_nil Aw.stopAt_cons Aw.wpD_skip Aw.wpD_ret Aw.wpD_exit Aw.wpD_region Aw.wpD_draw Aw.wpM_nil Aw.wpM_op Aw.wpM_gd Aw.wpD_seq Aw.wpD_block Aw.wpD_loop Aw.wpD_cond
/- gridhall/shed.New -/
def a5 : ACode :=
  (.seq (.region false [] [
     ⟨(some 2), none, (.mov (.v (.pointer none)))⟩,
     ⟨(some 3), none, (.mov (.v (.int .i64 0)))⟩])
  (.seq (.seq (.region false [] [
     ⟨(some 8), none, (.mov (.t 0))⟩,
     ⟨(some 9), none, (.call 11 [(.t 8)])⟩,
     ⟨(some 4), none, (.mov (.t 9))⟩])
  (.seq (.region false [] [
     ⟨(some 10), none, (.mov (.t 4))⟩,
     ⟨(some 11), none, (.bin .neq 25 (.t 10) (.v (.int .i64 0)))⟩])
  (.cond (.t 11)
    (.seq (.region false [] [
       ⟨(some 12), none, (.mov (.t 4))⟩,
       ⟨(some 2), none, (.mov (.v (.pointer none)))⟩,
       ⟨(some 3), none, (.mov (.t 12))⟩])
    .ret)
    .skip)))
  (.seq (.region true [[], [0], [1, 1], [], [3], [4, 4], [2, 5], [6], [7, 0, 1, 2, 3, 4, 5, 6, 7]] [
     ⟨(some 13), none, (.mov (.t 0))⟩,
     ⟨(some 14), none, (.len (.t 13))⟩,
     ⟨(some 15), none, (.mksl 3 1 8 (.int .i64 0) (.t 14) (.t 14))⟩,
     ⟨(some 16), none, (.mov (.t 0))⟩,
     ⟨(some 17), none, (.len (.t 16))⟩,
     ⟨(some 18), none, (.mksl 4 1 1 (.bool false) (.t 17) (.t 17))⟩,
     ⟨(some 19), none, (.build (.agg #[(.slice none 0 0), (.slice none 0 0), (.slice none 0 0), (.slice none 0 0)]) [(1, (1, (.t 15))), (2, (1, (.t 18)))])⟩,
     ⟨(some 20), none, (.box 43 (.t 19))⟩,
     ⟨(some 5), none, (.mov (.t 20))⟩])
  (.seq (.seq (.region false [] [
     ⟨(some 21), none, (.mov (.t 0))⟩,
     ⟨(some 22), none, (.len (.t 21))⟩,
     ⟨(some 23), none, (.mov (.v (.int .i64 0)))⟩])
  (.block 0 (.loop (.seq (.region false [] [
       ⟨(some 24), none, (.bin .lss 3 (.t 23) (.t 22))⟩])
    (.seq (.cond (.t 24)
      .skip
      (.exit 0))
    (.seq (.block 1 (.seq (.region false [] [
        ⟨(some 25), none, (.idx 3 (.t 21) (.t 23))⟩,
        ⟨(some 26), none, (.load 3 true (.t 25))⟩,
        ⟨(some 7), none, (.alloc 34 (.agg #[(.int .i64 0), (.int .i64 0), (.slice none 0 0)]))⟩,
        ⟨none, none, (.store 3 (.t 7) (.t 26))⟩])
     (.seq (.region false [] [
        ⟨(some 27), none, (.fld 2 (.t 7))⟩,
        ⟨(some 28), none, (.load 1 false (.t 27))⟩,
        ⟨(some 29), none, (.call 15 [(.t 28)])⟩,
        ⟨(some 30), none, (.fld 2 (.t 7))⟩,
        ⟨none, none, (.store 1 (.t 30) (.t 29))⟩])
     (.region true [[], [], [1], [2], [3], [], [5], [4, 6], [0, 0, 1, 2, 3, 4, 5, 6, 7], [8, 0, 1, 2, 3, 4, 5, 6, 7], [9, 7, 7, 0, 1, 2, 3, 4, 5, 6, 7]] [
        ⟨(some 31), none, (.mov (.t 5))⟩,
        ⟨(some 32), none, (.mov (.t 5))⟩,
        ⟨(some 33), none, (.nilc (.t 32))⟩,
        ⟨(some 34), none, (.fld 0 (.t 33))⟩,
        ⟨(some 35), none, (.load 1 false (.t 34))⟩,
        ⟨(some 36), none, (.load 3 true (.t 7))⟩,
        ⟨(some 37), none, (.bsl 34 3 1 [(0, (.t 36))])⟩,
        ⟨(some 38), none, (.app 34 3 40 (.agg #[(.int .i64 0), (.int .i64 0), (.slice none 0 0)]) (.t 35) (.t 37))⟩,
        ⟨(some 39), none, (.nilc (.t 31))⟩,
        ⟨(some 40), none, (.fld 0 (.t 39))⟩,
        ⟨none, none, (.store 1 (.t 40) (.t 38))⟩]))))
    (.region false [] [
       ⟨(some 41), none, (.bin .add 3 (.t 23) (.v (.int .i64 1)))⟩,
       ⟨(some 23), none, (.mov (.t 41))⟩])))))))
  (.seq (.region false [] [
     ⟨(some 42), none, (.mov (.t 5))⟩,
     ⟨(some 2), none, (.mov (.t 42))⟩,
     ⟨(some 3), none, (.mov (.v (.int .i64 0)))⟩])
  .ret)))))
theorem k5 : FnIs Try.prog 5 43 [.t 2, .t 3] a5 := ⟨_, _, Try.func5, rfl, by kernel_rfl, by kernel_rfl, rfl⟩

abbrev gs0 (s : Stage) : List AV := [I s.below, I s.wait, ss none false s.loads]
/-- The regions of a Shed: its struct, its stages, how long it was too low, which acted, in which order. -/
def shR (l : List Stage) (x : Sh) : List Reg :=
  [.box 43 [.hnd 1 0 l.length l.length false, .hnd 2 0 l.length l.length true, .hnd 3 0 l.length l.length true, .hnd 4 0 x.ord.length x.ord.length false],
   .arr 34 3 (l.map gs0), .arr 3 1 ((List.range l.length).map fun k => [I (x.lo k)]), .arr 4 1 ((List.range l.length).map fun k => [B (x.ac k)]), .arr 3 1 (x.ord.map fun n => [I (n : Nat)])]
theorem rng_const {α : Type} (n : Nat) (v : α) : List.replicate n v = (List.range n).map fun _ => v := by
  apply List.ext_getElem <;> simp
set_option maxRecDepth 20000 in
set_option maxHeartbeats 1000000 in
theorem s5 (nil full) (l : List Stage) (hs : okSizes l) : Aw.Spec Try.prog 5 [] [gss nil full l] (fun rg x =>
    (shedChk l ≠ 0 → rg = [] ∧ x = .tup [.val (.pointer none), I (shedChk l)]) ∧
    (shedChk l = 0 → rg = shR l sh0 ∧ x = .tup [.ptr 0 0 0, I 0])) := by
  refine Aw.Spec.regsD k5 mixed rfl rfl rfl fun E hn hnp hp => ?_
  unfold a5
  simp (config := { maxSteps := 2000000 }) only [go_sem, ↓reduceIte, Int.reduceBEq, Int.reduceBNe, Nat.reduceBEq, Nat.reduceAdd, Nat.reduceSub, Nat.reduceLeDiff, Nat.reduceEqDiff, Nat.reduceLT, reduceCtorEq]
  refine AWpL.calle (s11 nil full l hs) rfl (by rw [hn]; rfl) (by simp (config := { maxSteps := 2000000 }) only [go_sem, ↓reduceIte, Int.reduceBEq, Int.reduceBNe, Nat.reduceBEq, Nat.reduceAdd, Nat.reduceSub, Nat.reduceLeDiff, Nat.reduceEqDiff, Nat.reduceLT, reduceCtorEq]) (AWpL.ofM hn rfl ?_)
  simp (config := { maxSteps := 2000000 }) only [go_sem, ↓reduceIte, Int.reduceBEq, Int.reduceBNe, Nat.reduceBEq, Nat.reduceAdd, Nat.reduceSub, Nat.reduceLeDiff, Nat.reduceEqDiff, Nat.reduceLT, reduceCtorEq]
  simp only [bne_iff_ne, ne_eq, bne_eq_false_iff_eq]
  refine ⟨fun h => Retn.ret (π := []) hp hnp ⟨rfl, ?_⟩, fun h => ?_⟩
  · simp (config := { maxSteps := 2000000 }) only [go_sem, ↓reduceIte, Int.reduceBEq, Int.reduceBNe, Nat.reduceBEq, Nat.reduceAdd, Nat.reduceSub, Nat.reduceLeDiff, Nat.reduceEqDiff, Nat.reduceLT, reduceCtorEq]
    exact fun h2 => absurd h2 h
  have hok := shed_ok h
  have hl := hok.len
  refine AWp.cut ⟨[(0, gss nil full l), (5, .ptr 0 0 0)], [.box 43 [.val (.slice none 0 0), .hnd 1 0 l.length l.length true, .hnd 2 0 l.length l.length true, .val (.slice none 0 0)],
      .arr 3 1 (List.replicate l.length [I 0]), .arr 4 1 (List.replicate l.length [B false])]⟩ ?_ ?_
  · refine AWp.plan (.take 0 [false, false, false, true, true, true, false, false, false] (.take 1 [true, false, false, true, true, true, false, false, false] (.take 3 [true, true, true, false, false, false, false, false, false] (.take 4 [true, true, true, true, false, false, false, false, false] (.two 2 (.one 5 (.take 6 [true, true, true, true, true, true, false, false, false] (.one 7 (.take 8 [true, true, true, true, true, true, true, true, false] .done)))) 5 (.one 2 (.take 6 [true, true, true, true, true, true, false, false, false] (.one 7 (.take 8 [true, true, true, true, true, true, true, true, false] .done))))))))) [true, true, true, true, true, true, true, true, true] mixed hn rfl rfl ?_
    simp (config := { maxSteps := 2000000 }) only [go_sem, ↓reduceIte, Int.reduceBEq, Int.reduceBNe, Nat.reduceBEq, Nat.reduceAdd, Nat.reduceSub, Nat.reduceLeDiff, Nat.reduceEqDiff, Nat.reduceLT, reduceCtorEq]
    refine ⟨⟨⟨by omega, by omega, by omega⟩, ⟨by omega, by omega, by omega⟩, ?_⟩, ⟨by omega, by omega, by omega⟩, ⟨by omega, by omega, by omega⟩, ?_⟩
    · exact weak_to [2, 0, 1] hp hnp rfl (by simp (config := { maxSteps := 2000000 }) only [go_sem, ↓reduceIte, Int.reduceBEq, Int.reduceBNe, Nat.reduceBEq, Nat.reduceAdd, Nat.reduceSub, Nat.reduceLeDiff, Nat.reduceEqDiff, Nat.reduceLT, reduceCtorEq, Aw.pos]) (by simp (config := { maxSteps := 2000000 }) only [go_sem, ↓reduceIte, Int.reduceBEq, Int.reduceBNe, Nat.reduceBEq, Nat.reduceAdd, Nat.reduceSub, Nat.reduceLeDiff, Nat.reduceEqDiff, Nat.reduceLT, reduceCtorEq, Aw.renR, Aw.pos, Int.toNat_natCast])
    · exact weak_to [2, 1, 0] hp hnp rfl (by simp (config := { maxSteps := 2000000 }) only [go_sem, ↓reduceIte, Int.reduceBEq, Int.reduceBNe, Nat.reduceBEq, Nat.reduceAdd, Nat.reduceSub, Nat.reduceLeDiff, Nat.reduceEqDiff, Nat.reduceLT, reduceCtorEq, Aw.pos]) (by simp (config := { maxSteps := 2000000 }) only [go_sem, ↓reduceIte, Int.reduceBEq, Int.reduceBNe, Nat.reduceBEq, Nat.reduceAdd, Nat.reduceSub, Nat.reduceLeDiff, Nat.reduceEqDiff, Nat.reduceLT, reduceCtorEq, Aw.renR, Aw.pos, Int.toNat_natCast])
  simp (config := { maxSteps := 2000000 }) only [go_sem, ↓reduceIte, Int.reduceBEq, Int.reduceBNe, Nat.reduceBEq, Nat.reduceAdd, Nat.reduceSub, Nat.reduceLeDiff, Nat.reduceEqDiff, Nat.reduceLT, reduceCtorEq]
  refine AWp.weak ((weak_nilbox 0 0 34 3 rfl rfl).trans (weak_nilbox 0 3 3 1 rfl rfl)) ?_
  refine AWp.loop (fun k s => ∃ (i : Nat), i + k = l.length ∧
      Weak E s ⟨[(5, .ptr 0 0 0), (21, gss nil full l), (22, I l.length), (23, I i)], [.box 43 [.hnd 1 0 i i false, .hnd 2 0 l.length l.length true, .hnd 3 0 l.length l.length true, .hnd 4 0 0 0 false],
        .arr 34 3 ((l.take i).map gs0), .arr 3 1 (List.replicate l.length [I 0]), .arr 4 1 (List.replicate l.length [B false]), .arr 3 1 []]⟩) (n := l.length)
    ⟨0, by omega, weak_to [0, 3, 1, 2, 4] hp hnp rfl (by simp (config := { maxSteps := 2000000 }) only [go_sem, ↓reduceIte, Int.reduceBEq, Int.reduceBNe, Nat.reduceBEq, Nat.reduceAdd, Nat.reduceSub, Nat.reduceLeDiff, Nat.reduceEqDiff, Nat.reduceLT, reduceCtorEq, Aw.pos, Int.natCast_zero]) (by simp (config := { maxSteps := 2000000 }) only [go_sem, ↓reduceIte, Int.reduceBEq, Int.reduceBNe, Nat.reduceBEq, Nat.reduceAdd, Nat.reduceSub, Nat.reduceLeDiff, Nat.reduceEqDiff, Nat.reduceLT, reduceCtorEq, Aw.renR, Aw.pos, List.take_zero])⟩ ?_
  rintro k s ⟨i, hi, hw⟩
  refine AWp.weak hw (AWp.ofD [] [] hn mixed rfl ?_)
  rcases Nat.lt_or_ge i l.length with hlt | hge
  · have e0 : decide ((i : Int) < (l.length : Int)) = true := by simp; omega
    have e1 := getD_map gs hlt
    have e2 : IntKind.i64.wrap ((i : Int) + 1) = ((i + 1 : Nat) : Int) := by rw [w64 (by omega) (by omega)]; omega
    simp (config := { maxSteps := 2000000 }) only [go_sem, ↓reduceIte, Int.reduceBEq, Int.reduceBNe, Nat.reduceBEq, Nat.reduceAdd, Nat.reduceSub, Nat.reduceLeDiff, Nat.reduceEqDiff, Nat.reduceLT, reduceCtorEq, e0, e1]
    refine ⟨⟨by omega, by omega⟩, ?_⟩
    have hlo : l[i].loads.length ≤ 1000000 := by have := hok.few _ (List.getElem_mem hlt); omega
    refine AWpL.callA [] (s15 l[i].nil l[i].full l[i].loads hlo) rfl rfl (by rw [hn]; rfl) rfl (fun r hr => by cases hr) fun rg x hx => ?_
    obtain ⟨rfl, rfl⟩ := hx
    refine ⟨Nat.le_refl _, ?_⟩
    rw [retS_nil]
    refine AWpL.ofM hn rfl ?_
    simp (config := { maxSteps := 2000000 }) only [go_sem, ↓reduceIte, Int.reduceBEq, Int.reduceBNe, Nat.reduceBEq, Nat.reduceAdd, Nat.reduceSub, Nat.reduceLeDiff, Nat.reduceEqDiff, Nat.reduceLT, reduceCtorEq]
    refine AWp.cut ⟨[(5, .ptr 0 0 0), (21, gss nil full l), (22, I l.length), (23, I i)], [.box 43 [.hnd 1 0 (i + 1) (i + 1) false, .hnd 2 0 l.length l.length true, .hnd 3 0 l.length l.length true, .hnd 4 0 0 0 false],
        .arr 34 3 ((l.take (i + 1)).map gs0), .arr 3 1 (List.replicate l.length [I 0]), .arr 4 1 (List.replicate l.length [B false]), .arr 3 1 []]⟩ ?_ ?_
    · refine AWp.plan (.take 1 [true, false, false, false, false, true, true, false, false, false, false] (.take 2 [true, true, false, false, false, true, true, false, false, false, false] (.take 3 [true, true, true, false, false, true, true, false, false, false, false] (.take 4 [true, true, true, true, false, true, true, false, false, false, false] (.take 5 [true, true, true, true, true, false, false, false, false, false, false] (.two 0 (.one 6 (.one 7 (.take 8 [true, true, true, true, true, true, true, true, false, false, false] (.take 9 [true, true, true, true, true, true, true, true, true, false, false] (.one 10 .done))))) 6 (.two 0 (.one 7 (.take 8 [true, true, true, true, true, true, true, true, false, false, false] (.take 9 [true, true, true, true, true, true, true, true, true, false, false] (.one 10 .done)))) 7 (.take 0 [false, true, true, true, true, true, true, true, false, false, false] (.take 8 [true, true, true, true, true, true, true, true, false, false, false] (.take 9 [true, true, true, true, true, true, true, true, true, false, false] (.one 10 .done))))))))))) [true, true, true, true, true, true, true, false, true, true, false] mixed hn rfl rfl ?_
      simp (config := { maxSteps := 2000000 }) only [go_sem, ↓reduceIte, Int.reduceBEq, Int.reduceBNe, Nat.reduceBEq, Nat.reduceAdd, Nat.reduceSub, Nat.reduceLeDiff, Nat.reduceEqDiff, Nat.reduceLT, reduceCtorEq]
      repeat' refine And.intro ?_ ?_
      all_goals
        refine AOne.rule ?_
        refine AWpL.app (r := 1) (els := (l.take i).map gs0) (ys := [gs0 l[i]]) rfl rfl rfl rfl (by rw [hn]; rfl) (by simp; omega) (hp.none hnp (Nat.zero_le _)) (Nat.le_refl 1) (fun el hm y hy => ?_) (by simp only [List.length_cons, List.length_nil]; omega) (by simp only [List.length_cons, List.length_nil]; omega) (AWpL.ofM hn rfl ?_)
        · rw [List.mem_singleton.1 hm] at hy
          simp only [List.mem_cons, List.not_mem_nil, or_false] at hy
          rcases hy with rfl | rfl | rfl <;> rfl
        simp (config := { maxSteps := 2000000 }) only [go_sem, ↓reduceIte, Int.reduceBEq, Int.reduceBNe, Nat.reduceBEq, Nat.reduceAdd, Nat.reduceSub, Nat.reduceLeDiff, Nat.reduceEqDiff, Nat.reduceLT, reduceCtorEq]
        refine weak_to [0, 1, 2, 3, 4] hp hnp rfl (by simp (config := { maxSteps := 2000000 }) only [go_sem, ↓reduceIte, Int.reduceBEq, Int.reduceBNe, Nat.reduceBEq, Nat.reduceAdd, Nat.reduceSub, Nat.reduceLeDiff, Nat.reduceEqDiff, Nat.reduceLT, reduceCtorEq, Aw.pos]) ?_
        simp (config := { maxSteps := 2000000 }) only [go_sem, ↓reduceIte, Int.reduceBEq, Int.reduceBNe, Nat.reduceBEq, Nat.reduceAdd, Nat.reduceSub, Nat.reduceLeDiff, Nat.reduceEqDiff, Nat.reduceLT, reduceCtorEq, Aw.renR, Aw.pos, take_get hlt, List.map_append]
    simp (config := { maxSteps := 2000000 }) only [go_sem, ↓reduceIte, Int.reduceBEq, Int.reduceBNe, Nat.reduceBEq, Nat.reduceAdd, Nat.reduceSub, Nat.reduceLeDiff, Nat.reduceEqDiff, Nat.reduceLT, reduceCtorEq, e2]
    exact ⟨k - 1, by omega, i + 1, by omega, weak_to [0, 1, 2, 3, 4] hp hnp rfl (by simp (config := { maxSteps := 2000000 }) only [go_sem, ↓reduceIte, Int.reduceBEq, Int.reduceBNe, Nat.reduceBEq, Nat.reduceAdd, Nat.reduceSub, Nat.reduceLeDiff, Nat.reduceEqDiff, Nat.reduceLT, reduceCtorEq, Aw.pos]) (by simp (config := { maxSteps := 2000000 }) only [go_sem, ↓reduceIte, Int.reduceBEq, Int.reduceBNe, Nat.reduceBEq, Nat.reduceAdd, Nat.reduceSub, Nat.reduceLeDiff, Nat.reduceEqDiff, Nat.reduceLT, reduceCtorEq, Aw.renR, Aw.pos])⟩
  · have e0 : decide ((i : Int) < (l.length : Int)) = false := by simp; omega
    simp (config := { maxSteps := 2000000 }) only [go_sem, ↓reduceIte, Int.reduceBEq, Int.reduceBNe, Nat.reduceBEq, Nat.reduceAdd, Nat.reduceSub, Nat.reduceLeDiff, Nat.reduceEqDiff, Nat.reduceLT, reduceCtorEq, e0]
    obtain rfl : i = l.length := by omega
    refine Retn.ret (π := [0, 1, 2, 3, 4]) hp hnp ⟨rfl, ?_⟩
    simp (config := { maxSteps := 2000000 }) only [go_sem, ↓reduceIte, Int.reduceBEq, Int.reduceBNe, Nat.reduceBEq, Nat.reduceAdd, Nat.reduceSub, Nat.reduceLeDiff, Nat.reduceEqDiff, Nat.reduceLT, reduceCtorEq, Aw.renR, Aw.pos, List.take_length]
    exact ⟨fun h2 => absurd h h2, fun _ => by unfold shR sh0; rw [rng_const, rng_const]; rfl⟩
end Go.Proofs.Ytdcnllgnblgfaaa
