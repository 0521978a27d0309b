/- Permits: Tags, Held, Papers. -/
import Derived.Test.YtmepjgpmhkahdaaAwZf
import Derived.Test.YtmepjgpmhkahdaaPerB
set_option linter.unusedVariables false
set_option linter.unusedSimpArgs false
namespace Go.Proofs.Ytmepjgpmhkahdaa
open Go.Proofs.Ytmepjgpmhkahdaa.Aw
attribute [local go_sem] Int.natCast_zero Int.natCast_one bne_self_eq_false beq_self_eq_true Bool.not_true Bool.not_false Option.isSome_none Option.isSome_some Aw.bkM_nil Option.getD_some Option.getD_none Nat.sub_zero Int.toNat_zero Aw.frzS Aw.frzT Aw.frzA Aw.frzL Aw.frzR Aw.frzO Aw.frzOL Aw.frzOT Aw.frzOR Aw.killS Aw.mapT Aw.mapR Aw.killM Aw.resAVs Aw.resAV Aw.quietOps Aw.wpP Aw.wpT Aw.wpS Aw.AOp.mild List.getElem?_cons_zero List.getElem?_cons_succ Bool.and_false Bool.and_self Bool.false_and Aw.opOb Aw.gdB Aw.Rnd Aw.subTm List.length_map Int.toNat_natCast and_self Aw.SeqC Aw.stops Aw.Ends Aw.looks Aw.renA Aw.renL Aw.renT Aw.renS Aw.wpO Aw.aop Aw.putTm Aw.St.ev Aw.St.put Aw.St.putO Aw.binAV Aw.intBin Aw.strBin Aw.pickAV Aw.optInt Aw.AV.strip Aw.AV.guard Aw.AV.cells Aw.gdOb Aw.AOp.opds Aw.AOp.still Aw.ptrCells Aw.St.reg Aw.fillAV Aw.fillOb Aw.elsOb Aw.splice Aw.firm Aw.cellish Aw.AV.shut Aw.shutAll Aw.Seq Aw.Blk Aw.retS_nil Aw.mapA Aw.mapL Aw.borA Aw.borOb Aw.allOb Aw.tupOf Aw.params Aw.Opd.of Array.toList Value.cells List.map_cons List.map_nil List.getD_cons_zero List.getD_cons_succ List.getD_nil List.length_cons List.length_nil List.take_succ_cons List.take_zero List.take_nil List.drop_zero List.drop_succ_cons List.drop_nil List.set_cons_zero List.set_cons_succ List.append_nil List.nil_append List.cons_append List.all_cons List.all_nil cond_false cond_true if_true if_false true_and and_true Bool.and_true Bool.true_and Option.map_some Option.map_none false_implies forall_const implies_true forall_eq imp_self Bool.cond_false_right Bool.cond_true_left beq_true beq_false Bool.not_eq_true' Bool.false_eq_true Nat.zero_add Nat.add_zero Aw.eqCells Aw.exactCap Aw.revealS Aw.srcEls Aw.srcSz
attribute [local go_sem ↓] Aw.look_nil Aw.look_ite Aw.wpL_nil Aw.wpL_op Aw.wpL_gd Aw.wpQ_nil Aw.wpQ_op Aw.wpQ_gd Aw.wpC_draw Aw.wpC_reg Aw.wpC_skip Aw.wpC_ret Aw.wpC_exit Aw.wpC_seq Aw.wpC_block Aw.wpC_loop Aw.wpC_cond Aw.stopAt_nil Aw.stopAt_cons Aw.wpD_skip Aw.wpD_ret Aw.wpD_exit Aw.wpD_region Aw.wpD_draw Aw.wpM_nil Aw.wpM_op Aw.wpM_gd Aw.wpD_seq Aw.wpD_block Aw.wpD_loop Aw.wpD_cond
/- (*gridhall/permit.Desk).Tags -/
def a16 : ACode :=
  (.seq (.region false [] [
     ⟨(some 4), none, (.mov (.v (.slice none 0 0)))⟩,
     ⟨(some 5), none, (.mov (.v (.int .i64 0)))⟩])
  (.seq (.seq (.region false [] [
     ⟨(some 10), none, (.mov (.t 0))⟩,
     ⟨(some 11), none, (.mov (.t 1))⟩,
     ⟨(some 12), none, (.bsl 9 1 1 [(0, (.t 11))])⟩,
     ⟨(some 13), none, (.call 15 [(.t 10), (.t 12)])⟩,
     ⟨(some 6), none, (.mov (.t 13))⟩])
  (.seq (.region false [] [
     ⟨(some 14), none, (.mov (.t 6))⟩,
     ⟨(some 15), none, (.bin .neq 24 (.t 14) (.v (.int .i64 0)))⟩])
  (.cond (.t 15)
    (.seq (.region false [] [
       ⟨(some 16), none, (.mov (.t 6))⟩,
       ⟨(some 4), none, (.mov (.v (.slice none 0 0)))⟩,
       ⟨(some 5), none, (.mov (.t 16))⟩])
    .ret)
    .skip)))
  (.seq (.region false [] [
     ⟨(some 7), none, (.mov (.v (.slice none 0 0)))⟩])
  (.seq (.seq (.region false [] [
     ⟨(some 17), none, (.mov (.t 0))⟩,
     ⟨(some 18), none, (.nilc (.t 17))⟩,
     ⟨(some 19), none, (.fld 1 (.t 18))⟩,
     ⟨(some 20), none, (.load 1 false (.t 19))⟩,
     ⟨(some 21), none, (.len (.t 20))⟩,
     ⟨(some 22), none, (.mov (.v (.int .i64 0)))⟩])
  (.block 0 (.loop (.seq (.region false [] [
       ⟨(some 23), none, (.bin .lss 3 (.t 22) (.t 21))⟩])
    (.seq (.cond (.t 23)
      .skip
      (.exit 0))
    (.seq (.block 1 (.seq (.region false [] [
        ⟨(some 24), none, (.idx 3 (.t 20) (.t 22))⟩,
        ⟨(some 25), none, (.load 3 true (.t 24))⟩,
        ⟨(some 9), none, (.alloc 34 (.agg #[(.int .i64 0), (.string ⟨#[]⟩), (.slice none 0 0)]))⟩,
        ⟨none, none, (.store 3 (.t 9) (.t 25))⟩])
     (.seq (.region false [] [
        ⟨(some 26), none, (.fld 2 (.t 9))⟩,
        ⟨(some 27), none, (.load 1 false (.t 26))⟩,
        ⟨(some 28), none, (.mov (.t 1))⟩,
        ⟨(some 29), none, (.call 14 [(.t 27), (.t 28)])⟩])
     (.cond (.t 29)
       (.region false [] [
          ⟨(some 30), none, (.mov (.t 7))⟩,
          ⟨(some 31), none, (.fld 0 (.t 9))⟩,
          ⟨(some 32), none, (.load 1 false (.t 31))⟩,
          ⟨(some 33), none, (.bsl 3 1 1 [(0, (.t 32))])⟩,
          ⟨(some 34), none, (.app 3 1 8 (.int .i64 0) (.t 30) (.t 33))⟩,
          ⟨(some 7), none, (.mov (.t 34))⟩])
       .skip))))
    (.region false [] [
       ⟨(some 35), none, (.bin .add 3 (.t 22) (.v (.int .i64 1)))⟩,
       ⟨(some 22), none, (.mov (.t 35))⟩])))))))
  (.seq (.region false [] [
     ⟨(some 36), none, (.mov (.t 7))⟩,
     ⟨(some 4), none, (.mov (.t 36))⟩,
     ⟨(some 5), none, (.mov (.v (.int .i64 0)))⟩])
  .ret)))))
theorem k16 : FnIs Try.prog 16 37 [.t 4, .t 5] a16 := ⟨_, _, Try.func16, rfl, by kernel_rfl, by kernel_rfl, rfl⟩
/- (*gridhall/permit.Desk).Held -/
def a9 : ACode :=
  (.seq (.region false [] [
     ⟨(some 2), none, (.mov (.v (.slice none 0 0)))⟩])
  (.seq (.region false [] [
     ⟨(some 3), none, (.mov (.v (.slice none 0 0)))⟩])
  (.seq (.seq (.region false [] [
     ⟨(some 8), none, (.mov (.t 0))⟩,
     ⟨(some 9), none, (.nilc (.t 8))⟩,
     ⟨(some 10), none, (.fld 0 (.t 9))⟩,
     ⟨(some 11), none, (.load 1 false (.t 10))⟩,
     ⟨(some 12), none, (.len (.t 11))⟩,
     ⟨(some 13), none, (.mov (.v (.int .i64 0)))⟩])
  (.block 0 (.loop (.seq (.region false [] [
       ⟨(some 14), none, (.bin .lss 3 (.t 13) (.t 12))⟩])
    (.seq (.cond (.t 14)
      .skip
      (.exit 0))
    (.seq (.block 1 (.seq (.region false [] [
        ⟨(some 15), none, (.idx 1 (.t 11) (.t 13))⟩,
        ⟨(some 16), none, (.load 1 false (.t 15))⟩,
        ⟨(some 5), none, (.mov (.t 16))⟩])
     (.seq (.region false [] [
        ⟨(some 18), none, (.mov (.t 0))⟩,
        ⟨(some 19), none, (.mov (.t 5))⟩,
        ⟨(some 20), none, (.call 16 [(.t 18), (.t 19)])⟩,
        ⟨(some 17), none, (.mov (.t 20))⟩,
        ⟨(some 21), none, (.ext 0 (.t 17))⟩,
        ⟨(some 22), none, (.ext 1 (.t 17))⟩,
        ⟨(some 6), none, (.mov (.t 21))⟩,
        ⟨(some 7), none, (.mov (.t 22))⟩])
     (.seq (.region false [] [
        ⟨(some 23), none, (.mov (.t 6))⟩,
        ⟨(some 24), none, (.len (.t 23))⟩,
        ⟨(some 25), none, (.bin .gtr 3 (.t 24) (.v (.int .i64 0)))⟩])
     (.cond (.t 25)
       (.region false [] [
          ⟨(some 26), none, (.mov (.t 3))⟩,
          ⟨(some 27), none, (.mov (.t 5))⟩,
          ⟨(some 28), none, (.bsl 9 1 1 [(0, (.t 27))])⟩,
          ⟨(some 29), none, (.app 9 1 16 (.string ⟨#[]⟩) (.t 26) (.t 28))⟩,
          ⟨(some 3), none, (.mov (.t 29))⟩])
       .skip)))))
    (.region false [] [
       ⟨(some 30), none, (.bin .add 3 (.t 13) (.v (.int .i64 1)))⟩,
       ⟨(some 13), none, (.mov (.t 30))⟩])))))))
  (.seq (.region false [] [
     ⟨(some 31), none, (.mov (.t 3))⟩,
     ⟨(some 2), none, (.mov (.t 31))⟩])
  .ret))))
theorem k9 : FnIs Try.prog 9 32 [.t 2] a9 := ⟨_, _, Try.func9, rfl, by kernel_rfl, by kernel_rfl, rfl⟩
/- (*gridhall/permit.Desk).Papers -/
def a8 : ACode :=
  (.seq (.region false [] [
     ⟨(some 2), none, (.mov (.v (.slice none 0 0)))⟩])
  (.seq (.region false [] [
     ⟨(some 3), none, (.mov (.v (.slice none 0 0)))⟩])
  (.seq (.seq (.region false [] [
     ⟨(some 6), none, (.mov (.t 0))⟩,
     ⟨(some 7), none, (.nilc (.t 6))⟩,
     ⟨(some 8), none, (.fld 1 (.t 7))⟩,
     ⟨(some 9), none, (.load 1 false (.t 8))⟩,
     ⟨(some 10), none, (.len (.t 9))⟩,
     ⟨(some 11), none, (.mov (.v (.int .i64 0)))⟩])
  (.block 0 (.loop (.seq (.region false [] [
       ⟨(some 12), none, (.bin .lss 3 (.t 11) (.t 10))⟩])
    (.seq (.cond (.t 12)
      .skip
      (.exit 0))
    (.seq (.block 1 (.seq (.region false [] [
        ⟨(some 13), none, (.idx 3 (.t 9) (.t 11))⟩,
        ⟨(some 14), none, (.load 3 true (.t 13))⟩,
        ⟨(some 5), none, (.alloc 34 (.agg #[(.int .i64 0), (.string ⟨#[]⟩), (.slice none 0 0)]))⟩,
        ⟨none, none, (.store 3 (.t 5) (.t 14))⟩])
     (.seq (.region false [] [
        ⟨(some 15), none, (.fld 2 (.t 5))⟩,
        ⟨(some 16), none, (.load 1 false (.t 15))⟩,
        ⟨(some 17), none, (.call 11 [(.t 16)])⟩,
        ⟨(some 18), none, (.fld 2 (.t 5))⟩,
        ⟨none, none, (.store 1 (.t 18) (.t 17))⟩])
     (.region false [] [
        ⟨(some 19), none, (.mov (.t 3))⟩,
        ⟨(some 20), none, (.load 3 true (.t 5))⟩,
        ⟨(some 21), none, (.bsl 34 3 1 [(0, (.t 20))])⟩,
        ⟨(some 22), none, (.app 34 3 48 (.agg #[(.int .i64 0), (.string ⟨#[]⟩), (.slice none 0 0)]) (.t 19) (.t 21))⟩,
        ⟨(some 3), none, (.mov (.t 22))⟩]))))
    (.region false [] [
       ⟨(some 23), none, (.bin .add 3 (.t 11) (.v (.int .i64 1)))⟩,
       ⟨(some 11), none, (.mov (.t 23))⟩])))))))
  (.seq (.region false [] [
     ⟨(some 24), none, (.mov (.t 3))⟩,
     ⟨(some 2), none, (.mov (.t 24))⟩])
  .ret))))
theorem k8 : FnIs Try.prog 8 25 [.t 2] a8 := ⟨_, _, Try.func8, rfl, by kernel_rfl, by kernel_rfl, rfl⟩

structure DkOk (d : Dk) : Prop where
  dl : d.dev.length ≤ 256
  pl : d.papers.length ≤ 20
  few : ∀ p ∈ d.papers, p.devs.length ≤ 12
def tagsL (ps : List Paper) (x : ByteArray) : List Int := (ps.filter (fun p => p.devs.any (seq x))).map (·.num)
theorem tagsL_succ (ps : List Paper) (x : ByteArray) {i : Nat} (h : i < ps.length) : tagsL (ps.take (i + 1)) x = tagsL (ps.take i) x ++ (if ps[i].devs.any (seq x) = true then [ps[i].num] else []) := by
  unfold tagsL
  rw [take_get h, List.filter_append, List.map_append]
  congr 1
  cases h2 : ps[i].devs.any (seq x) <;> simp [h2]
theorem tagsL_le (ps : List Paper) (x : ByteArray) : (tagsL ps x).length ≤ ps.length := by
  unfold tagsL; rw [List.length_map]; exact List.length_filter_le _ _
set_option maxRecDepth 20000 in
theorem s16 (d : Dk) (x : ByteArray) (hd : DkOk d) (hx : knownE d [x] = 0) :
    Aw.Spec Try.prog 16 (dkR d) [.ptr 0 0 0, S x] (fun rg v => rg = dkR d ∧ v = .tup [.imm none false 1 ((tagsL d.papers x).map fun n => [I n]), I 0]) := by
  refine Aw.Spec.regsD k16 mixed rfl rfl rfl fun E hn hnp hp => ?_
  unfold a16 dkR
  have htk : (d.papers.map ppc).take d.papers.length = d.papers.map ppc := List.take_of_length_le (by simp)
  have pin2 := hp.none hnp (Nat.le_refl 2)
  have h1 := hd.dl
  have h2 := hd.pl
  simp (config := { maxSteps := 2000000 }) only [go_sem, ↓reduceIte, Int.reduceToNat, Nat.reduceMul, Int.reduceBEq, Int.reduceBNe, Nat.reduceBEq, Nat.reduceAdd, Nat.reduceSub, Nat.reduceLeDiff, Nat.reduceEqDiff, Nat.reduceLT, reduceCtorEq]
  refine AWpL.calleA (s15 d none false [x] h1 (by simp)) (by simp (config := { maxSteps := 2000000 }) only [go_sem, ↓reduceIte, Int.reduceToNat, Nat.reduceMul, Int.reduceBEq, Int.reduceBNe, Nat.reduceBEq, Nat.reduceAdd, Nat.reduceSub, Nat.reduceLeDiff, Nat.reduceEqDiff, Nat.reduceLT, reduceCtorEq, htk]; rfl) rfl (by rw [hn]; rfl) (by simp (config := { maxSteps := 2000000 }) only [go_sem, ↓reduceIte, Int.reduceToNat, Nat.reduceMul, Int.reduceBEq, Int.reduceBNe, Nat.reduceBEq, Nat.reduceAdd, Nat.reduceSub, Nat.reduceLeDiff, Nat.reduceEqDiff, Nat.reduceLT, reduceCtorEq, List.length_map]; omega) (AWpL.ofM hn rfl ?_)
  rw [hx]
  simp (config := { maxSteps := 2000000 }) only [go_sem, ↓reduceIte, Int.reduceToNat, Nat.reduceMul, Int.reduceBEq, Int.reduceBNe, Nat.reduceBEq, Nat.reduceAdd, Nat.reduceSub, Nat.reduceLeDiff, Nat.reduceEqDiff, Nat.reduceLT, reduceCtorEq]
  refine AWp.weak (weak_nil 7 3 1 rfl) ?_
  simp (config := { maxSteps := 2000000 }) only [go_sem, ↓reduceIte, Int.reduceToNat, Nat.reduceMul, Int.reduceBEq, Int.reduceBNe, Nat.reduceBEq, Nat.reduceAdd, Nat.reduceSub, Nat.reduceLeDiff, Nat.reduceEqDiff, Nat.reduceLT, reduceCtorEq]
  refine AWp.loop (fun k s => ∃ (i : Nat), i + k = d.papers.length ∧
      Weak E s ⟨[(1, S x), (7, .hnd 2 0 (tagsL (d.papers.take i) x).length (tagsL (d.papers.take i) x).length false), (20, .hnd 1 0 d.papers.length d.papers.length false), (21, I d.papers.length), (22, I i)], dkR d ++ [.arr 3 1 ((tagsL (d.papers.take i) x).map fun n => [I n])]⟩) (n := d.papers.length)
    ⟨0, by omega, weak_to [0, 1, 3] hp hnp rfl (by simp (config := { maxSteps := 2000000 }) only [go_sem, ↓reduceIte, Int.reduceToNat, Nat.reduceMul, Int.reduceBEq, Int.reduceBNe, Nat.reduceBEq, Nat.reduceAdd, Nat.reduceSub, Nat.reduceLeDiff, Nat.reduceEqDiff, Nat.reduceLT, reduceCtorEq, Aw.pos, Int.natCast_zero]; rfl) (by simp (config := { maxSteps := 2000000 }) only [go_sem, ↓reduceIte, Int.reduceToNat, Nat.reduceMul, Int.reduceBEq, Int.reduceBNe, Nat.reduceBEq, Nat.reduceAdd, Nat.reduceSub, Nat.reduceLeDiff, Nat.reduceEqDiff, Nat.reduceLT, reduceCtorEq, Aw.renR, Aw.pos, List.take_zero]; rfl)⟩ ?_
  rintro k s ⟨i, hik, hw⟩
  refine AWp.weak hw (AWp.ofD [] [] hn mixed rfl ?_)
  rcases Nat.lt_or_ge i d.papers.length with hlt | hge
  · have e0 : decide ((i : Int) < (d.papers.length : Int)) = true := decide_eq_true (by omega)
    have e1 := getD_map ppc hlt
    have e2 : IntKind.i64.wrap ((i : Int) + 1) = ((i + 1 : Nat) : Int) := by rw [w64 (by omega) (by omega)]; omega
    have hf := hd.few _ (List.getElem_mem hlt)
    have hs := tagsL_succ d.papers x hlt
    have hb := tagsL_le (d.papers.take i) x
    rw [List.length_take] at hb
    generalize d.papers[i] = p at e1 hf hs
    simp (config := { maxSteps := 2000000 }) only [go_sem, ↓reduceIte, Int.reduceToNat, Nat.reduceMul, Int.reduceBEq, Int.reduceBNe, Nat.reduceBEq, Nat.reduceAdd, Nat.reduceSub, Nat.reduceLeDiff, Nat.reduceEqDiff, Nat.reduceLT, reduceCtorEq, e0, e1, dkR]
    (repeat (refine And.intro (by first | omega | (refine ⟨by omega, by omega⟩) | (refine ⟨by omega, by omega, by omega⟩) | (simp only [List.length_map, List.length_range, List.length_append, List.length_cons, List.length_nil, List.length_replicate, List.length_set]; omega) | (simp; omega) | (intro hgd; cases hgd) | (intro hgd; refine ⟨hgd, ?_⟩; first | omega | (refine ⟨by omega, by omega⟩) | (simp; omega))) ?_))
    (refine AWpL.calle (s14 none false p.devs x (by omega)) rfl (by rw [hn]; rfl) (by simp (config := { maxSteps := 2000000 }) only [go_sem, ↓reduceIte, Int.reduceToNat, Nat.reduceMul, Int.reduceBEq, Int.reduceBNe, Nat.reduceBEq, Nat.reduceAdd, Nat.reduceSub, Nat.reduceLeDiff, Nat.reduceEqDiff, Nat.reduceLT, reduceCtorEq]) (AWpL.ofM hn rfl ?_); simp (config := { maxSteps := 2000000 }) only [go_sem, ↓reduceIte, Int.reduceToNat, Nat.reduceMul, Int.reduceBEq, Int.reduceBNe, Nat.reduceBEq, Nat.reduceAdd, Nat.reduceSub, Nat.reduceLeDiff, Nat.reduceEqDiff, Nat.reduceLT, reduceCtorEq])
    refine ⟨fun h => ?_, fun h => ?_⟩
    · rw [if_pos h] at hs
      (repeat (refine And.intro (by first | omega | (refine ⟨by omega, by omega⟩) | (refine ⟨by omega, by omega, by omega⟩) | (simp only [List.length_map, List.length_range, List.length_append, List.length_cons, List.length_nil, List.length_replicate, List.length_set]; omega) | (simp; omega) | (intro hgd; cases hgd) | (intro hgd; refine ⟨hgd, ?_⟩; first | omega | (refine ⟨by omega, by omega⟩) | (simp; omega))) ?_))
      refine AWpL.app (r := 2) (els := (tagsL (d.papers.take i) x).map fun n => [I n]) (ys := [[I p.num]]) rfl rfl rfl rfl (by rw [hn]; rfl) (by simp) (pin2) (Nat.le_refl 1) (fun el hm y hy => ?_) (by simp only [List.length_cons, List.length_nil]; omega) (by simp only [List.length_cons, List.length_nil]; omega) (AWpL.ofM hn rfl ?_)
      · rw [List.mem_singleton.1 hm] at hy
        rw [List.mem_singleton.1 hy]; rfl
      simp (config := { maxSteps := 2000000 }) only [go_sem, ↓reduceIte, Int.reduceToNat, Nat.reduceMul, Int.reduceBEq, Int.reduceBNe, Nat.reduceBEq, Nat.reduceAdd, Nat.reduceSub, Nat.reduceLeDiff, Nat.reduceEqDiff, Nat.reduceLT, reduceCtorEq, e2]
      exact ⟨k - 1, by omega, i + 1, by omega, weak_to [0, 1, 2] hp hnp rfl (by simp (config := { maxSteps := 2000000 }) only [go_sem, ↓reduceIte, Int.reduceToNat, Nat.reduceMul, Int.reduceBEq, Int.reduceBNe, Nat.reduceBEq, Nat.reduceAdd, Nat.reduceSub, Nat.reduceLeDiff, Nat.reduceEqDiff, Nat.reduceLT, reduceCtorEq, Aw.pos, hs, List.length_append]) (by simp (config := { maxSteps := 2000000 }) only [go_sem, ↓reduceIte, Int.reduceToNat, Nat.reduceMul, Int.reduceBEq, Int.reduceBNe, Nat.reduceBEq, Nat.reduceAdd, Nat.reduceSub, Nat.reduceLeDiff, Nat.reduceEqDiff, Nat.reduceLT, reduceCtorEq, Aw.renR, Aw.pos, hs, List.map_append])⟩
    · rw [if_neg (by simp [h]), List.append_nil] at hs
      simp (config := { maxSteps := 2000000 }) only [go_sem, ↓reduceIte, Int.reduceToNat, Nat.reduceMul, Int.reduceBEq, Int.reduceBNe, Nat.reduceBEq, Nat.reduceAdd, Nat.reduceSub, Nat.reduceLeDiff, Nat.reduceEqDiff, Nat.reduceLT, reduceCtorEq, e2]
      exact ⟨k - 1, by omega, i + 1, by omega, weak_to [0, 1, 2] hp hnp rfl (by simp (config := { maxSteps := 2000000 }) only [go_sem, ↓reduceIte, Int.reduceToNat, Nat.reduceMul, Int.reduceBEq, Int.reduceBNe, Nat.reduceBEq, Nat.reduceAdd, Nat.reduceSub, Nat.reduceLeDiff, Nat.reduceEqDiff, Nat.reduceLT, reduceCtorEq, Aw.pos, hs]) (by simp (config := { maxSteps := 2000000 }) only [go_sem, ↓reduceIte, Int.reduceToNat, Nat.reduceMul, Int.reduceBEq, Int.reduceBNe, Nat.reduceBEq, Nat.reduceAdd, Nat.reduceSub, Nat.reduceLeDiff, Nat.reduceEqDiff, Nat.reduceLT, reduceCtorEq, Aw.renR, Aw.pos, hs])⟩
  · have e0 : decide ((i : Int) < (d.papers.length : Int)) = false := decide_eq_false (by omega)
    simp (config := { maxSteps := 2000000 }) only [go_sem, ↓reduceIte, Int.reduceToNat, Nat.reduceMul, Int.reduceBEq, Int.reduceBNe, Nat.reduceBEq, Nat.reduceAdd, Nat.reduceSub, Nat.reduceLeDiff, Nat.reduceEqDiff, Nat.reduceLT, reduceCtorEq, e0, dkR]
    have ht : d.papers.take i = d.papers := List.take_of_length_le hge
    refine Retn.weak (weak_freeze 2 rfl (pin2) ?_) _ ?_
    · simp (config := { maxSteps := 2000000 }) only [go_sem, ↓reduceIte, Int.reduceToNat, Nat.reduceMul, Int.reduceBEq, Int.reduceBNe, Nat.reduceBEq, Nat.reduceAdd, Nat.reduceSub, Nat.reduceLeDiff, Nat.reduceEqDiff, Nat.reduceLT, reduceCtorEq, Nat.le_refl]
    refine Retn.weak (weak_ent 4 (by rfl) (Ent.plain _ _ _ _)) _ (Retn.ret (π := [0, 1]) hp hnp ⟨rfl, ?_⟩)
    have h4 : ((tagsL d.papers x).map fun n => [I n]).take (tagsL d.papers x).length = (tagsL d.papers x).map fun n => [I n] := List.take_of_length_le (by simp)
    simp (config := { maxSteps := 2000000 }) only [go_sem, ↓reduceIte, Int.reduceToNat, Nat.reduceMul, Int.reduceBEq, Int.reduceBNe, Nat.reduceBEq, Nat.reduceAdd, Nat.reduceSub, Nat.reduceLeDiff, Nat.reduceEqDiff, Nat.reduceLT, reduceCtorEq, Aw.renR, Aw.pos, ht, h4]
/-- The devices of l that some paper names. -/
def heldL (ps : List Paper) (l : List ByteArray) : List ByteArray := l.filter fun x => decide (0 < (tagsL ps x).length)
theorem heldL_succ (ps : List Paper) (l : List ByteArray) {i : Nat} (h : i < l.length) : heldL ps (l.take (i + 1)) = heldL ps (l.take i) ++ (if 0 < (tagsL ps l[i]).length then [l[i]] else []) := by
  unfold heldL
  rw [take_get h, List.filter_append]
  congr 1
  by_cases h2 : 0 < (tagsL ps l[i]).length <;> simp [h2]
theorem heldL_le (ps : List Paper) (l : List ByteArray) : (heldL ps l).length ≤ l.length := List.length_filter_le _ _
theorem seq_self (x : ByteArray) : seq x x = true := by unfold seq; simp
theorem known_mem {d : Dk} {x : ByteArray} (h : x ∈ d.dev) : knownE d [x] = 0 := by
  have : d.dev.any (seq x) = true := List.any_eq_true.2 ⟨x, h, seq_self x⟩
  unfold knownE
  simp [this]
set_option maxRecDepth 20000 in
theorem s9 (d : Dk) (hd : DkOk d) :
    Aw.Spec Try.prog 9 (dkR d) [.ptr 0 0 0] (fun rg v => rg = dkR d ∧ v = ss none false (heldL d.papers d.dev)) := by
  refine Aw.Spec.regsD k9 mixed rfl rfl rfl fun E hn hnp hp => ?_
  unfold a9 dkR
  have htk : (d.papers.map ppc).take d.papers.length = d.papers.map ppc := List.take_of_length_le (by simp)
  have pin2 := hp.none hnp (Nat.le_refl 2)
  have h1 := hd.dl
  simp (config := { maxSteps := 2000000 }) only [go_sem, ↓reduceIte, Int.reduceToNat, Nat.reduceMul, Int.reduceBEq, Int.reduceBNe, Nat.reduceBEq, Nat.reduceAdd, Nat.reduceSub, Nat.reduceLeDiff, Nat.reduceEqDiff, Nat.reduceLT, reduceCtorEq]
  refine AWp.weak (weak_nil 3 9 1 rfl) ?_
  simp (config := { maxSteps := 2000000 }) only [go_sem, ↓reduceIte, Int.reduceToNat, Nat.reduceMul, Int.reduceBEq, Int.reduceBNe, Nat.reduceBEq, Nat.reduceAdd, Nat.reduceSub, Nat.reduceLeDiff, Nat.reduceEqDiff, Nat.reduceLT, reduceCtorEq]
  refine AWp.loop (fun k s => ∃ (i : Nat), i + k = d.dev.length ∧
      Weak E s ⟨[(0, .ptr 0 0 0), (3, .hnd 2 0 (heldL d.papers (d.dev.take i)).length (heldL d.papers (d.dev.take i)).length false), (11, ss none false d.dev), (12, I d.dev.length), (13, I i)], dkR d ++ [.arr 9 1 ((heldL d.papers (d.dev.take i)).map sc)]⟩) (n := d.dev.length)
    ⟨0, by omega, weak_to [0, 1, 2] hp hnp rfl (by simp (config := { maxSteps := 2000000 }) only [go_sem, ↓reduceIte, Int.reduceToNat, Nat.reduceMul, Int.reduceBEq, Int.reduceBNe, Nat.reduceBEq, Nat.reduceAdd, Nat.reduceSub, Nat.reduceLeDiff, Nat.reduceEqDiff, Nat.reduceLT, reduceCtorEq, Aw.pos, Int.natCast_zero]; rfl) (by simp (config := { maxSteps := 2000000 }) only [go_sem, ↓reduceIte, Int.reduceToNat, Nat.reduceMul, Int.reduceBEq, Int.reduceBNe, Nat.reduceBEq, Nat.reduceAdd, Nat.reduceSub, Nat.reduceLeDiff, Nat.reduceEqDiff, Nat.reduceLT, reduceCtorEq, Aw.renR, Aw.pos, List.take_zero]; rfl)⟩ ?_
  rintro k s ⟨i, hik, hw⟩
  refine AWp.weak hw (AWp.ofD [] [] hn mixed rfl ?_)
  rcases Nat.lt_or_ge i d.dev.length with hlt | hge
  · have e0 : decide ((i : Int) < (d.dev.length : Int)) = true := decide_eq_true (by omega)
    have e1 := getD_map sc hlt
    have e2 : IntKind.i64.wrap ((i : Int) + 1) = ((i + 1 : Nat) : Int) := by rw [w64 (by omega) (by omega)]; omega
    have hkn := known_mem (d := d) (List.getElem_mem hlt)
    have hs := heldL_succ d.papers d.dev hlt
    have hb := heldL_le d.papers (d.dev.take i)
    rw [List.length_take] at hb
    generalize d.dev[i] = x at e1 hkn hs
    simp (config := { maxSteps := 2000000 }) only [go_sem, ↓reduceIte, Int.reduceToNat, Nat.reduceMul, Int.reduceBEq, Int.reduceBNe, Nat.reduceBEq, Nat.reduceAdd, Nat.reduceSub, Nat.reduceLeDiff, Nat.reduceEqDiff, Nat.reduceLT, reduceCtorEq, e0, e1, dkR]
    (repeat (refine And.intro (by first | omega | (refine ⟨by omega, by omega⟩) | (refine ⟨by omega, by omega, by omega⟩) | (simp only [List.length_map, List.length_range, List.length_append, List.length_cons, List.length_nil, List.length_replicate, List.length_set]; omega) | (simp; omega) | (intro hgd; cases hgd) | (intro hgd; refine ⟨hgd, ?_⟩; first | omega | (refine ⟨by omega, by omega⟩) | (simp; omega))) ?_))
    refine AWpL.callA [0, 1] (s16 d x hd hkn) rfl rfl (by rw [hn]; rfl) rfl (fun r hr => by
      rcases List.mem_cons.1 hr with rfl | hr
      · exact .inl rfl
      · cases List.mem_singleton.1 hr; exact .inr (hp.arr 1 rfl)) fun rg v hv => ?_
    obtain ⟨rfl, rfl⟩ := hv
    refine ⟨Nat.le_refl _, AWpL.ofM hn rfl ?_⟩
    simp (config := { maxSteps := 2000000 }) only [go_sem, ↓reduceIte, Int.reduceToNat, Nat.reduceMul, Int.reduceBEq, Int.reduceBNe, Nat.reduceBEq, Nat.reduceAdd, Nat.reduceSub, Nat.reduceLeDiff, Nat.reduceEqDiff, Nat.reduceLT, reduceCtorEq, Aw.retS, Aw.retRg, Aw.kpM, Aw.bkM, Aw.pos, Aw.isBox, dkR]
    (repeat (refine And.intro (by first | omega | (refine ⟨by omega, by omega⟩) | (refine ⟨by omega, by omega, by omega⟩) | (simp only [List.length_map, List.length_range, List.length_append, List.length_cons, List.length_nil, List.length_replicate, List.length_set]; omega) | (simp; omega) | (intro hgd; cases hgd) | (intro hgd; refine ⟨hgd, ?_⟩; first | omega | (refine ⟨by omega, by omega⟩) | (simp; omega))) ?_))
    simp only [decide_eq_true_eq, decide_eq_false_iff_not]
    refine ⟨fun h => ?_, fun h => ?_⟩
    · rw [if_pos (by omega)] at hs
      (repeat (refine And.intro (by first | omega | (refine ⟨by omega, by omega⟩) | (refine ⟨by omega, by omega, by omega⟩) | (simp only [List.length_map, List.length_range, List.length_append, List.length_cons, List.length_nil, List.length_replicate, List.length_set]; omega) | (simp; omega) | (intro hgd; cases hgd) | (intro hgd; refine ⟨hgd, ?_⟩; first | omega | (refine ⟨by omega, by omega⟩) | (simp; omega))) ?_))
      refine AWpL.app (r := 2) (els := (heldL d.papers (d.dev.take i)).map sc) (ys := [[S x]]) rfl rfl rfl rfl (by rw [hn]; rfl) (by simp) (pin2) (Nat.le_refl 1) (fun el hm y hy => ?_) (by simp only [List.length_cons, List.length_nil]; omega) (by simp only [List.length_cons, List.length_nil]; omega) (AWpL.ofM hn rfl ?_)
      · rw [List.mem_singleton.1 hm] at hy
        rw [List.mem_singleton.1 hy]; rfl
      simp (config := { maxSteps := 2000000 }) only [go_sem, ↓reduceIte, Int.reduceToNat, Nat.reduceMul, Int.reduceBEq, Int.reduceBNe, Nat.reduceBEq, Nat.reduceAdd, Nat.reduceSub, Nat.reduceLeDiff, Nat.reduceEqDiff, Nat.reduceLT, reduceCtorEq, e2]
      exact ⟨k - 1, by omega, i + 1, by omega, weak_to [0, 1, 2] hp hnp rfl (by simp (config := { maxSteps := 2000000 }) only [go_sem, ↓reduceIte, Int.reduceToNat, Nat.reduceMul, Int.reduceBEq, Int.reduceBNe, Nat.reduceBEq, Nat.reduceAdd, Nat.reduceSub, Nat.reduceLeDiff, Nat.reduceEqDiff, Nat.reduceLT, reduceCtorEq, Aw.pos, hs, List.length_append]) (by simp (config := { maxSteps := 2000000 }) only [go_sem, ↓reduceIte, Int.reduceToNat, Nat.reduceMul, Int.reduceBEq, Int.reduceBNe, Nat.reduceBEq, Nat.reduceAdd, Nat.reduceSub, Nat.reduceLeDiff, Nat.reduceEqDiff, Nat.reduceLT, reduceCtorEq, Aw.renR, Aw.pos, hs, List.map_append])⟩
    · rw [if_neg (by omega), List.append_nil] at hs
      simp (config := { maxSteps := 2000000 }) only [go_sem, ↓reduceIte, Int.reduceToNat, Nat.reduceMul, Int.reduceBEq, Int.reduceBNe, Nat.reduceBEq, Nat.reduceAdd, Nat.reduceSub, Nat.reduceLeDiff, Nat.reduceEqDiff, Nat.reduceLT, reduceCtorEq, e2]
      exact ⟨k - 1, by omega, i + 1, by omega, weak_to [0, 1, 2] hp hnp rfl (by simp (config := { maxSteps := 2000000 }) only [go_sem, ↓reduceIte, Int.reduceToNat, Nat.reduceMul, Int.reduceBEq, Int.reduceBNe, Nat.reduceBEq, Nat.reduceAdd, Nat.reduceSub, Nat.reduceLeDiff, Nat.reduceEqDiff, Nat.reduceLT, reduceCtorEq, Aw.pos, hs]) (by simp (config := { maxSteps := 2000000 }) only [go_sem, ↓reduceIte, Int.reduceToNat, Nat.reduceMul, Int.reduceBEq, Int.reduceBNe, Nat.reduceBEq, Nat.reduceAdd, Nat.reduceSub, Nat.reduceLeDiff, Nat.reduceEqDiff, Nat.reduceLT, reduceCtorEq, Aw.renR, Aw.pos, hs])⟩
  · have e0 : decide ((i : Int) < (d.dev.length : Int)) = false := decide_eq_false (by omega)
    simp (config := { maxSteps := 2000000 }) only [go_sem, ↓reduceIte, Int.reduceToNat, Nat.reduceMul, Int.reduceBEq, Int.reduceBNe, Nat.reduceBEq, Nat.reduceAdd, Nat.reduceSub, Nat.reduceLeDiff, Nat.reduceEqDiff, Nat.reduceLT, reduceCtorEq, e0, dkR]
    have ht : d.dev.take i = d.dev := List.take_of_length_le hge
    refine Retn.weak (weak_freeze 2 rfl (pin2) ?_) _ ?_
    · simp (config := { maxSteps := 2000000 }) only [go_sem, ↓reduceIte, Int.reduceToNat, Nat.reduceMul, Int.reduceBEq, Int.reduceBNe, Nat.reduceBEq, Nat.reduceAdd, Nat.reduceSub, Nat.reduceLeDiff, Nat.reduceEqDiff, Nat.reduceLT, reduceCtorEq, Nat.le_refl]
    refine Retn.weak (weak_ent 2 (by rfl) (Ent.plain _ _ _ _)) _ (Retn.ret (π := [0, 1]) hp hnp ⟨rfl, ?_⟩)
    have h4 : ((heldL d.papers d.dev).map sc).take (heldL d.papers d.dev).length = (heldL d.papers d.dev).map sc := List.take_of_length_le (by simp)
    simp (config := { maxSteps := 2000000 }) only [go_sem, ↓reduceIte, Int.reduceToNat, Nat.reduceMul, Int.reduceBEq, Int.reduceBNe, Nat.reduceBEq, Nat.reduceAdd, Nat.reduceSub, Nat.reduceLeDiff, Nat.reduceEqDiff, Nat.reduceLT, reduceCtorEq, Aw.renR, Aw.pos, ht, h4]
set_option maxRecDepth 20000 in
theorem s8 (d : Dk) (hd : DkOk d) :
    Aw.Spec Try.prog 8 (dkR d) [.ptr 0 0 0] (fun rg v => rg = dkR d ∧ v = .imm none false 3 (d.papers.map ppc)) := by
  refine Aw.Spec.regsD k8 mixed rfl rfl rfl fun E hn hnp hp => ?_
  unfold a8 dkR
  have htk : (d.papers.map ppc).take d.papers.length = d.papers.map ppc := List.take_of_length_le (by simp)
  have pin2 := hp.none hnp (Nat.le_refl 2)
  have h1 := hd.pl
  simp (config := { maxSteps := 2000000 }) only [go_sem, ↓reduceIte, Int.reduceToNat, Nat.reduceMul, Int.reduceBEq, Int.reduceBNe, Nat.reduceBEq, Nat.reduceAdd, Nat.reduceSub, Nat.reduceLeDiff, Nat.reduceEqDiff, Nat.reduceLT, reduceCtorEq]
  refine AWp.weak (weak_nil 3 34 3 rfl) ?_
  simp (config := { maxSteps := 2000000 }) only [go_sem, ↓reduceIte, Int.reduceToNat, Nat.reduceMul, Int.reduceBEq, Int.reduceBNe, Nat.reduceBEq, Nat.reduceAdd, Nat.reduceSub, Nat.reduceLeDiff, Nat.reduceEqDiff, Nat.reduceLT, reduceCtorEq]
  refine AWp.loop (fun k s => ∃ (i : Nat), i + k = d.papers.length ∧
      Weak E s ⟨[(3, .hnd 2 0 i i false), (9, .hnd 1 0 d.papers.length d.papers.length false), (10, I d.papers.length), (11, I i)], dkR d ++ [.arr 34 3 ((d.papers.take i).map ppc)]⟩) (n := d.papers.length)
    ⟨0, by omega, weak_to [0, 1, 2] hp hnp rfl (by simp (config := { maxSteps := 2000000 }) only [go_sem, ↓reduceIte, Int.reduceToNat, Nat.reduceMul, Int.reduceBEq, Int.reduceBNe, Nat.reduceBEq, Nat.reduceAdd, Nat.reduceSub, Nat.reduceLeDiff, Nat.reduceEqDiff, Nat.reduceLT, reduceCtorEq, Aw.pos, Int.natCast_zero]) (by simp (config := { maxSteps := 2000000 }) only [go_sem, ↓reduceIte, Int.reduceToNat, Nat.reduceMul, Int.reduceBEq, Int.reduceBNe, Nat.reduceBEq, Nat.reduceAdd, Nat.reduceSub, Nat.reduceLeDiff, Nat.reduceEqDiff, Nat.reduceLT, reduceCtorEq, Aw.renR, Aw.pos, List.take_zero])⟩ ?_
  rintro k s ⟨i, hik, hw⟩
  refine AWp.weak hw (AWp.ofD [] [] hn mixed rfl ?_)
  rcases Nat.lt_or_ge i d.papers.length with hlt | hge
  · have e0 : decide ((i : Int) < (d.papers.length : Int)) = true := decide_eq_true (by omega)
    have e1 := getD_map ppc hlt
    have e2 : IntKind.i64.wrap ((i : Int) + 1) = ((i + 1 : Nat) : Int) := by rw [w64 (by omega) (by omega)]; omega
    have hf := hd.few _ (List.getElem_mem hlt)
    have hs := take_get hlt
    generalize d.papers[i] = p at e1 hf hs
    simp (config := { maxSteps := 2000000 }) only [go_sem, ↓reduceIte, Int.reduceToNat, Nat.reduceMul, Int.reduceBEq, Int.reduceBNe, Nat.reduceBEq, Nat.reduceAdd, Nat.reduceSub, Nat.reduceLeDiff, Nat.reduceEqDiff, Nat.reduceLT, reduceCtorEq, e0, e1, dkR]
    (repeat (refine And.intro (by first | omega | (refine ⟨by omega, by omega⟩) | (refine ⟨by omega, by omega, by omega⟩) | (simp only [List.length_map, List.length_range, List.length_append, List.length_cons, List.length_nil, List.length_replicate, List.length_set]; omega) | (simp; omega) | (intro hgd; cases hgd) | (intro hgd; refine ⟨hgd, ?_⟩; first | omega | (refine ⟨by omega, by omega⟩) | (simp; omega))) ?_))
    refine AWpL.callA [] (s11 none false p.devs (by omega)) rfl rfl (by rw [hn]; rfl) rfl (fun r hr => by cases hr) fun rg v hv => ?_
    obtain ⟨rfl, rfl⟩ := hv
    refine ⟨Nat.le_refl _, AWpL.ofM hn rfl ?_⟩
    rw [retS_nil]
    simp (config := { maxSteps := 2000000 }) only [go_sem, ↓reduceIte, Int.reduceToNat, Nat.reduceMul, Int.reduceBEq, Int.reduceBNe, Nat.reduceBEq, Nat.reduceAdd, Nat.reduceSub, Nat.reduceLeDiff, Nat.reduceEqDiff, Nat.reduceLT, reduceCtorEq]
    (repeat (refine And.intro (by first | omega | (refine ⟨by omega, by omega⟩) | (refine ⟨by omega, by omega, by omega⟩) | (simp only [List.length_map, List.length_range, List.length_append, List.length_cons, List.length_nil, List.length_replicate, List.length_set]; omega) | (simp; omega) | (intro hgd; cases hgd) | (intro hgd; refine ⟨hgd, ?_⟩; first | omega | (refine ⟨by omega, by omega⟩) | (simp; omega))) ?_))
    refine AWpL.app (r := 2) (els := (d.papers.take i).map ppc) (ys := [ppc p]) rfl rfl rfl rfl (by rw [hn]; rfl) (by simp; omega) (pin2) (Nat.le_refl 1) (fun el hm y hy => ?_) (by simp only [List.length_cons, List.length_nil]; omega) (by simp only [List.length_cons, List.length_nil]; omega) (AWpL.ofM hn rfl ?_)
    · rw [List.mem_singleton.1 hm] at hy
      simp only [List.mem_cons, List.not_mem_nil, or_false] at hy
      rcases hy with rfl | rfl | rfl <;> rfl
    simp (config := { maxSteps := 2000000 }) only [go_sem, ↓reduceIte, Int.reduceToNat, Nat.reduceMul, Int.reduceBEq, Int.reduceBNe, Nat.reduceBEq, Nat.reduceAdd, Nat.reduceSub, Nat.reduceLeDiff, Nat.reduceEqDiff, Nat.reduceLT, reduceCtorEq, e2]
    exact ⟨k - 1, by omega, i + 1, by omega, weak_to [0, 1, 2] hp hnp rfl (by simp (config := { maxSteps := 2000000 }) only [go_sem, ↓reduceIte, Int.reduceToNat, Nat.reduceMul, Int.reduceBEq, Int.reduceBNe, Nat.reduceBEq, Nat.reduceAdd, Nat.reduceSub, Nat.reduceLeDiff, Nat.reduceEqDiff, Nat.reduceLT, reduceCtorEq, Aw.pos]) (by simp (config := { maxSteps := 2000000 }) only [go_sem, ↓reduceIte, Int.reduceToNat, Nat.reduceMul, Int.reduceBEq, Int.reduceBNe, Nat.reduceBEq, Nat.reduceAdd, Nat.reduceSub, Nat.reduceLeDiff, Nat.reduceEqDiff, Nat.reduceLT, reduceCtorEq, Aw.renR, Aw.pos, hs, List.map_append])⟩
  · have e0 : decide ((i : Int) < (d.papers.length : Int)) = false := decide_eq_false (by omega)
    obtain rfl : i = d.papers.length := by omega
    simp (config := { maxSteps := 2000000 }) only [go_sem, ↓reduceIte, Int.reduceToNat, Nat.reduceMul, Int.reduceBEq, Int.reduceBNe, Nat.reduceBEq, Nat.reduceAdd, Nat.reduceSub, Nat.reduceLeDiff, Nat.reduceEqDiff, Nat.reduceLT, reduceCtorEq, e0, dkR]
    have ht : d.papers.take d.papers.length = d.papers := List.take_of_length_le (Nat.le_refl _)
    refine Retn.weak (weak_freeze 2 rfl (pin2) ?_) _ ?_
    · simp (config := { maxSteps := 2000000 }) only [go_sem, ↓reduceIte, Int.reduceToNat, Nat.reduceMul, Int.reduceBEq, Int.reduceBNe, Nat.reduceBEq, Nat.reduceAdd, Nat.reduceSub, Nat.reduceLeDiff, Nat.reduceEqDiff, Nat.reduceLT, reduceCtorEq, ht, Nat.le_refl]
    refine Retn.weak (weak_ent 2 (by rfl) (Ent.plain _ _ _ _)) _ (Retn.ret (π := [0, 1]) hp hnp ⟨rfl, ?_⟩)
    have h4 : (d.papers.map ppc).take d.papers.length = d.papers.map ppc := List.take_of_length_le (by simp)
    simp (config := { maxSteps := 2000000 }) only [go_sem, ↓reduceIte, Int.reduceToNat, Nat.reduceMul, Int.reduceBEq, Int.reduceBNe, Nat.reduceBEq, Nat.reduceAdd, Nat.reduceSub, Nat.reduceLeDiff, Nat.reduceEqDiff, Nat.reduceLT, reduceCtorEq, Aw.renR, Aw.pos, ht, h4]
end Go.Proofs.Ytmepjgpmhkahdaa
