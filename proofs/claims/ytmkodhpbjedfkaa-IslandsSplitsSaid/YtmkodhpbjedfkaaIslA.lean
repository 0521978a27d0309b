/- Islands: the sums of islands. -/
import Derived.Test.YtmkodhpbjedfkaaAwZh
import Derived.Test.YtmkodhpbjedfkaaGraG
set_option linter.unusedVariables false
set_option linter.unusedSimpArgs false
namespace Go.Proofs.Ytmkodhpbjedfkaa
open Go.Proofs.Ytmkodhpbjedfkaa.Aw
attribute [local go_sem] Int.natCast_zero Int.natCast_one bne_self_eq_false beq_self_eq_true Bool.not_true Bool.not_false Option.isSome_none Option.isSome_some Aw.bkM_nil Option.getD_some Option.getD_none Nat.sub_zero Int.toNat_zero Aw.frzS Aw.frzT Aw.frzA Aw.frzL Aw.frzR Aw.frzO Aw.frzOL Aw.frzOT Aw.frzOR Aw.killS Aw.mapT Aw.mapR Aw.killM Aw.resAVs Aw.resAV Aw.quietOps Aw.wpP Aw.wpT Aw.wpS Aw.AOp.mild List.getElem?_cons_zero List.getElem?_cons_succ Bool.and_false Bool.and_self Bool.false_and Aw.opOb Aw.gdB Aw.Rnd Aw.subTm List.length_map Int.toNat_natCast and_self Aw.SeqC Aw.stops Aw.Ends Aw.looks Aw.renA Aw.renL Aw.renT Aw.renS Aw.wpO Aw.aop Aw.putTm Aw.St.ev Aw.St.put Aw.St.putO Aw.binAV Aw.intBin Aw.strBin Aw.pickAV Aw.optInt Aw.AV.strip Aw.AV.guard Aw.AV.cells Aw.gdOb Aw.AOp.opds Aw.AOp.still Aw.ptrCells Aw.St.reg Aw.fillAV Aw.fillOb Aw.elsOb Aw.splice Aw.firm Aw.cellish Aw.AV.shut Aw.shutAll Aw.Seq Aw.Blk Aw.retS_nil Aw.mapA Aw.mapL Aw.borA Aw.borOb Aw.allOb Aw.tupOf Aw.params Aw.Opd.of Array.toList Value.cells List.map_cons List.map_nil List.getD_cons_zero List.getD_cons_succ List.getD_nil List.length_cons List.length_nil List.take_succ_cons List.take_zero List.take_nil List.drop_zero List.drop_succ_cons List.drop_nil List.set_cons_zero List.set_cons_succ List.append_nil List.nil_append List.cons_append List.all_cons List.all_nil cond_false cond_true if_true if_false true_and and_true Bool.and_true Bool.true_and Option.map_some Option.map_none false_implies forall_const implies_true forall_eq imp_self Bool.cond_false_right Bool.cond_true_left beq_true beq_false Bool.not_eq_true' Bool.false_eq_true Nat.zero_add Nat.add_zero Aw.eqCells Aw.stopDraw Aw.skipS Aw.exactCap Aw.revealS Aw.srcEls Aw.srcSz
attribute [local go_sem ↓] Aw.look_nil Aw.look_ite Aw.wpL_nil Aw.wpL_op Aw.wpL_gd Aw.wpQ_nil Aw.wpQ_op Aw.wpQ_gd Aw.wpC_draw Aw.wpC_reg Aw.wpC_skip Aw.wpC_ret Aw.wpC_exit Aw.wpC_seq Aw.wpC_block Aw.wpC_loop Aw.wpC_cond Aw.stopAt_nil Aw.stopAt_cons Aw.wpD_skip Aw.wpD_ret Aw.wpD_exit Aw.wpD_region Aw.wpD_draw Aw.wpM_nil Aw.wpM_op Aw.wpM_gd Aw.wpD_seq Aw.wpD_block Aw.wpD_loop Aw.wpD_cond
/- gridhall/islands.Of -/
def a7 : ACode :=
  (.seq (.region false [] [
     ⟨(some 1), none, (.box 29 (.t 0))⟩,
     ⟨(some 2), none, (.mov (.v (.slice none 0 0)))⟩,
     ⟨(some 3), none, (.mov (.v (.int .i64 0)))⟩])
  (.seq (.seq (.region false [] [
     ⟨(some 13), none, (.load 6 true (.t 1))⟩,
     ⟨(some 14), none, (.call 10 [(.t 13)])⟩,
     ⟨(some 4), none, (.mov (.t 14))⟩])
  (.seq (.region false [] [
     ⟨(some 15), none, (.mov (.t 4))⟩,
     ⟨(some 16), none, (.bin .neq 31 (.t 15) (.v (.int .i64 0)))⟩])
  (.cond (.t 16)
    (.seq (.region false [] [
       ⟨(some 17), none, (.mov (.t 4))⟩,
       ⟨(some 2), none, (.mov (.v (.slice none 0 0)))⟩,
       ⟨(some 3), none, (.mov (.t 17))⟩])
    .ret)
    .skip)))
  (.seq (.region false [] [
     ⟨(some 19), none, (.load 6 true (.t 1))⟩,
     ⟨(some 20), none, (.call 16 [(.t 19)])⟩,
     ⟨(some 18), none, (.mov (.t 20))⟩,
     ⟨(some 21), none, (.ext 0 (.t 18))⟩,
     ⟨(some 22), none, (.ext 1 (.t 18))⟩,
     ⟨(some 5), none, (.mov (.t 21))⟩,
     ⟨(some 6), none, (.mov (.t 22))⟩])
  (.seq (.region false [] [
     ⟨(some 23), none, (.mov (.t 6))⟩,
     ⟨(some 24), none, (.mksl 41 3 24 (.agg #[(.int .i64 0), (.int .i64 0), (.int .i64 0)]) (.t 23) (.t 23))⟩,
     ⟨(some 7), none, (.mov (.t 24))⟩])
  (.seq (.seq (.region false [] [
     ⟨(some 25), none, (.fld 3 (.t 1))⟩,
     ⟨(some 26), none, (.load 1 false (.t 25))⟩,
     ⟨(some 27), none, (.len (.t 26))⟩,
     ⟨(some 28), none, (.mov (.v (.int .i64 0)))⟩])
  (.block 0 (.loop (.seq (.region false [] [
       ⟨(some 29), none, (.bin .lss 3 (.t 28) (.t 27))⟩])
    (.seq (.cond (.t 29)
      .skip
      (.exit 0))
    (.seq (.block 1 (.seq (.region false [] [
        ⟨(some 30), none, (.idx 5 (.t 26) (.t 28))⟩,
        ⟨(some 31), none, (.load 5 true (.t 30))⟩,
        ⟨(some 9), none, (.alloc 39 (.agg #[(.string ⟨#[]⟩), (.string ⟨#[]⟩), (.int .i64 0), (.int .i64 0), (.int .i64 0)]))⟩,
        ⟨none, none, (.store 5 (.t 9) (.t 31))⟩])
     (.seq (.region false [] [
        ⟨(some 32), none, (.mov (.t 7))⟩,
        ⟨(some 33), none, (.load 6 true (.t 1))⟩,
        ⟨(some 34), none, (.mov (.t 5))⟩,
        ⟨(some 35), none, (.fld 1 (.t 9))⟩,
        ⟨(some 36), none, (.load 1 false (.t 35))⟩,
        ⟨(some 37), none, (.call 17 [(.t 33), (.t 34), (.t 36)])⟩,
        ⟨(some 38), none, (.idx 3 (.t 32) (.t 37))⟩,
        ⟨(some 10), none, (.mov (.t 38))⟩])
     (.seq (.region true [[], [0], [1], [2], [], [4], [3, 5], [0, 0, 1, 2, 3, 4, 5, 6], [7, 0, 1, 2, 3, 4, 5, 6], [8, 6, 0, 1, 2, 3, 4, 5, 6]] [
        ⟨(some 39), none, (.mov (.t 10))⟩,
        ⟨(some 40), none, (.nilc (.t 39))⟩,
        ⟨(some 41), none, (.fld 0 (.t 40))⟩,
        ⟨(some 42), none, (.load 1 false (.t 41))⟩,
        ⟨(some 43), none, (.fld 2 (.t 9))⟩,
        ⟨(some 44), none, (.load 1 false (.t 43))⟩,
        ⟨(some 45), none, (.bin .add 3 (.t 42) (.t 44))⟩,
        ⟨(some 46), none, (.nilc (.t 39))⟩,
        ⟨(some 47), none, (.fld 0 (.t 46))⟩,
        ⟨none, none, (.store 1 (.t 47) (.t 45))⟩])
     (.region true [[], [0], [1], [2], [], [4], [3, 5], [0, 0, 1, 2, 3, 4, 5, 6], [7, 0, 1, 2, 3, 4, 5, 6], [8, 6, 0, 1, 2, 3, 4, 5, 6]] [
        ⟨(some 48), none, (.mov (.t 10))⟩,
        ⟨(some 49), none, (.nilc (.t 48))⟩,
        ⟨(some 50), none, (.fld 1 (.t 49))⟩,
        ⟨(some 51), none, (.load 1 false (.t 50))⟩,
        ⟨(some 52), none, (.fld 3 (.t 9))⟩,
        ⟨(some 53), none, (.load 1 false (.t 52))⟩,
        ⟨(some 54), none, (.bin .add 3 (.t 51) (.t 53))⟩,
        ⟨(some 55), none, (.nilc (.t 48))⟩,
        ⟨(some 56), none, (.fld 1 (.t 55))⟩,
        ⟨none, none, (.store 1 (.t 56) (.t 54))⟩])))))
    (.region false [] [
       ⟨(some 57), none, (.bin .add 3 (.t 28) (.v (.int .i64 1)))⟩,
       ⟨(some 28), none, (.mov (.t 57))⟩])))))))
  (.seq (.seq (.region false [] [
     ⟨(some 58), none, (.fld 4 (.t 1))⟩,
     ⟨(some 59), none, (.load 1 false (.t 58))⟩,
     ⟨(some 60), none, (.len (.t 59))⟩,
     ⟨(some 61), none, (.mov (.v (.int .i64 0)))⟩])
  (.block 2 (.loop (.seq (.region false [] [
       ⟨(some 62), none, (.bin .lss 3 (.t 61) (.t 60))⟩])
    (.seq (.cond (.t 62)
      .skip
      (.exit 2))
    (.seq (.block 3 (.seq (.region false [] [
        ⟨(some 63), none, (.idx 3 (.t 59) (.t 61))⟩,
        ⟨(some 64), none, (.load 3 true (.t 63))⟩,
        ⟨(some 12), none, (.alloc 43 (.agg #[(.string ⟨#[]⟩), (.string ⟨#[]⟩), (.int .i64 0)]))⟩,
        ⟨none, none, (.store 3 (.t 12) (.t 64))⟩])
     (.region true [[], [], [], [], [3], [1, 2, 4], [0, 5], [6], [7], [], [9], [8, 10], [0, 5, 0, 1, 2, 3, 4, 5, 6, 7, 8, 9, 10, 11], [12, 0, 1, 2, 3, 4, 5, 6, 7, 8, 9, 10, 11], [13, 11, 5, 0, 1, 2, 3, 4, 5, 6, 7, 8, 9, 10, 11]] [
        ⟨(some 65), none, (.mov (.t 7))⟩,
        ⟨(some 66), none, (.load 6 true (.t 1))⟩,
        ⟨(some 67), none, (.mov (.t 5))⟩,
        ⟨(some 68), none, (.fld 1 (.t 12))⟩,
        ⟨(some 69), none, (.load 1 false (.t 68))⟩,
        ⟨(some 70), none, (.call 17 [(.t 66), (.t 67), (.t 69)])⟩,
        ⟨(some 71), none, (.idx 3 (.t 65) (.t 70))⟩,
        ⟨(some 72), none, (.fld 2 (.t 71))⟩,
        ⟨(some 73), none, (.load 1 false (.t 72))⟩,
        ⟨(some 74), none, (.fld 2 (.t 12))⟩,
        ⟨(some 75), none, (.load 1 false (.t 74))⟩,
        ⟨(some 76), none, (.bin .add 3 (.t 73) (.t 75))⟩,
        ⟨(some 77), none, (.idx 3 (.t 65) (.t 70))⟩,
        ⟨(some 78), none, (.fld 2 (.t 77))⟩,
        ⟨none, none, (.store 1 (.t 78) (.t 76))⟩])))
    (.region false [] [
       ⟨(some 79), none, (.bin .add 3 (.t 61) (.v (.int .i64 1)))⟩,
       ⟨(some 61), none, (.mov (.t 79))⟩])))))))
  (.seq (.region false [] [
     ⟨(some 80), none, (.mov (.t 7))⟩,
     ⟨(some 2), none, (.mov (.t 80))⟩,
     ⟨(some 3), none, (.mov (.v (.int .i64 0)))⟩])
  .ret)))))))
theorem k7 : FnIs Try.prog 7 81 [.t 2, .t 3] a7 := ⟨_, _, Try.func7, rfl, by kernel_rfl, by kernel_rfl, rfl⟩

structure Sm where
  least : Int
  most : Int
  demand : Int
instance : Inhabited Sm := ⟨⟨0, 0, 0⟩⟩
abbrev smc (s : Sm) : List AV := [I s.least, I s.most, I s.demand]
def pl (n : Net) (x : ByteArray) : Nat := ((placesF n).getD (idx n x) 0).toNat
theorem pl_ok {n : Net} (hv : NetV n) {x : ByteArray} (hx : x ∈ n.nodes.l) : (placesF n).getD (idx n x) 0 = (pl n x : Int) ∧ pl n x < (manyF n).toNat := by
  have h1 := (idx_int hx).2.1
  have h2 := places_len hv
  have h3 : (placesF n).getD (idx n x) 0 ∈ placesF n := by
    rw [List.getD_eq_getElem?_getD, List.getElem?_eq_getElem (by omega)]
    exact List.getElem_mem (by omega)
  have h4 := places_mem hv h3
  unfold pl
  omega
def upd (l : List Sm) (i : Nat) (f : Sm → Sm) : List Sm := l.set i (f (l.getD i default))
def addG (s : Sm) (g : Gen) : Sm := ⟨s.least + g.least, s.most + g.most, s.demand⟩
def addLo (s : Sm) (x : Loa) : Sm := ⟨s.least, s.most, s.demand + x.demand⟩
def stG (n : Net) (l : List Sm) (g : Gen) : List Sm := upd l (pl n g.node) fun s => addG s g
def stL (n : Net) (l : List Sm) (x : Loa) : List Sm := upd l (pl n x.node) fun s => addLo s x
def sums0 (n : Net) : List Sm := List.replicate (manyF n).toNat default
def sumsG (n : Net) (i : Nat) : List Sm := (n.gens.l.take i).foldl (stG n) (sums0 n)
def sumsL (n : Net) (j : Nat) : List Sm := (n.loads.l.take j).foldl (stL n) (sumsG n n.gens.l.length)
def sumsF (n : Net) : List Sm := sumsL n n.loads.l.length
def SmB (i j : Nat) (s : Sm) : Prop := 0 ≤ s.least ∧ s.least ≤ s.most ∧ s.most ≤ 100000 * i ∧ 0 ≤ s.demand ∧ s.demand ≤ 100000 * j
theorem genE_zero {g : Gen} (h : genE g = 0) : 0 ≤ g.least ∧ g.least ≤ g.most ∧ g.most ≤ 100000 := by
  unfold genE at h
  split at h
  · cases h
  · rename_i h2
    unfold inR at h2
    simp at h2
    omega
theorem loaE_zero {g : Loa} (h : loaE g = 0) : 0 ≤ g.demand ∧ g.demand ≤ 100000 := by
  unfold loaE at h
  split at h
  · cases h
  · rename_i h2
    unfold inR at h2
    simp at h2
    omega
theorem upd_len (l : List Sm) (i : Nat) (f : Sm → Sm) : (upd l i f).length = l.length := by unfold upd; rw [List.length_set]
theorem upd_get {l : List Sm} {i k : Nat} {f : Sm → Sm} (hi : i < l.length) : (upd l i f).getD k default = if k = i then f (l.getD i default) else l.getD k default := by
  unfold upd
  rw [List.getD_eq_getElem?_getD, List.getElem?_set, List.getD_eq_getElem?_getD (l := l) (i := k)]
  by_cases e : i = k
  · subst e; simp [hi]
  · rw [if_neg e, if_neg (Ne.symm e)]
theorem sumsG_ok {n : Net} (hv : NetV n) : ∀ i, i ≤ n.gens.l.length → (sumsG n i).length = (manyF n).toNat ∧ ∀ k, k < (manyF n).toNat → SmB i 0 ((sumsG n i).getD k default)
  | 0, _ => by
    refine ⟨List.length_replicate, fun k hk => ?_⟩
    show SmB 0 0 ((List.replicate (manyF n).toNat default).getD k default)
    rw [List.getD_eq_getElem?_getD, List.getElem?_replicate, if_pos hk]
    exact ⟨by decide, by decide, by decide, by decide, by decide⟩
  | i + 1, hi => by
    obtain ⟨h1, h2⟩ := sumsG_ok hv i (by omega)
    have hx := hv.ge _ (List.getElem_mem (l := n.gens.l) (n := i) (by omega))
    have hs : sumsG n (i + 1) = stG n (sumsG n i) (n.gens.l[i]'(by omega)) := foldl_take _ _ (by omega)
    have hp := (pl_ok hv hx.1).2
    have hg := genE_zero hx.2
    rw [hs]
    unfold stG
    refine ⟨by rw [upd_len]; exact h1, fun k hk => ?_⟩
    rw [upd_get (by omega)]
    split
    · have := h2 _ hp
      unfold SmB addG at *
      dsimp only
      omega
    · have := h2 _ hk
      unfold SmB at *
      omega
theorem sumsL_ok {n : Net} (hv : NetV n) : ∀ j, j ≤ n.loads.l.length → (sumsL n j).length = (manyF n).toNat ∧ ∀ k, k < (manyF n).toNat → SmB n.gens.l.length j ((sumsL n j).getD k default)
  | 0, _ => sumsG_ok hv _ (Nat.le_refl _)
  | j + 1, hj => by
    obtain ⟨h1, h2⟩ := sumsL_ok hv j (by omega)
    have hx := hv.lo _ (List.getElem_mem (l := n.loads.l) (n := j) (by omega))
    have hs : sumsL n (j + 1) = stL n (sumsL n j) (n.loads.l[j]'(by omega)) := foldl_take _ _ (by omega)
    have hp := (pl_ok hv hx.1).2
    have hg := loaE_zero hx.2
    rw [hs]
    unfold stL
    refine ⟨by rw [upd_len]; exact h1, fun k hk => ?_⟩
    rw [upd_get (by omega)]
    split
    · have := h2 _ hp
      unfold SmB addLo at *
      dsimp only
      omega
    · have := h2 _ hk
      unfold SmB at *
      omega
set_option maxRecDepth 20000 in
set_option maxHeartbeats 2000000 in
theorem s7 (n : Net) (hk : NetOk n) : Aw.Spec Try.prog 7 [] [neta n]
    (fun rg v => (netF n ≠ 0 → rg = [] ∧ v = .tup [.val (.slice none 0 0), I (netF n)]) ∧ (netF n = 0 → rg = [.arr 41 3 ((sumsF n).map smc)] ∧ v = .tup [.hnd 0 0 (manyF n).toNat (manyF n).toNat true, I 0])) := by
  refine Aw.Spec.regsW k7 rfl rfl fun E hn hnp hp => ?_
  unfold a7
  have pin : ∀ r, E.pin r = none := fun r => hp.none hnp (Nat.zero_le _)
  refine AWp.ofD [] [] hn mixed rfl ?_
  simp (config := { maxSteps := 2000000 }) only [go_sem, ↓reduceIte, Int.reduceToNat, Nat.reduceMul, Int.reduceBEq, Int.reduceBNe, Nat.reduceBEq, Nat.reduceAdd, Nat.reduceSub, Nat.reduceLeDiff, Nat.reduceEqDiff, Nat.reduceLT, reduceCtorEq]
  (refine AWpL.calle (s10 n hk) rfl (by rw [hn]; rfl) (by simp (config := { maxSteps := 2000000 }) only [go_sem, ↓reduceIte, Int.reduceToNat, Nat.reduceMul, Int.reduceBEq, Int.reduceBNe, Nat.reduceBEq, Nat.reduceAdd, Nat.reduceSub, Nat.reduceLeDiff, Nat.reduceEqDiff, Nat.reduceLT, reduceCtorEq]) (AWpL.ofM hn rfl ?_); simp (config := { maxSteps := 2000000 }) only [go_sem, ↓reduceIte, Int.reduceToNat, Nat.reduceMul, Int.reduceBEq, Int.reduceBNe, Nat.reduceBEq, Nat.reduceAdd, Nat.reduceSub, Nat.reduceLeDiff, Nat.reduceEqDiff, Nat.reduceLT, reduceCtorEq])
  simp only [bne_iff_ne, ne_eq, bne_eq_false_iff_eq]
  refine ⟨fun h => ?_, fun h0 => ?_⟩
  · refine Retn.ret (π := []) hp hnp ⟨rfl, ?_⟩
    simp (config := { maxSteps := 2000000 }) only [go_sem, ↓reduceIte, Int.reduceToNat, Nat.reduceMul, Int.reduceBEq, Int.reduceBNe, Nat.reduceBEq, Nat.reduceAdd, Nat.reduceSub, Nat.reduceLeDiff, Nat.reduceEqDiff, Nat.reduceLT, reduceCtorEq]
    simp only [h, false_implies, not_false_eq_true, true_implies, and_self, and_true]
  have hv := netF_zero.1 h0
  have hml := many_le hv
  obtain ⟨M, hM⟩ : ∃ M : Nat, manyF n = M := ⟨(manyF n).toNat, by omega⟩
  have h10 := hv.nge
  have h12 := hv.nlo
  have hpl : ∀ {x}, x ∈ n.nodes.l → (placesF n).getD (idx n x) 0 = (pl n x : Int) ∧ pl n x < M := fun hx => by
    have := pl_ok hv hx
    rw [hM, Int.toNat_natCast] at this
    exact this
  refine AWpL.callA [] (s16 n hk hv) rfl rfl (by rw [hn]; rfl) rfl (fun r hr => by cases hr) fun rg v hv' => ?_
  obtain ⟨rfl, rfl⟩ := hv'
  refine ⟨Nat.zero_le _, ?_⟩
  rw [retS_nil]
  refine AWpL.ofM hn rfl ?_
  simp (config := { maxSteps := 2000000 }) only [go_sem, ↓reduceIte, Int.reduceToNat, Nat.reduceMul, Int.reduceBEq, Int.reduceBNe, Nat.reduceBEq, Nat.reduceAdd, Nat.reduceSub, Nat.reduceLeDiff, Nat.reduceEqDiff, Nat.reduceLT, reduceCtorEq, hM, Int.toNat_natCast]
  (repeat (refine And.intro (by first | omega | (refine ⟨by omega, by omega⟩) | (refine ⟨by omega, by omega, by omega⟩) | (simp only [List.length_map, List.length_range, List.length_append, List.length_cons, List.length_nil, List.length_replicate, List.length_set]; omega) | (simp; omega) | (intro hgd; cases hgd) | (intro hgd; refine ⟨hgd, ?_⟩; first | omega | (refine ⟨by omega, by omega⟩) | (simp; omega))) ?_))
  refine AWp.loop (fun k s => ∃ i : Nat, i + k = n.gens.l.length ∧ Weak E s ⟨[(1, .ptr 0 0 0), (5, .imm none true 1 ((placesF n).map ic)), (7, .hnd 1 0 M M true), (26, n.gens.av 5 gec), (27, I n.gens.l.length), (28, I i)], [.box 29 (netc n), .arr 41 3 ((sumsG n i).map smc)]⟩) (n := n.gens.l.length)
    ⟨0, by omega, weak_to [0, 1] hp hnp rfl (by simp (config := { maxSteps := 2000000 }) only [go_sem, ↓reduceIte, Int.reduceToNat, Nat.reduceMul, Int.reduceBEq, Int.reduceBNe, Nat.reduceBEq, Nat.reduceAdd, Nat.reduceSub, Nat.reduceLeDiff, Nat.reduceEqDiff, Nat.reduceLT, reduceCtorEq, Int.natCast_zero, Aw.pos]) (by simp (config := { maxSteps := 2000000 }) only [go_sem, ↓reduceIte, Int.reduceToNat, Nat.reduceMul, Int.reduceBEq, Int.reduceBNe, Nat.reduceBEq, Nat.reduceAdd, Nat.reduceSub, Nat.reduceLeDiff, Nat.reduceEqDiff, Nat.reduceLT, reduceCtorEq, Aw.renR, Aw.pos]; unfold sumsG sums0; rw [hM, Int.toNat_natCast, List.take_zero, List.foldl_nil, List.map_replicate]; rfl)⟩ ?_
  rintro k s ⟨i, hik, hw⟩
  refine AWp.weak hw (AWp.ofD [] [] hn mixed rfl ?_)
  rcases Nat.lt_or_ge i n.gens.l.length with hlt | hge
  · have e0 : decide ((i : Int) < (n.gens.l.length : Int)) = true := decide_eq_true (by omega)
    have e1 := getD_map gec hlt
    have e2 : IntKind.i64.wrap ((i : Int) + 1) = ((i + 1 : Nat) : Int) := by rw [w64 (by omega) (by omega)]; omega
    have hx := hv.ge _ (List.getElem_mem hlt)
    have hs : sumsG n (i + 1) = stG n (sumsG n i) n.gens.l[i] := foldl_take _ _ hlt
    obtain ⟨hsl, hsb⟩ := sumsG_ok hv i (by omega)
    generalize n.gens.l[i] = x at *
    obtain ⟨hp1, hp2⟩ := hpl hx.1
    have hgx := genE_zero hx.2
    rw [hM, Int.toNat_natCast] at hsl hsb
    have hb := hsb _ hp2
    unfold stG at hs
    generalize sumsG n i = l at *
    generalize pl n x.node = p at *
    have e3 := getD_mapD default smc (l := l) (i := p) (by omega)
    simp (config := { maxSteps := 2000000 }) only [go_sem, ↓reduceIte, Int.reduceToNat, Nat.reduceMul, Int.reduceBEq, Int.reduceBNe, Nat.reduceBEq, Nat.reduceAdd, Nat.reduceSub, Nat.reduceLeDiff, Nat.reduceEqDiff, Nat.reduceLT, reduceCtorEq, e0, e1]
    (repeat (refine And.intro (by first | omega | (refine ⟨by omega, by omega⟩) | (refine ⟨by omega, by omega, by omega⟩) | (simp only [List.length_map, List.length_range, List.length_append, List.length_cons, List.length_nil, List.length_replicate, List.length_set]; omega) | (simp; omega) | (intro hgd; cases hgd) | (intro hgd; refine ⟨hgd, ?_⟩; first | omega | (refine ⟨by omega, by omega⟩) | (simp; omega))) ?_))
    (refine AWpL.calle (s17 n hk hv x.node hx.1 none true) rfl (by rw [hn]; rfl) (by simp (config := { maxSteps := 2000000 }) only [go_sem, ↓reduceIte, Int.reduceToNat, Nat.reduceMul, Int.reduceBEq, Int.reduceBNe, Nat.reduceBEq, Nat.reduceAdd, Nat.reduceSub, Nat.reduceLeDiff, Nat.reduceEqDiff, Nat.reduceLT, reduceCtorEq]) (AWpL.ofM hn rfl ?_); simp (config := { maxSteps := 2000000 }) only [go_sem, ↓reduceIte, Int.reduceToNat, Nat.reduceMul, Int.reduceBEq, Int.reduceBNe, Nat.reduceBEq, Nat.reduceAdd, Nat.reduceSub, Nat.reduceLeDiff, Nat.reduceEqDiff, Nat.reduceLT, reduceCtorEq])
    simp (config := { maxSteps := 2000000 }) only [go_sem, ↓reduceIte, Int.reduceToNat, Nat.reduceMul, Int.reduceBEq, Int.reduceBNe, Nat.reduceBEq, Nat.reduceAdd, Nat.reduceSub, Nat.reduceLeDiff, Nat.reduceEqDiff, Nat.reduceLT, reduceCtorEq, hp1]
    refine ⟨by omega, ?_⟩
    refine AWp.plan (.take 0 [false, false, false, false, true, true, false, false, false, false] (.take 1 [true, false, false, false, true, true, false, false, false, false] (.take 2 [true, true, false, false, true, true, false, false, false, false] (.take 3 [true, true, true, false, true, true, false, false, false, false] (.take 4 [true, true, true, true, false, false, false, false, false, false] (.take 5 [true, true, true, true, true, false, false, false, false, false] (.take 6 [true, true, true, true, true, true, false, false, false, false] (.take 7 [true, true, true, true, true, true, true, false, false, false] (.take 8 [true, true, true, true, true, true, true, true, false, false] (.one 9 .done)))))))))) [true, true, true, true, true, true, true, true, true, false] mixed hn rfl rfl ?_
    have e4 : IntKind.i64.wrap ((l.getD p default).least + x.least) = (l.getD p default).least + x.least := by unfold SmB at hb; exact w64 (by omega) (by omega)
    have e5 : IntKind.i64.wrap ((l.getD p default).most + x.most) = (l.getD p default).most + x.most := by unfold SmB at hb; exact w64 (by omega) (by omega)
    generalize ha : l.getD p default = a at *
    have hs1 : (l.map smc).set p [I (a.least + x.least), I a.most, I a.demand] = (l.set p ⟨a.least + x.least, a.most, a.demand⟩).map smc := by rw [List.map_set]
    have e6 : ((l.set p ⟨a.least + x.least, a.most, a.demand⟩).map smc).getD p [] = [I (a.least + x.least), I a.most, I a.demand] := by
      rw [List.getD_eq_getElem?_getD, List.map_set, List.getElem?_set, if_pos rfl, if_pos (by rw [List.length_map]; omega)]; rfl
    have hs2 : ((l.set p ⟨a.least + x.least, a.most, a.demand⟩).map smc).set p [I (a.least + x.least), I (a.most + x.most), I a.demand] = (sumsG n (i + 1)).map smc := by
      rw [hs]
      unfold upd addG
      rw [ha, List.map_set, List.map_set, List.set_set]
    simp (config := { maxSteps := 2000000 }) only [go_sem, ↓reduceIte, Int.reduceToNat, Nat.reduceMul, Int.reduceBEq, Int.reduceBNe, Nat.reduceBEq, Nat.reduceAdd, Nat.reduceSub, Nat.reduceLeDiff, Nat.reduceEqDiff, Nat.reduceLT, reduceCtorEq, e3, e4]
    refine ⟨by omega, by omega, ?_⟩
    refine AWp.plan (.take 0 [false, false, false, false, true, true, false, false, false, false] (.take 1 [true, false, false, false, true, true, false, false, false, false] (.take 2 [true, true, false, false, true, true, false, false, false, false] (.take 3 [true, true, true, false, true, true, false, false, false, false] (.take 4 [true, true, true, true, false, false, false, false, false, false] (.take 5 [true, true, true, true, true, false, false, false, false, false] (.take 6 [true, true, true, true, true, true, false, false, false, false] (.take 7 [true, true, true, true, true, true, true, false, false, false] (.take 8 [true, true, true, true, true, true, true, true, false, false] (.one 9 .done)))))))))) [true, true, true, true, true, true, true, true, true, false] mixed hn rfl rfl ?_
    simp (config := { maxSteps := 2000000 }) only [go_sem, ↓reduceIte, Int.reduceToNat, Nat.reduceMul, Int.reduceBEq, Int.reduceBNe, Nat.reduceBEq, Nat.reduceAdd, Nat.reduceSub, Nat.reduceLeDiff, Nat.reduceEqDiff, Nat.reduceLT, reduceCtorEq, hs1, e6, e5, hs2, List.length_set, e2]
    refine ⟨by omega, by omega, ?_⟩
    exact ⟨k - 1, by omega, i + 1, by omega, weak_to [0, 1] hp hnp rfl (by simp (config := { maxSteps := 2000000 }) only [go_sem, ↓reduceIte, Int.reduceToNat, Nat.reduceMul, Int.reduceBEq, Int.reduceBNe, Nat.reduceBEq, Nat.reduceAdd, Nat.reduceSub, Nat.reduceLeDiff, Nat.reduceEqDiff, Nat.reduceLT, reduceCtorEq, Aw.pos]) (by simp (config := { maxSteps := 2000000 }) only [go_sem, ↓reduceIte, Int.reduceToNat, Nat.reduceMul, Int.reduceBEq, Int.reduceBNe, Nat.reduceBEq, Nat.reduceAdd, Nat.reduceSub, Nat.reduceLeDiff, Nat.reduceEqDiff, Nat.reduceLT, reduceCtorEq, Aw.renR, Aw.pos])⟩
  · have e0 : decide ((i : Int) < (n.gens.l.length : Int)) = false := decide_eq_false (by omega)
    obtain rfl : i = n.gens.l.length := by omega
    simp (config := { maxSteps := 2000000 }) only [go_sem, ↓reduceIte, Int.reduceToNat, Nat.reduceMul, Int.reduceBEq, Int.reduceBNe, Nat.reduceBEq, Nat.reduceAdd, Nat.reduceSub, Nat.reduceLeDiff, Nat.reduceEqDiff, Nat.reduceLT, reduceCtorEq, e0]
    clear hw hik hge e0
    refine AWp.loop (fun k s => ∃ i : Nat, i + k = n.loads.l.length ∧ Weak E s ⟨[(1, .ptr 0 0 0), (5, .imm none true 1 ((placesF n).map ic)), (7, .hnd 1 0 M M true), (59, n.loads.av 3 loc), (60, I n.loads.l.length), (61, I i)], [.box 29 (netc n), .arr 41 3 ((sumsL n i).map smc)]⟩) (n := n.loads.l.length)
      ⟨0, by omega, weak_to [0, 1] hp hnp rfl (by simp (config := { maxSteps := 2000000 }) only [go_sem, ↓reduceIte, Int.reduceToNat, Nat.reduceMul, Int.reduceBEq, Int.reduceBNe, Nat.reduceBEq, Nat.reduceAdd, Nat.reduceSub, Nat.reduceLeDiff, Nat.reduceEqDiff, Nat.reduceLT, reduceCtorEq, Int.natCast_zero, Aw.pos]) (by simp (config := { maxSteps := 2000000 }) only [go_sem, ↓reduceIte, Int.reduceToNat, Nat.reduceMul, Int.reduceBEq, Int.reduceBNe, Nat.reduceBEq, Nat.reduceAdd, Nat.reduceSub, Nat.reduceLeDiff, Nat.reduceEqDiff, Nat.reduceLT, reduceCtorEq, Aw.renR, Aw.pos]; rfl)⟩ ?_
    rintro k s ⟨i, hik, hw⟩
    refine AWp.weak hw (AWp.ofD [] [] hn mixed rfl ?_)
    rcases Nat.lt_or_ge i n.loads.l.length with hlt | hge
    · have e0 : decide ((i : Int) < (n.loads.l.length : Int)) = true := decide_eq_true (by omega)
      have e1 := getD_map loc hlt
      have e2 : IntKind.i64.wrap ((i : Int) + 1) = ((i + 1 : Nat) : Int) := by rw [w64 (by omega) (by omega)]; omega
      have hx := hv.lo _ (List.getElem_mem hlt)
      have hs : sumsL n (i + 1) = stL n (sumsL n i) n.loads.l[i] := foldl_take _ _ hlt
      obtain ⟨hsl, hsb⟩ := sumsL_ok hv i (by omega)
      generalize n.loads.l[i] = x at *
      obtain ⟨hp1, hp2⟩ := hpl hx.1
      have hgx := loaE_zero hx.2
      rw [hM, Int.toNat_natCast] at hsl hsb
      have hb := hsb _ hp2
      unfold stL at hs
      generalize sumsL n i = l at *
      generalize pl n x.node = p at *
      have e3 := getD_mapD default smc (l := l) (i := p) (by omega)
      have e4 : IntKind.i64.wrap ((l.getD p default).demand + x.demand) = (l.getD p default).demand + x.demand := by unfold SmB at hb; exact w64 (by omega) (by omega)
      generalize ha : l.getD p default = a at *
      have hs2 : (l.map smc).set p [I a.least, I a.most, I (a.demand + x.demand)] = (sumsL n (i + 1)).map smc := by
        rw [hs]
        unfold upd addLo
        rw [ha, List.map_set]
      simp (config := { maxSteps := 2000000 }) only [go_sem, ↓reduceIte, Int.reduceToNat, Nat.reduceMul, Int.reduceBEq, Int.reduceBNe, Nat.reduceBEq, Nat.reduceAdd, Nat.reduceSub, Nat.reduceLeDiff, Nat.reduceEqDiff, Nat.reduceLT, reduceCtorEq, e0, e1]
      (repeat (refine And.intro (by first | omega | (refine ⟨by omega, by omega⟩) | (refine ⟨by omega, by omega, by omega⟩) | (simp only [List.length_map, List.length_range, List.length_append, List.length_cons, List.length_nil, List.length_replicate, List.length_set]; omega) | (simp; omega) | (intro hgd; cases hgd) | (intro hgd; refine ⟨hgd, ?_⟩; first | omega | (refine ⟨by omega, by omega⟩) | (simp; omega))) ?_))
      refine AWp.plan (.take 0 [false, true, true, true, true, true, false, false, false, true, true, false, false, false, false] (.take 1 [true, false, true, true, true, false, false, false, false, true, true, false, false, false, false] (.take 2 [true, true, false, true, true, false, false, false, false, true, true, false, false, false, false] (.take 3 [true, true, true, false, false, false, false, false, false, true, true, false, false, false, false] (.take 4 [true, true, true, true, false, false, false, false, false, true, true, false, false, false, false] (.take 9 [true, true, true, true, true, true, true, true, true, false, false, false, false, false, false] (.take 10 [true, true, true, true, true, true, true, true, true, true, false, false, false, false, false] (.one 5 (.take 6 [true, true, true, true, true, true, false, false, false, true, true, false, false, false, false] (.take 7 [true, true, true, true, true, true, true, false, false, true, true, false, false, false, false] (.take 8 [true, true, true, true, true, true, true, true, false, true, true, false, false, false, false] (.take 11 [true, true, true, true, true, true, true, true, true, true, true, false, false, false, false] (.take 12 [true, true, true, true, true, true, true, true, true, true, true, true, false, false, false] (.take 13 [true, true, true, true, true, true, true, true, true, true, true, true, true, false, false] (.one 14 .done))))))))))))))) [true, true, true, true, true, true, true, true, true, true, true, true, true, true, false] mixed hn rfl rfl ?_
      simp (config := { maxSteps := 2000000 }) only [go_sem, ↓reduceIte, Int.reduceToNat, Nat.reduceMul, Int.reduceBEq, Int.reduceBNe, Nat.reduceBEq, Nat.reduceAdd, Nat.reduceSub, Nat.reduceLeDiff, Nat.reduceEqDiff, Nat.reduceLT, reduceCtorEq]
      refine AOne.calle (s17 n hk hv x.node hx.1 none true) rfl (by rw [hn]; rfl) (by simp (config := { maxSteps := 2000000 }) only [go_sem, ↓reduceIte, Int.reduceToNat, Nat.reduceMul, Int.reduceBEq, Int.reduceBNe, Nat.reduceBEq, Nat.reduceAdd, Nat.reduceSub, Nat.reduceLeDiff, Nat.reduceEqDiff, Nat.reduceLT, reduceCtorEq]) ?_
      simp (config := { maxSteps := 2000000 }) only [go_sem, ↓reduceIte, Int.reduceToNat, Nat.reduceMul, Int.reduceBEq, Int.reduceBNe, Nat.reduceBEq, Nat.reduceAdd, Nat.reduceSub, Nat.reduceLeDiff, Nat.reduceEqDiff, Nat.reduceLT, reduceCtorEq, hp1, e3, e4, hs2, e2]
      refine ⟨⟨by omega, by omega⟩, by omega, ⟨by omega, by omega⟩, by omega, ?_⟩
      exact ⟨k - 1, by omega, i + 1, by omega, weak_to [0, 1] hp hnp rfl (by simp (config := { maxSteps := 2000000 }) only [go_sem, ↓reduceIte, Int.reduceToNat, Nat.reduceMul, Int.reduceBEq, Int.reduceBNe, Nat.reduceBEq, Nat.reduceAdd, Nat.reduceSub, Nat.reduceLeDiff, Nat.reduceEqDiff, Nat.reduceLT, reduceCtorEq, Aw.pos]) (by simp (config := { maxSteps := 2000000 }) only [go_sem, ↓reduceIte, Int.reduceToNat, Nat.reduceMul, Int.reduceBEq, Int.reduceBNe, Nat.reduceBEq, Nat.reduceAdd, Nat.reduceSub, Nat.reduceLeDiff, Nat.reduceEqDiff, Nat.reduceLT, reduceCtorEq, Aw.renR, Aw.pos])⟩
    · have e0 : decide ((i : Int) < (n.loads.l.length : Int)) = false := decide_eq_false (by omega)
      obtain rfl : i = n.loads.l.length := by omega
      simp (config := { maxSteps := 2000000 }) only [go_sem, ↓reduceIte, Int.reduceToNat, Nat.reduceMul, Int.reduceBEq, Int.reduceBNe, Nat.reduceBEq, Nat.reduceAdd, Nat.reduceSub, Nat.reduceLeDiff, Nat.reduceEqDiff, Nat.reduceLT, reduceCtorEq, e0]
      refine Retn.ret (π := [1]) hp hnp ⟨rfl, ?_⟩
      simp (config := { maxSteps := 2000000 }) only [go_sem, ↓reduceIte, Int.reduceToNat, Nat.reduceMul, Int.reduceBEq, Int.reduceBNe, Nat.reduceBEq, Nat.reduceAdd, Nat.reduceSub, Nat.reduceLeDiff, Nat.reduceEqDiff, Nat.reduceLT, reduceCtorEq, Aw.renR, Aw.pos, h0, hM]
      exact ⟨fun h => absurd trivial h, rfl⟩
end Go.Proofs.Ytmkodhpbjedfkaa
