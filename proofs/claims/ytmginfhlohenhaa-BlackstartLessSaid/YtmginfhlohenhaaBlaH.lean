/- Black starts: plans. -/
import Derived.Test.YtmginfhlohenhaaAwZk
import Derived.Test.YtmginfhlohenhaaBlaG
set_option linter.unusedVariables false
set_option linter.unusedSimpArgs false
namespace Go.Proofs.Ytmginfhlohenhaa
open Go.Proofs.Ytmginfhlohenhaa.Aw
attribute [local go_sem] Int.natCast_zero Int.natCast_one bne_self_eq_false beq_self_eq_true Bool.not_true Bool.not_false Option.isSome_none Option.isSome_some Aw.bkM_nil Option.getD_some Option.getD_none Nat.sub_zero Int.toNat_zero Aw.frzS Aw.frzT Aw.frzA Aw.frzL Aw.frzR Aw.frzO Aw.frzOL Aw.frzOT Aw.frzOR Aw.killS Aw.mapT Aw.mapR Aw.killM Aw.resAVs Aw.resAV Aw.quietOps Aw.wpP Aw.wpT Aw.wpS Aw.AOp.mild List.getElem?_cons_zero List.getElem?_cons_succ Bool.and_false Bool.and_self Bool.false_and Aw.opOb Aw.gdB Aw.Rnd Aw.subTm List.length_map Int.toNat_natCast and_self Aw.SeqC Aw.stops Aw.Ends Aw.looks Aw.renA Aw.renL Aw.renT Aw.renS Aw.wpO Aw.aop Aw.putTm Aw.St.ev Aw.St.put Aw.St.putO Aw.binAV Aw.intBin Aw.strBin Aw.pickAV Aw.optInt Aw.AV.strip Aw.AV.guard Aw.AV.cells Aw.gdOb Aw.AOp.opds Aw.AOp.still Aw.ptrCells Aw.St.reg Aw.fillAV Aw.fillOb Aw.elsOb Aw.splice Aw.firm Aw.cellish Aw.AV.shut Aw.shutAll Aw.Seq Aw.Blk Aw.retS_nil Aw.mapA Aw.mapL Aw.borA Aw.borOb Aw.allOb Aw.tupOf Aw.params Aw.Opd.of Array.toList Value.cells List.map_cons List.map_nil List.getD_cons_zero List.getD_cons_succ List.getD_nil List.length_cons List.length_nil List.take_succ_cons List.take_zero List.take_nil List.drop_zero List.drop_succ_cons List.drop_nil List.set_cons_zero List.set_cons_succ List.append_nil List.nil_append List.cons_append List.all_cons List.all_nil cond_false cond_true if_true if_false true_and and_true Bool.and_true Bool.true_and Option.map_some Option.map_none false_implies forall_const implies_true forall_eq imp_self Bool.cond_false_right Bool.cond_true_left beq_true beq_false Bool.not_eq_true' Bool.false_eq_true Nat.zero_add Nat.add_zero Aw.eqCells Aw.stopDraw Aw.skipS Aw.exactCap Aw.revealS Aw.srcEls Aw.srcSz
attribute [local go_sem ↓] Aw.look_nil Aw.look_ite Aw.wpL_nil Aw.wpL_op Aw.wpL_gd Aw.wpQ_nil Aw.wpQ_op Aw.wpQ_gd Aw.wpC_draw Aw.wpC_reg Aw.wpC_skip Aw.wpC_ret Aw.wpC_exit Aw.wpC_seq Aw.wpC_block Aw.wpC_loop Aw.wpC_cond Aw.stopAt_nil Aw.stopAt_cons Aw.wpD_skip Aw.wpD_ret Aw.wpD_exit Aw.wpD_region Aw.wpD_draw Aw.wpM_nil Aw.wpM_op Aw.wpM_gd Aw.wpD_seq Aw.wpD_block Aw.wpD_loop Aw.wpD_cond
/- gridhall/blackstart.Plan -/
def a16 : ACode :=
  (.seq (.region false [] [
     ⟨(some 2), none, (.box 29 (.t 0))⟩,
     ⟨(some 4), none, (.mov (.v (.slice none 0 0)))⟩,
     ⟨(some 5), none, (.mov (.v (.int .i64 0)))⟩])
  (.seq (.seq (.region false [] [
     ⟨(some 11), none, (.load 6 true (.t 2))⟩,
     ⟨(some 12), none, (.mov (.t 1))⟩,
     ⟨(some 13), none, (.call 32 [(.t 11), (.t 12)])⟩,
     ⟨(some 6), none, (.mov (.t 13))⟩])
  (.seq (.region false [] [
     ⟨(some 14), none, (.mov (.t 6))⟩,
     ⟨(some 15), none, (.bin .neq 30 (.t 14) (.v (.int .i64 0)))⟩])
  (.cond (.t 15)
    (.seq (.region false [] [
       ⟨(some 16), none, (.mov (.t 6))⟩,
       ⟨(some 4), none, (.mov (.v (.slice none 0 0)))⟩,
       ⟨(some 5), none, (.mov (.t 16))⟩])
    .ret)
    .skip)))
  (.seq (.region false [] [
     ⟨(some 17), none, (.mov (.t 1))⟩,
     ⟨(some 18), none, (.call 14 [(.t 17)])⟩,
     ⟨(some 7), none, (.mov (.t 18))⟩])
  (.seq (.region false [] [
     ⟨(some 8), none, (.mov (.v (.slice none 0 0)))⟩])
  (.seq (.block 0 (.loop (.seq (.seq (.region false [] [
       ⟨(some 19), none, (.mov (.t 7))⟩,
       ⟨(some 20), none, (.len (.t 19))⟩,
       ⟨(some 21), none, (.fld 3 (.t 2))⟩,
       ⟨(some 22), none, (.load 1 false (.t 21))⟩,
       ⟨(some 23), none, (.len (.t 22))⟩,
       ⟨(some 24), none, (.bin .lss 3 (.t 20) (.t 23))⟩])
    (.cond (.t 24)
      .skip
      (.exit 0)))
    (.block 1 (.seq (.region false [] [
        ⟨(some 26), none, (.load 6 true (.t 2))⟩,
        ⟨(some 27), none, (.mov (.t 7))⟩,
        ⟨(some 28), none, (.call 33 [(.t 26), (.t 27)])⟩,
        ⟨(some 25), none, (.mov (.t 28))⟩,
        ⟨(some 29), none, (.ext 0 (.t 25))⟩,
        ⟨(some 30), none, (.ext 1 (.t 25))⟩,
        ⟨(some 9), none, (.alloc 50 (.agg #[(.string ⟨#[]⟩), (.slice none 0 0)]))⟩,
        ⟨none, none, (.store 2 (.t 9) (.t 29))⟩,
        ⟨(some 10), none, (.mov (.t 30))⟩])
     (.seq (.seq (.region false [] [
        ⟨(some 31), none, (.mov (.t 10))⟩,
        ⟨(some 32), none, (.un .not (.t 31))⟩])
     (.cond (.t 32)
       (.seq (.region false [] [
          ⟨(some 4), none, (.mov (.v (.slice none 0 0)))⟩,
          ⟨(some 5), none, (.mov (.v (.int .i64 8)))⟩])
       .ret)
       .skip))
     (.seq (.region false [] [
        ⟨(some 33), none, (.mov (.t 8))⟩,
        ⟨(some 34), none, (.load 2 true (.t 9))⟩,
        ⟨(some 35), none, (.bsl 50 2 1 [(0, (.t 34))])⟩,
        ⟨(some 36), none, (.app 50 2 40 (.agg #[(.string ⟨#[]⟩), (.slice none 0 0)]) (.t 33) (.t 35))⟩,
        ⟨(some 8), none, (.mov (.t 36))⟩])
     (.seq (.region false [] [
        ⟨(some 37), none, (.mov (.t 7))⟩,
        ⟨(some 38), none, (.fld 0 (.t 9))⟩,
        ⟨(some 39), none, (.load 1 false (.t 38))⟩,
        ⟨(some 40), none, (.bsl 9 1 1 [(0, (.t 39))])⟩,
        ⟨(some 41), none, (.app 9 1 16 (.string ⟨#[]⟩) (.t 37) (.t 40))⟩,
        ⟨(some 7), none, (.mov (.t 41))⟩])
     (.region false [] [
        ⟨(some 42), none, (.load 6 true (.t 2))⟩,
        ⟨(some 43), none, (.fld 1 (.t 9))⟩,
        ⟨(some 44), none, (.load 1 false (.t 43))⟩,
        ⟨(some 45), none, (.call 34 [(.t 42), (.t 44)])⟩,
        ⟨none, none, (.store 6 (.t 2) (.t 45))⟩])))))))))
  (.seq (.region false [] [
     ⟨(some 46), none, (.mov (.t 8))⟩,
     ⟨(some 4), none, (.mov (.t 46))⟩,
     ⟨(some 5), none, (.mov (.v (.int .i64 0)))⟩])
  .ret))))))
theorem k16 : FnIs Try.prog 16 47 [.t 4, .t 5] a16 := ⟨_, _, Try.func16, rfl, by kernel_rfl, by kernel_rfl, rfl⟩

theorem wayN_ok {n : Net} (hv : NetV n) {a b : ByteArray} (ha : a ∈ n.nodes.l) (hb : b ∈ n.nodes.l) :
    match wayN n a b with
    | some L => ∃ (p : List Nat) (far : List Int) (d : Int), L = nameP n p ∧ LabI (manyF n).toNat (oedF n) (atI n b) d far ∧ PathP (oedF n) far (atI n b) (atI n a) p ∧ (p.length : Int) = lab far (atI n a) ∧ p.length ≤ 24
    | none => ∃ far, Closed (manyF n).toNat (oedF n) (atI n b) (atI n a) far := by
  have h := wayF_ok (oed_in hv) (atI_int hv ha).2 (atI_int hv hb).2
  unfold wayN
  cases hw : wayF (manyF n).toNat (oedF n) (atI n a) (atI n b) with
  | none => rw [hw] at h; exact h
  | some p =>
    rw [hw] at h
    obtain ⟨far, d, h1, h2, h3, h4⟩ := h
    have hr := h1.rng _ (atI_int hv ha).2
    have := (many_le hv).2
    exact ⟨p, far, d, rfl, h1, h2, h3, by omega⟩
theorem way_names {n : Net} (hv : NetV n) {a b : ByteArray} (ha : a ∈ n.nodes.l) (hb : b ∈ n.nodes.l) {L : List ByteArray} (h : wayN n a b = some L) : (∀ s ∈ L, SwName n s) ∧ L.length ≤ 24 := by
  have hk := wayN_ok hv ha hb
  rw [h] at hk
  obtain ⟨p, far, d, rfl, _, hp, _, h24⟩ := hk
  exact ⟨name_sw (PathP_lt hp), by rw [List.length_map]; exact h24⟩
theorem nextF_nil (n : Net) : nextF n [] = (⟨#[]⟩, []) := by
  unfold nextF
  have : ∀ (l : List Gen), l.foldl (nextG n []) (⟨#[]⟩, []) = (⟨#[]⟩, []) := fun l => by
    induction l with
    | nil => rfl
    | cons g l ih => rw [List.foldl_cons]; exact ih
  exact this _
theorem next_names {n : Net} (hv : NetV n) {run : List ByteArray} (hr : ∀ r ∈ run, GenName n r) (h : (nextF n run).1 ≠ ⟨#[]⟩) : GenName n (nextF n run).1 ∧ (∀ s ∈ (nextF n run).2, SwName n s) ∧ (nextF n run).2.length ≤ 24 := by
  obtain ⟨g, hg, h1, h2, ⟨r, hr1, hr2⟩, _⟩ := nextF_ok hv h
  obtain ⟨w1, w2⟩ := way_names hv (nodG_in hv (hr r hr1)) (hv.ge g hg).1 hr2
  exact ⟨⟨g, hg, h1⟩, w1, w2⟩
theorem set_gens (n : Net) (k : Nat) : (setN n k).gens.l = n.gens.l := rfl
theorem close_gens : ∀ {L : List ByteArray} {n : Net}, (closeL n L).gens.l = n.gens.l
  | [], _ => rfl
  | s :: r, n => close_gens (L := r) (n := setS n s)
theorem GenName.close {n : Net} {L : List ByteArray} {s : ByteArray} : GenName (closeL n L) s ↔ GenName n s := by
  unfold GenName; rw [close_gens]
def planF : Nat → Net → List ByteArray → Option (List Stp)
  | 0, n, run => if run.length < n.gens.l.length then none else some []
  | f + 1, n, run => if run.length < n.gens.l.length then
      if (nextF n run).1 = ⟨#[]⟩ then none else (planF f (closeL n (nextF n run).2) (run ++ [(nextF n run).1])).map ((nextF n run) :: ·)
    else some []
def planR (n : Net) (l : List ByteArray) : Option (List Stp) := planF n.gens.l.length n l
def planE (n : Net) (l : List ByteArray) : Int := if checkE n l ≠ 0 then checkE n l else if (planR n l).isSome then 0 else 8
def planS (n : Net) (l : List ByteArray) : List Stp := if checkE n l ≠ 0 then [] else (planR n l).getD []
theorem chkL_gens {n : Net} : ∀ {l : List ByteArray} {seen : List ByteArray}, chkL n seen l = 0 → ∀ s ∈ l, GenName n s
  | [], _, _ => fun s h => by cases h
  | x :: r, seen, h => fun s hs => by
    unfold chkL at h
    split at h
    · cases h
    rename_i h1
    split at h
    · cases h
    rcases List.mem_cons.1 hs with rfl | hs
    · have key : ∀ (l : List Gen) (k : Nat), (∀ x ∈ l, x.name ≠ s) → fIndex (fun x => seq x.name s) k l = -1 := fun l => by
        induction l with
        | nil => intro k _; rfl
        | cons y l ih =>
          intro k h
          unfold fIndex
          rw [if_neg (fun e => h y List.mem_cons_self (seqq.1 e)), ih (k + 1) fun z hz => h z (List.mem_cons_of_mem _ hz)]
      rcases Classical.em (∃ x ∈ n.gens.l, x.name = s) with h2 | h2
      · exact h2
      · exfalso
        have := key n.gens.l 0 fun x hx e => h2 ⟨x, hx, e⟩
        unfold ixGe at h1
        omega
    · exact chkL_gens h s hs
theorem check_gens {n : Net} {l : List ByteArray} (h : checkE n l = 0) : NetV n ∧ ∀ s ∈ l, GenName n s := by
  unfold checkE at h
  split at h
  · rename_i h1; exact absurd h h1
  · rename_i h1
    exact ⟨netF_zero.1 (by simpa using h1), chkL_gens h⟩
theorem nodup_len : ∀ (m : Nat) (l : List Nat), l.Nodup → (∀ x ∈ l, x < m) → l.length ≤ m
  | 0, [], _, _ => Nat.le_refl _
  | 0, x :: l, _, h => absurd (h x List.mem_cons_self) (Nat.not_lt_zero _)
  | m + 1, l, hn, h => by
    have h1 := nodup_len m (l.erase m) (hn.erase m) fun x hx => by
      obtain ⟨h2, h3⟩ := (List.Nodup.mem_erase_iff hn).1 hx
      have := h x h3
      omega
    have h2 := List.length_erase (a := m) (l := l)
    split at h2 <;> omega
theorem chkL_nodup {n : Net} : ∀ {l seen : List ByteArray}, chkL n seen l = 0 → seen.Nodup → (seen ++ l).Nodup
  | [], seen, _, h => by rw [List.append_nil]; exact h
  | x :: r, seen, h, hs => by
    unfold chkL at h
    split at h
    · cases h
    split at h
    · cases h
    rename_i _ hx
    have hx : x ∉ seen := fun hm => hx (any_mem.2 hm)
    have := chkL_nodup (l := r) (seen := seen ++ [x]) h (by
      rw [List.nodup_append]
      exact ⟨hs, by simp, fun a ha b hb e => hx (by rw [List.mem_singleton.1 hb] at e; rw [← e]; exact ha)⟩)
    rwa [List.append_assoc] at this
theorem src_len {n : Net} {l : List ByteArray} (h : checkE n l = 0) : l.length ≤ n.gens.l.length := by
  obtain ⟨hv, hg⟩ := check_gens h
  have hc : chkL n [] l = 0 := by
    unfold checkE at h
    rwa [if_neg (by simp [netF_zero.2 hv])] at h
  have hnd : l.Nodup := chkL_nodup hc List.nodup_nil
  have := nodup_len n.gens.l.length (l.map fun s => (ixGe n s).toNat) ?_ ?_
  · rwa [List.length_map] at this
  · rw [List.nodup_iff_pairwise_ne, List.pairwise_iff_getElem] at hnd ⊢
    intro i j hi hj hij e
    rw [List.length_map] at hi hj
    rw [List.getElem_map, List.getElem_map] at e
    obtain ⟨_, _, h1⟩ := ix_gen (hg _ (List.getElem_mem hi))
    obtain ⟨_, _, h2⟩ := ix_gen (hg _ (List.getElem_mem hj))
    exact hnd i j hi hj hij (by rw [← h1, e, h2])
  · intro k hk
    obtain ⟨s, hs, rfl⟩ := List.mem_map.1 hk
    exact (ix_gen (hg s hs)).2.1
set_option maxRecDepth 20000 in
set_option maxHeartbeats 4000000 in
theorem s16 (n : Net) (hk : NetOk n) (nl fl) (l : List ByteArray) (hl0 : l.length ≤ 9223372036854775807) : Aw.Spec Try.prog 16 [] [neta n, ss nl fl l] (fun rg v => rg = [.arr 50 2 ((planS n l).map stc)] ∧ v = .tup [.hnd 0 0 (planS n l).length (planS n l).length false, I (planE n l)]) := by
  refine Aw.Spec.regsW k16 rfl rfl fun E hn hnp hp => ?_
  unfold a16
  have pin : ∀ r, E.pin r = none := fun r => hp.none hnp (Nat.zero_le _)
  refine AWp.ofD [] [] hn mixed rfl ?_
  simp (config := { maxSteps := 2000000 }) only [go_sem, ↓reduceIte, Int.reduceToNat, Nat.reduceMul, Int.reduceBEq, Int.reduceBNe, Nat.reduceBEq, Nat.reduceAdd, Nat.reduceSub, Nat.reduceLeDiff, Nat.reduceEqDiff, Nat.reduceLT, reduceCtorEq]
  (refine AWpL.calle (s32 n hk nl fl l (by omega)) rfl (by rw [hn]; rfl) (by simp (config := { maxSteps := 2000000 }) only [go_sem, ↓reduceIte, Int.reduceToNat, Nat.reduceMul, Int.reduceBEq, Int.reduceBNe, Nat.reduceBEq, Nat.reduceAdd, Nat.reduceSub, Nat.reduceLeDiff, Nat.reduceEqDiff, Nat.reduceLT, reduceCtorEq]) (AWpL.ofM hn rfl ?_); simp (config := { maxSteps := 2000000 }) only [go_sem, ↓reduceIte, Int.reduceToNat, Nat.reduceMul, Int.reduceBEq, Int.reduceBNe, Nat.reduceBEq, Nat.reduceAdd, Nat.reduceSub, Nat.reduceLeDiff, Nat.reduceEqDiff, Nat.reduceLT, reduceCtorEq])
  refine ⟨fun h => ?_, fun h => ?_⟩
  · have h1 : checkE n l ≠ 0 := by simpa using h
    have hS : planS n l = [] := by unfold planS; rw [if_pos h1]
    have hE : planE n l = checkE n l := by unfold planE; rw [if_pos h1]
    refine Retn.weak (weak_nil 4 50 2 (by rfl)) _ ?_
    rw [hS, hE]
    refine Retn.ret (π := [1]) hp hnp ⟨rfl, ?_⟩
    simp (config := { maxSteps := 2000000 }) only [go_sem, ↓reduceIte, Int.reduceToNat, Nat.reduceMul, Int.reduceBEq, Int.reduceBNe, Nat.reduceBEq, Nat.reduceAdd, Nat.reduceSub, Nat.reduceLeDiff, Nat.reduceEqDiff, Nat.reduceLT, reduceCtorEq, Aw.renR, Aw.pos]
  have h1 : checkE n l = 0 := by simpa using h
  obtain ⟨hv, hgs⟩ := check_gens h1
  have hl : l.length ≤ 10 := Nat.le_trans (src_len h1) hv.nge
  refine AWpL.callA [] (o14 nl fl l (by omega)) rfl rfl (by rw [hn]; rfl) rfl (fun r hr => by cases hr) fun rg v hv' => ?_
  obtain ⟨rfl, rfl⟩ := hv'
  refine ⟨Nat.zero_le _, ?_⟩
  rw [retS_new]
  refine AWpL.ofM hn rfl ?_
  simp (config := { maxSteps := 2000000 }) only [go_sem, ↓reduceIte, Int.reduceToNat, Nat.reduceMul, Int.reduceBEq, Int.reduceBNe, Nat.reduceBEq, Nat.reduceAdd, Nat.reduceSub, Nat.reduceLeDiff, Nat.reduceEqDiff, Nat.reduceLT, reduceCtorEq]
  have h10 := hv.nge
  have hpS : planS n l = (planR n l).getD [] := by unfold planS; rw [if_neg (by simp [h1])]
  have hpE : planE n l = if (planR n l).isSome then 0 else 8 := by unfold planE; rw [if_neg (by simp [h1])]
  rw [hpS, hpE]
  refine AWp.weak (weak_nil 8 50 2 rfl) ?_
  refine AWp.loop (fun k s => ∃ (m : Net) (run : List ByteArray) (out : List Stp), NetOk m ∧ NetV m ∧ m.gens.l = n.gens.l ∧ (∀ r ∈ run, GenName m r) ∧ run.length ≤ 10 + out.length ∧ out.length + k ≤ 10 ∧ k ≤ n.gens.l.length ∧ n.gens.l.length ≤ run.length + k ∧ planR n l = (planF k m run).map (out ++ ·) ∧ Weak E s ⟨[(2, .ptr 0 0 0), (7, .hnd 1 0 run.length run.length false), (8, .hnd 2 0 out.length out.length false)], [.box 29 (netc m), .arr 9 1 (run.map sc), .arr 50 2 (out.map stc)]⟩) (n := n.gens.l.length)
    ⟨n, l, [], hk, hv, rfl, hgs, by simp; omega, by simp; omega, Nat.le_refl _, by omega, by unfold planR; cases planF n.gens.l.length n l <;> rfl, weak_to [0, 1, 2] hp hnp rfl (by simp (config := { maxSteps := 2000000 }) only [go_sem, ↓reduceIte, Int.reduceToNat, Nat.reduceMul, Int.reduceBEq, Int.reduceBNe, Nat.reduceBEq, Nat.reduceAdd, Nat.reduceSub, Nat.reduceLeDiff, Nat.reduceEqDiff, Nat.reduceLT, reduceCtorEq, Aw.pos]) (by simp (config := { maxSteps := 2000000 }) only [go_sem, ↓reduceIte, Int.reduceToNat, Nat.reduceMul, Int.reduceBEq, Int.reduceBNe, Nat.reduceBEq, Nat.reduceAdd, Nat.reduceSub, Nat.reduceLeDiff, Nat.reduceEqDiff, Nat.reduceLT, reduceCtorEq, Aw.renR, Aw.pos] <;> rfl)⟩ ?_
  rintro k s ⟨m, run, out, hmk, hmv, hmg, hmr, hrl, hok, hkn, hnk, hpl, hw⟩
  refine AWp.weak hw (AWp.ofD [] [] hn mixed rfl ?_)
  rw [← hmg] at hnk hkn
  rcases Nat.lt_or_ge run.length m.gens.l.length with hlt | hge
  · have e0 : decide ((run.length : Int) < (m.gens.l.length : Int)) = true := decide_eq_true (by omega)
    obtain ⟨k, rfl⟩ : ∃ g, k = g + 1 := ⟨k - 1, by omega⟩
    have hm10 := hmv.nge
    simp (config := { maxSteps := 2000000 }) only [go_sem, ↓reduceIte, Int.reduceToNat, Nat.reduceMul, Int.reduceBEq, Int.reduceBNe, Nat.reduceBEq, Nat.reduceAdd, Nat.reduceSub, Nat.reduceLeDiff, Nat.reduceEqDiff, Nat.reduceLT, reduceCtorEq, e0]
    rw [planF, if_pos hlt] at hpl
    rcases List.eq_nil_or_concat run with rfl | ⟨run0, r0, hrc⟩
    · have hz : nextF m [] = (⟨#[]⟩, []) := nextF_nil m
      rw [hz, if_pos rfl] at hpl
      rw [hpl]
      refine AWpL.callA [1] (s33 m hmk hmv [] hmr (by simp)).spec rfl rfl (by rw [hn]; rfl) rfl (fun r hr => .inr (pin r)) fun rg v hv' => ?_
      obtain ⟨rfl, rfl⟩ := hv'
      refine ⟨by simp, AWpL.ofM hn rfl ?_⟩
      rw [hz]
      simp (config := { maxSteps := 2000000 }) only [go_sem, ↓reduceIte, Int.reduceToNat, Nat.reduceMul, Int.reduceBEq, Int.reduceBNe, Nat.reduceBEq, Nat.reduceAdd, Nat.reduceSub, Nat.reduceLeDiff, Nat.reduceEqDiff, Nat.reduceLT, reduceCtorEq, Aw.retS, Aw.retRg, Aw.kpM, Aw.bkM, Aw.pos, Aw.isBox, decide_true]
      refine Retn.weak (weak_nil 4 50 2 (by rfl)) _ ?_
      refine Retn.ret (π := [5]) hp hnp ⟨rfl, ?_⟩
      simp (config := { maxSteps := 2000000 }) only [go_sem, ↓reduceIte, Int.reduceToNat, Nat.reduceMul, Int.reduceBEq, Int.reduceBNe, Nat.reduceBEq, Nat.reduceAdd, Nat.reduceSub, Nat.reduceLeDiff, Nat.reduceEqDiff, Nat.reduceLT, reduceCtorEq, Aw.renR, Aw.pos]
    have hrun0 : 0 < run.length := by rw [hrc]; simp
    refine AWpL_callK [1] 7 (s33 m hmk hmv run hmr (by omega)) rfl rfl (by rw [hn]; rfl) rfl (fun r hr => .inr (pin r)) (by rfl) (by rfl) hrun0 (by decide) fun rg v hv' => ?_
    obtain ⟨rfl, rfl⟩ := hv'
    refine ⟨by simp, AWpL.ofM hn rfl ?_⟩
    cases hd : decide ((nextF m run).1 = ⟨#[]⟩) with
    | true =>
      rw [if_pos (of_decide_eq_true hd)] at hpl
      rw [hpl]
      simp (config := { maxSteps := 2000000 }) only [go_sem, ↓reduceIte, Int.reduceToNat, Nat.reduceMul, Int.reduceBEq, Int.reduceBNe, Nat.reduceBEq, Nat.reduceAdd, Nat.reduceSub, Nat.reduceLeDiff, Nat.reduceEqDiff, Nat.reduceLT, reduceCtorEq, Aw.retS, Aw.retRg, Aw.kpM, Aw.bkM, Aw.pos, Aw.isBox]
      refine Retn.weak (weak_nil 4 50 2 (by rfl)) _ ?_
      refine Retn.ret (π := [5]) hp hnp ⟨rfl, ?_⟩
      simp (config := { maxSteps := 2000000 }) only [go_sem, ↓reduceIte, Int.reduceToNat, Nat.reduceMul, Int.reduceBEq, Int.reduceBNe, Nat.reduceBEq, Nat.reduceAdd, Nat.reduceSub, Nat.reduceLeDiff, Nat.reduceEqDiff, Nat.reduceLT, reduceCtorEq, Aw.renR, Aw.pos]
    | false =>
      have hne := of_decide_eq_false hd
      rw [if_neg hne] at hpl
      obtain ⟨q1, q2, q3⟩ := next_names hmv hmr hne
      generalize nextF m run = st at *
      simp (config := { maxSteps := 2000000 }) only [go_sem, ↓reduceIte, Int.reduceToNat, Nat.reduceMul, Int.reduceBEq, Int.reduceBNe, Nat.reduceBEq, Nat.reduceAdd, Nat.reduceSub, Nat.reduceLeDiff, Nat.reduceEqDiff, Nat.reduceLT, reduceCtorEq, Aw.retS, Aw.retRg, Aw.kpM, Aw.bkM, Aw.pos, Aw.isBox]
      refine AWpL.app (r := 2) (els := out.map stc) (ys := [stc st]) rfl rfl rfl rfl (by rw [hn]; rfl) (by rw [List.length_map]) (pin 2) (by simp (config := { maxSteps := 2000000 }) only [go_sem, ↓reduceIte, Int.reduceToNat, Nat.reduceMul, Int.reduceBEq, Int.reduceBNe, Nat.reduceBEq, Nat.reduceAdd, Nat.reduceSub, Nat.reduceLeDiff, Nat.reduceEqDiff, Nat.reduceLT, reduceCtorEq, Nat.le_refl]) (fun el hm y hy => by
        rw [List.mem_singleton.1 hm] at hy
        rcases List.mem_cons.1 hy with rfl | hy
        · rfl
        · rw [List.mem_singleton.1 hy]; rfl) (by simp only [List.length_cons, List.length_nil]; omega) (by simp only [List.length_cons, List.length_nil]; omega) (AWpL.ofM hn rfl ?_)
      have hap : out.map stc ++ [stc st] = (out ++ [st]).map stc := by rw [List.map_append]; rfl
      have hl2 : out.length + 1 = (out ++ [st]).length := by rw [List.length_append]; rfl
      simp (config := { maxSteps := 2000000 }) only [go_sem, ↓reduceIte, Int.reduceToNat, Nat.reduceMul, Int.reduceBEq, Int.reduceBNe, Nat.reduceBEq, Nat.reduceAdd, Nat.reduceSub, Nat.reduceLeDiff, Nat.reduceEqDiff, Nat.reduceLT, reduceCtorEq, hap, hl2]
      refine AWpL.app (r := 1) (els := run.map sc) (ys := [sc st.1]) rfl rfl rfl rfl (by rw [hn]; rfl) (by rw [List.length_map]) (pin 1) (by simp (config := { maxSteps := 2000000 }) only [go_sem, ↓reduceIte, Int.reduceToNat, Nat.reduceMul, Int.reduceBEq, Int.reduceBNe, Nat.reduceBEq, Nat.reduceAdd, Nat.reduceSub, Nat.reduceLeDiff, Nat.reduceEqDiff, Nat.reduceLT, reduceCtorEq, Nat.le_refl]) (fun el hm y hy => by
        rw [List.mem_singleton.1 hm] at hy
        rw [List.mem_singleton.1 hy]; rfl) (by simp only [List.length_cons, List.length_nil]; omega) (by simp only [List.length_cons, List.length_nil]; omega) (AWpL.ofM hn rfl ?_)
      have hap2 : run.map sc ++ [sc st.1] = (run ++ [st.1]).map sc := by rw [List.map_append]; rfl
      have hl3 : run.length + 1 = (run ++ [st.1]).length := by rw [List.length_append]; rfl
      simp (config := { maxSteps := 2000000 }) only [go_sem, ↓reduceIte, Int.reduceToNat, Nat.reduceMul, Int.reduceBEq, Int.reduceBNe, Nat.reduceBEq, Nat.reduceAdd, Nat.reduceSub, Nat.reduceLeDiff, Nat.reduceEqDiff, Nat.reduceLT, reduceCtorEq, hap2, hl3]
      refine AWpL.callA [] (s34 m hmk hmv none false st.2 q2 (by omega)) rfl rfl (by rw [hn]; rfl) rfl (fun r hr => by cases hr) fun rg v hv' => ?_
      obtain ⟨rfl, rfl⟩ := hv'
      refine ⟨Nat.zero_le _, ?_⟩
      rw [retS_new]
      refine AWpL.ofM hn rfl ?_
      simp (config := { maxSteps := 2000000 }) only [go_sem, ↓reduceIte, Int.reduceToNat, Nat.reduceMul, Int.reduceBEq, Int.reduceBNe, Nat.reduceBEq, Nat.reduceAdd, Nat.reduceSub, Nat.reduceLeDiff, Nat.reduceEqDiff, Nat.reduceLT, reduceCtorEq]
      obtain ⟨c1, c2, c3⟩ := close_ok hmk hmv q2
      refine ⟨k, by omega, closeL m st.2, run ++ [st.1], out ++ [st], c1, c2, by rw [close_gens]; exact hmg, fun r hr => GenName.close.2 ?_, by rw [← hl2, ← hl3]; omega, by rw [← hl2]; omega, by rw [← hmg]; omega, by rw [← hmg, ← hl3]; omega, ?_, weak_to [0, 1, 2] hp hnp rfl (by simp (config := { maxSteps := 2000000 }) only [go_sem, ↓reduceIte, Int.reduceToNat, Nat.reduceMul, Int.reduceBEq, Int.reduceBNe, Nat.reduceBEq, Nat.reduceAdd, Nat.reduceSub, Nat.reduceLeDiff, Nat.reduceEqDiff, Nat.reduceLT, reduceCtorEq, Aw.pos]) (by simp (config := { maxSteps := 2000000 }) only [go_sem, ↓reduceIte, Int.reduceToNat, Nat.reduceMul, Int.reduceBEq, Int.reduceBNe, Nat.reduceBEq, Nat.reduceAdd, Nat.reduceSub, Nat.reduceLeDiff, Nat.reduceEqDiff, Nat.reduceLT, reduceCtorEq, Aw.renR, Aw.pos] <;> rfl)⟩
      · rcases List.mem_append.1 hr with hr | hr
        · exact hmr r hr
        · rw [List.mem_singleton.1 hr]; exact q1
      · rw [hpl]
        cases planF k (closeL m st.2) (run ++ [st.1]) with
        | none => rfl
        | some y =>
          show some (out ++ st :: y) = some (out ++ [st] ++ y)
          rw [List.append_assoc]; rfl
  · have e0 : decide ((run.length : Int) < (m.gens.l.length : Int)) = false := decide_eq_false (by omega)
    have hpz : planF k m run = some [] := by cases k <;> unfold planF <;> rw [if_neg (by omega)]
    rw [hpz] at hpl
    rw [hpl]
    simp (config := { maxSteps := 2000000 }) only [go_sem, ↓reduceIte, Int.reduceToNat, Nat.reduceMul, Int.reduceBEq, Int.reduceBNe, Nat.reduceBEq, Nat.reduceAdd, Nat.reduceSub, Nat.reduceLeDiff, Nat.reduceEqDiff, Nat.reduceLT, reduceCtorEq, e0]
    refine Retn.ret (π := [2]) hp hnp ⟨rfl, ?_⟩
    simp (config := { maxSteps := 2000000 }) only [go_sem, ↓reduceIte, Int.reduceToNat, Nat.reduceMul, Int.reduceBEq, Int.reduceBNe, Nat.reduceBEq, Nat.reduceAdd, Nat.reduceSub, Nat.reduceLeDiff, Nat.reduceEqDiff, Nat.reduceLT, reduceCtorEq, Aw.renR, Aw.pos, Option.map_some, Option.getD_some, Option.isSome_some, List.append_nil]
end Go.Proofs.Ytmginfhlohenhaa
