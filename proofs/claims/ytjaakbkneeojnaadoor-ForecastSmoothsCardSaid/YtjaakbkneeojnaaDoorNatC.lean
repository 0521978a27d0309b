/- Numbers: Sub; trim of an array that the caller still holds. -/
import Derived.Test.YtjaakbkneeojnaaDoorAwZl
import Derived.Test.YtjaakbkneeojnaaDoorNatB
set_option linter.unusedVariables false
set_option linter.unusedSimpArgs false
namespace Go.Proofs.YtjaakbkneeojnaaDoor
open Go.Proofs.YtjaakbkneeojnaaDoor.Aw
attribute [local go_sem] Int.natCast_zero Int.natCast_one bne_self_eq_false beq_self_eq_true Bool.not_true Bool.not_false Option.isSome_none Option.isSome_some Aw.bkM_nil Option.getD_some Option.getD_none Nat.sub_zero Int.toNat_zero Aw.frzS Aw.frzT Aw.frzA Aw.frzL Aw.frzR Aw.frzO Aw.frzOL Aw.frzOT Aw.frzOR Aw.killS Aw.mapT Aw.mapR Aw.killM Aw.resAVs Aw.resAV Aw.quietOps Aw.wpP Aw.wpT Aw.wpS Aw.AOp.mild List.getElem?_cons_zero List.getElem?_cons_succ Bool.and_false Bool.and_self Bool.false_and Aw.opOb Aw.gdB Aw.Rnd Aw.subTm List.length_map Int.toNat_natCast and_self Aw.SeqC Aw.stops Aw.Ends Aw.looks Aw.renA Aw.renL Aw.renT Aw.renS Aw.wpO Aw.aop Aw.putTm Aw.St.ev Aw.St.put Aw.St.putO Aw.binAV Aw.intBin Aw.strBin Aw.pickAV Aw.optInt Aw.AV.strip Aw.AV.guard Aw.AV.cells Aw.gdOb Aw.AOp.opds Aw.AOp.still Aw.ptrCells Aw.St.reg Aw.fillAV Aw.fillOb Aw.elsOb Aw.splice Aw.firm Aw.cellish Aw.AV.shut Aw.shutAll Aw.Seq Aw.Blk Aw.retS_nil Aw.mapA Aw.mapL Aw.borA Aw.borOb Aw.allOb Aw.tupOf Aw.params Aw.Opd.of Array.toList Value.cells List.map_cons List.map_nil List.getD_cons_zero List.getD_cons_succ List.getD_nil List.length_cons List.length_nil List.take_succ_cons List.take_zero List.take_nil List.drop_zero List.drop_succ_cons List.drop_nil List.set_cons_zero List.set_cons_succ List.append_nil List.nil_append List.cons_append List.all_cons List.all_nil cond_false cond_true if_true if_false true_and and_true Bool.and_true Bool.true_and Option.map_some Option.map_none false_implies forall_const implies_true forall_eq imp_self Bool.cond_false_right Bool.cond_true_left beq_true beq_false Bool.not_eq_true' Bool.false_eq_true Nat.zero_add Nat.add_zero Aw.eqCells Aw.stopDraw Aw.skipS Aw.exactCap Aw.revealS Aw.srcEls Aw.srcSz
attribute [local go_sem ↓] Aw.look_nil Aw.look_ite Aw.wpL_nil Aw.wpL_op Aw.wpL_gd Aw.wpQ_nil Aw.wpQ_op Aw.wpQ_gd Aw.wpC_draw Aw.wpC_reg Aw.wpC_skip Aw.wpC_ret Aw.wpC_exit Aw.wpC_seq Aw.wpC_block Aw.wpC_loop Aw.wpC_cond Aw.stopAt_nil Aw.stopAt_cons Aw.wpD_skip Aw.wpD_ret Aw.wpD_exit Aw.wpD_region Aw.wpD_draw Aw.wpM_nil Aw.wpM_op Aw.wpM_gd Aw.wpD_seq Aw.wpD_block Aw.wpD_loop Aw.wpD_cond
/- (gridhall/nat.N).Sub -/
def a71 : ACode :=
  (.seq (.region false [] [
     ⟨(some 4), none, (.mov (.v (.slice none 0 0)))⟩])
  (.seq (.region false [] [
     ⟨(some 9), none, (.mov (.t 0))⟩,
     ⟨(some 10), none, (.len (.t 9))⟩,
     ⟨(some 11), none, (.mksl 99 1 4 (.int .u32 0) (.t 10) (.t 10))⟩,
     ⟨(some 5), none, (.mov (.t 11))⟩])
  (.seq (.region false [] [
     ⟨(some 6), none, (.mov (.v (.int .i64 0)))⟩])
  (.seq (.seq (.region false [] [
     ⟨(some 12), none, (.mov (.t 0))⟩,
     ⟨(some 13), none, (.len (.t 12))⟩,
     ⟨(some 14), none, (.mov (.v (.int .i64 0)))⟩])
  (.block 0 (.loop (.seq (.region false [] [
       ⟨(some 15), none, (.bin .lss 3 (.t 14) (.t 13))⟩])
    (.seq (.cond (.t 15)
      .skip
      (.exit 0))
    (.seq (.block 1 (.seq (.region false [] [
        ⟨(some 16), none, (.mov (.t 14))⟩,
        ⟨(some 7), none, (.mov (.t 16))⟩])
     (.seq (.region false [] [
        ⟨(some 17), none, (.mov (.t 0))⟩,
        ⟨(some 18), none, (.mov (.t 7))⟩,
        ⟨(some 19), none, (.idx 1 (.t 17) (.t 18))⟩,
        ⟨(some 20), none, (.load 1 false (.t 19))⟩,
        ⟨(some 21), none, (.itoi .i64 (.t 20))⟩,
        ⟨(some 22), none, (.mov (.t 6))⟩,
        ⟨(some 23), none, (.bin .sub 2 (.t 21) (.t 22))⟩,
        ⟨(some 8), none, (.mov (.t 23))⟩])
     (.seq (.seq (.region false [] [
        ⟨(some 24), none, (.mov (.t 7))⟩,
        ⟨(some 25), none, (.mov (.t 1))⟩,
        ⟨(some 26), none, (.len (.t 25))⟩,
        ⟨(some 27), none, (.bin .lss 3 (.t 24) (.t 26))⟩])
     (.cond (.t 27)
       (.region false [] [
          ⟨(some 28), none, (.mov (.t 8))⟩,
          ⟨(some 29), none, (.mov (.t 1))⟩,
          ⟨(some 30), none, (.mov (.t 7))⟩,
          ⟨(some 31), none, (.idx 1 (.t 29) (.t 30))⟩,
          ⟨(some 32), none, (.load 1 false (.t 31))⟩,
          ⟨(some 33), none, (.itoi .i64 (.t 32))⟩,
          ⟨(some 34), none, (.bin .sub 2 (.t 28) (.t 33))⟩,
          ⟨(some 8), none, (.mov (.t 34))⟩])
       .skip))
     (.seq (.region false [] [
        ⟨(some 6), none, (.mov (.v (.int .i64 0)))⟩])
     (.seq (.seq (.region false [] [
        ⟨(some 35), none, (.mov (.t 8))⟩,
        ⟨(some 36), none, (.bin .lss 2 (.t 35) (.v (.int .i64 0)))⟩])
     (.cond (.t 36)
       (.seq (.region false [] [
          ⟨(some 37), none, (.mov (.t 8))⟩,
          ⟨(some 38), none, (.bin .add 2 (.t 37) (.v (.int .i64 1000000000)))⟩,
          ⟨(some 8), none, (.mov (.t 38))⟩])
       (.region false [] [
          ⟨(some 6), none, (.mov (.v (.int .i64 1)))⟩]))
       .skip))
     (.region false [] [
        ⟨(some 39), none, (.mov (.t 5))⟩,
        ⟨(some 40), none, (.mov (.t 7))⟩,
        ⟨(some 41), none, (.mov (.t 8))⟩,
        ⟨(some 42), none, (.itoi .u32 (.t 41))⟩,
        ⟨(some 43), none, (.idx 1 (.t 39) (.t 40))⟩,
        ⟨none, none, (.store 1 (.t 43) (.t 42))⟩])))))))
    (.region false [] [
       ⟨(some 44), none, (.bin .add 3 (.t 14) (.v (.int .i64 1)))⟩,
       ⟨(some 14), none, (.mov (.t 44))⟩])))))))
  (.seq (.region false [] [
     ⟨(some 45), none, (.mov (.t 5))⟩,
     ⟨(some 46), none, (.call 81 [(.t 45)])⟩,
     ⟨(some 4), none, (.mov (.t 46))⟩])
  .ret)))))
theorem k71 : FnIs Tryd.prog 71 47 [.t 4] a71 := ⟨_, _, Tryd.func71, rfl, by kernel_rfl, by kernel_rfl, rfl⟩

theorem uset (O : List Nat) (i d : Nat) : (O.map uc).set i [.val (.int .u32 d)] = (O.set i d).map uc := by rw [List.map_set]
theorem urep (n : Nat) : List.replicate n [AV.val (.int .u32 0)] = (List.replicate n 0).map uc := by rw [List.map_replicate]; rfl
theorem trim_step (l : List Nat) (m : Nat) (hm : m < l.length) : trimL (l.take (m + 1)) = if l.getD m 0 = 0 then trimL (l.take m) else l.take (m + 1) := by
  have e : l.take (m + 1) = l.take m ++ [l.getD m 0] := by
    rw [take_get hm, List.getD_eq_getElem?_getD, List.getElem?_eq_getElem hm]; rfl
  rw [e]
  generalize l.take m = m0
  generalize l.getD m 0 = d
  unfold trimL
  rw [List.reverse_append, List.reverse_singleton, List.singleton_append, List.dropWhile_cons]
  by_cases h : d = 0
  · rw [if_pos (by simpa using h), if_pos h]
  · rw [if_neg (by simpa using h), if_neg h, List.reverse_cons, List.reverse_reverse]
set_option maxRecDepth 20000 in
/-- trim of an array that was lent. -/
theorem s81H (O : List Nat) (ex : Bool) (n : Nat) (hn' : n = O.length) (hl : O.length ≤ 2000010) : Aw.Spec Tryd.prog 81 [.arr 99 1 (O.map uc)] [.hnd 0 0 n n ex] (fun rg v => rg = [.arr 99 1 (O.map uc)] ∧ v = .hnd 0 0 (trimL O).length n ex) := by
  subst hn'
  refine Aw.Spec.regsW k81 rfl rfl fun E hn hnp hp => ?_
  unfold a81
  have pin : ∀ r, E.pin r = none := fun r => hp.arr r (by
    cases r <;> rfl)
  refine AWp.ofD [] [] hn mixed rfl ?_
  simp (config := { maxSteps := 2000000 }) only [go_sem, ↓reduceIte, Int.reduceToNat, Nat.reduceMul, Int.reduceBEq, Int.reduceBNe, Nat.reduceBEq, Nat.reduceAdd, Nat.reduceSub, Nat.reduceLeDiff, Nat.reduceEqDiff, Nat.reduceLT, reduceCtorEq]
  refine AWp.loop (fun k s => ∃ m : Nat, m = k ∧ m ≤ O.length ∧ trimL (O.take m) = trimL O ∧ Weak E s ⟨[(0, .hnd 0 0 m O.length ex)], [.arr 99 1 (O.map uc)]⟩) (n := O.length)
    ⟨O.length, rfl, Nat.le_refl _, by rw [List.take_of_length_le (Nat.le_refl _)], weak_to [0] hp hnp rfl (by simp (config := { maxSteps := 2000000 }) only [go_sem, ↓reduceIte, Int.reduceToNat, Nat.reduceMul, Int.reduceBEq, Int.reduceBNe, Nat.reduceBEq, Nat.reduceAdd, Nat.reduceSub, Nat.reduceLeDiff, Nat.reduceEqDiff, Nat.reduceLT, reduceCtorEq, Aw.pos]) (by simp (config := { maxSteps := 2000000 }) only [go_sem, ↓reduceIte, Int.reduceToNat, Nat.reduceMul, Int.reduceBEq, Int.reduceBNe, Nat.reduceBEq, Nat.reduceAdd, Nat.reduceSub, Nat.reduceLeDiff, Nat.reduceEqDiff, Nat.reduceLT, reduceCtorEq, Aw.renR, Aw.pos] <;> rfl)⟩ ?_
  rintro k s ⟨m, rfl, hm, ht, hw⟩
  refine AWp.weak hw ?_
  cases m with
  | zero =>
    have ht0 : trimL [] = [] := rfl
    rw [List.take_zero, ht0] at ht
    refine AWp.seq (AWp.seq (AWp.region (AWpL.upto 4 hn rfl ?_)))
    have e0 : decide ((0 : Int) > 0) = false := rfl
    simp (config := { maxSteps := 2000000 }) only [go_sem, ↓reduceIte, Int.reduceToNat, Nat.reduceMul, Int.reduceBEq, Int.reduceBNe, Nat.reduceBEq, Nat.reduceAdd, Nat.reduceSub, Nat.reduceLeDiff, Nat.reduceEqDiff, Nat.reduceLT, reduceCtorEq, e0]
    refine AWpL.skips hn 6 true 7 (by rfl) rfl (AWpL.weak (weak_ent 13 (y := .opt false (B false)) (by rfl) Ent.off) (AWpL.ofM hn rfl ?_))
    simp (config := { maxSteps := 2000000 }) only [go_sem, ↓reduceIte, Int.reduceToNat, Nat.reduceMul, Int.reduceBEq, Int.reduceBNe, Nat.reduceBEq, Nat.reduceAdd, Nat.reduceSub, Nat.reduceLeDiff, Nat.reduceEqDiff, Nat.reduceLT, reduceCtorEq]
    refine AWp.ofD [] [] hn mixed rfl ?_
    simp (config := { maxSteps := 2000000 }) only [go_sem, ↓reduceIte, Int.reduceToNat, Nat.reduceMul, Int.reduceBEq, Int.reduceBNe, Nat.reduceBEq, Nat.reduceAdd, Nat.reduceSub, Nat.reduceLeDiff, Nat.reduceEqDiff, Nat.reduceLT, reduceCtorEq]
    refine Retn.ret (π := [0]) hp hnp ⟨rfl, ?_⟩
    simp (config := { maxSteps := 2000000 }) only [go_sem, ↓reduceIte, Int.reduceToNat, Nat.reduceMul, Int.reduceBEq, Int.reduceBNe, Nat.reduceBEq, Nat.reduceAdd, Nat.reduceSub, Nat.reduceLeDiff, Nat.reduceEqDiff, Nat.reduceLT, reduceCtorEq, Aw.renR, Aw.pos]
    rw [← ht]
    rfl
  | succ m =>
    have e0 : decide (((m + 1 : Nat) : Int) > 0) = true := decide_eq_true (by omega)
    have e1 : IntKind.i64.wrap (((m + 1 : Nat) : Int) - 1) = (m : Int) := by rw [w64 (by omega) (by omega)]; omega
    have e2 := getD_mapD 0 uc (l := O) (i := m) (by omega)
    have htr := trim_step O m (by omega)
    refine AWp.ofD [] [] hn mixed rfl ?_
    simp (config := { maxSteps := 2000000 }) only [go_sem, ↓reduceIte, Int.reduceToNat, Nat.reduceMul, Int.reduceBEq, Int.reduceBNe, Nat.reduceBEq, Nat.reduceAdd, Nat.reduceSub, Nat.reduceLeDiff, Nat.reduceEqDiff, Nat.reduceLT, reduceCtorEq, e0, e1, e2]
    (repeat (refine And.intro (by first | omega | (refine ⟨by omega, by omega⟩) | (refine ⟨by omega, by omega, by omega⟩) | (simp only [List.length_map, List.length_range, List.length_append, List.length_cons, List.length_nil, List.length_replicate, List.length_set]; omega) | (simp; omega) | (intro hgd; cases hgd) | (intro hgd; refine ⟨hgd, ?_⟩; first | omega | (refine ⟨by omega, by omega⟩) | (simp; omega))) ?_))
    refine ⟨fun h => ⟨by omega, m, by omega, m, rfl, by omega, ?_, weak_to [0] hp hnp rfl (by simp (config := { maxSteps := 2000000 }) only [go_sem, ↓reduceIte, Int.reduceToNat, Nat.reduceMul, Int.reduceBEq, Int.reduceBNe, Nat.reduceBEq, Nat.reduceAdd, Nat.reduceSub, Nat.reduceLeDiff, Nat.reduceEqDiff, Nat.reduceLT, reduceCtorEq, Aw.pos]) (by simp (config := { maxSteps := 2000000 }) only [go_sem, ↓reduceIte, Int.reduceToNat, Nat.reduceMul, Int.reduceBEq, Int.reduceBNe, Nat.reduceBEq, Nat.reduceAdd, Nat.reduceSub, Nat.reduceLeDiff, Nat.reduceEqDiff, Nat.reduceLT, reduceCtorEq, Aw.renR, Aw.pos] <;> rfl)⟩, fun h => ?_⟩
    · rw [← ht, htr, if_pos (by rw [beq_iff_eq] at h; omega)]
    · refine Retn.ret (π := [0]) hp hnp ⟨rfl, ?_⟩
      simp (config := { maxSteps := 2000000 }) only [go_sem, ↓reduceIte, Int.reduceToNat, Nat.reduceMul, Int.reduceBEq, Int.reduceBNe, Nat.reduceBEq, Nat.reduceAdd, Nat.reduceSub, Nat.reduceLeDiff, Nat.reduceEqDiff, Nat.reduceLT, reduceCtorEq, Aw.renR, Aw.pos]
      have h1 : (trimL O).length = m + 1 := by
        rw [← ht, htr, if_neg (by rw [beq_eq_false_iff_ne] at h; omega), List.length_take]; omega
      rw [h1]
theorem sub_dig {a b c : Nat} (ha : a < bs) (hb : b < bs) (hc : c ≤ 1) : ∃ o c' : Nat, c' ≤ 1 ∧ o < bs ∧ a + bs * c' = o + b + c ∧ (((a : Int) - c - b < 0 → c' = 1 ∧ (o : Int) = (a : Int) - c - b + 1000000000) ∧ (¬ ((a : Int) - c - b < 0) → c' = 0 ∧ (o : Int) = (a : Int) - c - b)) := by
  have hbs : bs = 1000000000 := rfl
  by_cases h : a < b + c
  · exact ⟨a + bs - b - c, 1, by omega, by omega, by omega, fun _ => ⟨rfl, by omega⟩, fun h2 => by omega⟩
  · exact ⟨a - b - c, 0, by omega, by omega, by omega, fun h2 => by omega, fun _ => ⟨rfl, by omega⟩⟩
set_option maxRecDepth 20000 in
set_option maxHeartbeats 1000000 in
theorem s71L (n m : Nat) (L M : List Nat) (hnm : m ≤ n) (hvn : val L = n) (hvm : val M = m) (hdL : Dig L) (hdM : Dig M) (hLM : M.length ≤ L.length) (hn0 : L.length ≤ 1000000) : Aw.Spec Tryd.prog 71 [] [dv L, dv M] (fun rg v => rg = [] ∧ v = nv (n - m)) := by
  refine Aw.Spec.regsW k71 rfl rfl fun E hn hnp hp => ?_
  unfold a71
  have pin : ∀ r, E.pin r = none := fun r => hp.none hnp (Nat.zero_le _)
  have hbs : bs = 1000000000 := rfl
  refine AWp.ofD [] [] hn mixed rfl ?_
  simp (config := { maxSteps := 2000000 }) only [go_sem, ↓reduceIte, Int.reduceToNat, Nat.reduceMul, Int.reduceBEq, Int.reduceBNe, Nat.reduceBEq, Nat.reduceAdd, Nat.reduceSub, Nat.reduceLeDiff, Nat.reduceEqDiff, Nat.reduceLT, reduceCtorEq]
  refine ⟨⟨by omega, by omega⟩, ?_⟩
  rw [urep]
  refine AWp.loop (fun k s => ∃ (i c : Nat) (out : List Nat), i + k = L.length ∧ out.length = L.length ∧ Dig out ∧ c ≤ 1 ∧ val (L.take i) + bs ^ i * c = val (out.take i) + val (M.take i) ∧ Weak E s ⟨[(0, dv L), (1, dv M), (5, .hnd 0 0 L.length L.length true), (6, I c), (13, I L.length), (14, I i)], [.arr 99 1 (out.map uc)]⟩) (n := L.length)
    ⟨0, 0, List.replicate L.length 0, by omega, List.length_replicate, Dig.zeros _, by omega, by simp [val], weak_to [0] hp hnp rfl (by simp (config := { maxSteps := 2000000 }) only [go_sem, ↓reduceIte, Int.reduceToNat, Nat.reduceMul, Int.reduceBEq, Int.reduceBNe, Nat.reduceBEq, Nat.reduceAdd, Nat.reduceSub, Nat.reduceLeDiff, Nat.reduceEqDiff, Nat.reduceLT, reduceCtorEq, Aw.pos] <;> rfl) (by simp (config := { maxSteps := 2000000 }) only [go_sem, ↓reduceIte, Int.reduceToNat, Nat.reduceMul, Int.reduceBEq, Int.reduceBNe, Nat.reduceBEq, Nat.reduceAdd, Nat.reduceSub, Nat.reduceLeDiff, Nat.reduceEqDiff, Nat.reduceLT, reduceCtorEq, Aw.renR, Aw.pos] <;> rfl)⟩ ?_
  rintro k s ⟨i, c, out, hi, ho, hdo, hc1, hval, hw⟩
  rcases Nat.lt_or_ge i L.length with hlt | hge
  · refine AWp.weak hw (AWp.ofD [] [27, 36] hn mixed rfl ?_)
    have e0 : decide ((i : Int) < (L.length : Int)) = true := decide_eq_true (by omega)
    have e1 := getD_mapD 0 uc (l := L) (i := i) hlt
    have hLi := dget hdL i
    have hMi := dget hdM i
    have e2 : IntKind.i64.wrap ((L.getD i 0 : Nat) : Int) = ((L.getD i 0 : Nat) : Int) := w64 (by omega) (by omega)
    have e3 : IntKind.i64.wrap (((L.getD i 0 : Nat) : Int) - (c : Int)) = ((L.getD i 0 : Nat) : Int) - (c : Int) := w64 (by omega) (by omega)
    simp (config := { maxSteps := 2000000 }) only [go_sem, ↓reduceIte, Int.reduceToNat, Nat.reduceMul, Int.reduceBEq, Int.reduceBNe, Nat.reduceBEq, Nat.reduceAdd, Nat.reduceSub, Nat.reduceLeDiff, Nat.reduceEqDiff, Nat.reduceLT, reduceCtorEq, e0, e1, e2, e3]
    (repeat (refine And.intro (by first | omega | (refine ⟨by omega, by omega⟩) | (refine ⟨by omega, by omega, by omega⟩) | (simp only [List.length_map, List.length_range, List.length_append, List.length_cons, List.length_nil, List.length_replicate, List.length_set]; omega) | (simp; omega) | (intro hgd; cases hgd) | (intro hgd; refine ⟨hgd, ?_⟩; first | omega | (refine ⟨by omega, by omega⟩) | (simp; omega))) ?_))
    refine AWp.cut ⟨[(0, dv L), (1, dv M), (5, .hnd 0 0 L.length L.length true), (7, I i), (8, I (((L.getD i 0 : Nat) : Int) - (c : Int) - ((M.getD i 0 : Nat) : Int))), (13, I L.length), (14, I i)], [.arr 99 1 (out.map uc)]⟩ (AWp.ofD [] [] hn mixed rfl ?_) ?_
    · rcases Nat.lt_or_ge i M.length with hm | hm
      · have e3 : decide ((i : Int) < (M.length : Int)) = true := decide_eq_true (by omega)
        have e4 := getD_mapD 0 uc (l := M) (i := i) hm
        have e5 : IntKind.i64.wrap ((M.getD i 0 : Nat) : Int) = ((M.getD i 0 : Nat) : Int) := w64 (by omega) (by omega)
        have e6 : IntKind.i64.wrap (((L.getD i 0 : Nat) : Int) - (c : Int) - ((M.getD i 0 : Nat) : Int)) = ((L.getD i 0 : Nat) : Int) - (c : Int) - ((M.getD i 0 : Nat) : Int) := w64 (by omega) (by omega)
        simp (config := { maxSteps := 2000000 }) only [go_sem, ↓reduceIte, Int.reduceToNat, Nat.reduceMul, Int.reduceBEq, Int.reduceBNe, Nat.reduceBEq, Nat.reduceAdd, Nat.reduceSub, Nat.reduceLeDiff, Nat.reduceEqDiff, Nat.reduceLT, reduceCtorEq, e3, e4, e5, e6]
        (repeat (refine And.intro (by first | omega | (refine ⟨by omega, by omega⟩) | (refine ⟨by omega, by omega, by omega⟩) | (simp only [List.length_map, List.length_range, List.length_append, List.length_cons, List.length_nil, List.length_replicate, List.length_set]; omega) | (simp; omega) | (intro hgd; cases hgd) | (intro hgd; refine ⟨hgd, ?_⟩; first | omega | (refine ⟨by omega, by omega⟩) | (simp; omega))) ?_))
        exact weak_tm (by simp (config := { maxSteps := 2000000 }) only [go_sem, ↓reduceIte, Int.reduceToNat, Nat.reduceMul, Int.reduceBEq, Int.reduceBNe, Nat.reduceBEq, Nat.reduceAdd, Nat.reduceSub, Nat.reduceLeDiff, Nat.reduceEqDiff, Nat.reduceLT, reduceCtorEq])
      · have e3 : decide ((i : Int) < (M.length : Int)) = false := decide_eq_false (by omega)
        have e4 : ((M.getD i 0 : Nat) : Int) = 0 := by rw [List.getD_eq_getElem?_getD, List.getElem?_eq_none hm]; rfl
        rw [e4, Int.sub_zero]
        simp (config := { maxSteps := 2000000 }) only [go_sem, ↓reduceIte, Int.reduceToNat, Nat.reduceMul, Int.reduceBEq, Int.reduceBNe, Nat.reduceBEq, Nat.reduceAdd, Nat.reduceSub, Nat.reduceLeDiff, Nat.reduceEqDiff, Nat.reduceLT, reduceCtorEq, e3]
        exact weak_tm (by simp (config := { maxSteps := 2000000 }) only [go_sem, ↓reduceIte, Int.reduceToNat, Nat.reduceMul, Int.reduceBEq, Int.reduceBNe, Nat.reduceBEq, Nat.reduceAdd, Nat.reduceSub, Nat.reduceLeDiff, Nat.reduceEqDiff, Nat.reduceLT, reduceCtorEq])
    obtain ⟨o, c', hc', hob, heq, hneg, hpos⟩ := sub_dig (a := L.getD i 0) (b := M.getD i 0) (c := c) hLi hMi hc1
    generalize hd : (((L.getD i 0 : Nat) : Int) - (c : Int) - ((M.getD i 0 : Nat) : Int)) = d at *
    simp (config := { maxSteps := 2000000 }) only [go_sem, ↓reduceIte, Int.reduceToNat, Nat.reduceMul, Int.reduceBEq, Int.reduceBNe, Nat.reduceBEq, Nat.reduceAdd, Nat.reduceSub, Nat.reduceLeDiff, Nat.reduceEqDiff, Nat.reduceLT, reduceCtorEq]
    refine AWp.cut ⟨[(0, dv L), (1, dv M), (5, .hnd 0 0 L.length L.length true), (6, I c'), (7, I i), (8, I o), (13, I L.length), (14, I i)], [.arr 99 1 (out.map uc)]⟩ (AWp.ofD [] [] hn mixed rfl ?_) ?_
    · simp (config := { maxSteps := 2000000 }) only [go_sem, ↓reduceIte, Int.reduceToNat, Nat.reduceMul, Int.reduceBEq, Int.reduceBNe, Nat.reduceBEq, Nat.reduceAdd, Nat.reduceSub, Nat.reduceLeDiff, Nat.reduceEqDiff, Nat.reduceLT, reduceCtorEq]
      refine ⟨fun h => ?_, fun h => ?_⟩
      · obtain ⟨rfl, h2⟩ := hneg (of_decide_eq_true h)
        rw [← h2]
        have e5 : IntKind.i64.wrap (o : Int) = (o : Int) := w64 (by omega) (by omega)
        rw [e5]
        exact weak_tm (by simp (config := { maxSteps := 2000000 }) only [go_sem, ↓reduceIte, Int.reduceToNat, Nat.reduceMul, Int.reduceBEq, Int.reduceBNe, Nat.reduceBEq, Nat.reduceAdd, Nat.reduceSub, Nat.reduceLeDiff, Nat.reduceEqDiff, Nat.reduceLT, reduceCtorEq] <;> rfl)
      · obtain ⟨rfl, h2⟩ := hpos (of_decide_eq_false h)
        rw [← h2]
        exact weak_tm (by simp (config := { maxSteps := 2000000 }) only [go_sem, ↓reduceIte, Int.reduceToNat, Nat.reduceMul, Int.reduceBEq, Int.reduceBNe, Nat.reduceBEq, Nat.reduceAdd, Nat.reduceSub, Nat.reduceLeDiff, Nat.reduceEqDiff, Nat.reduceLT, reduceCtorEq] <;> rfl)
    have e6 : IntKind.u32.wrap (o : Int) = (o : Int) := w32 (by omega) (by omega)
    have e7 := getD_mapD 0 uc (l := out) (i := i) (by omega)
    have e8 : IntKind.i64.wrap ((i : Int) + 1) = ((i + 1 : Nat) : Int) := by rw [w64 (by omega) (by omega)]; rfl
    simp (config := { maxSteps := 2000000 }) only [go_sem, ↓reduceIte, Int.reduceToNat, Nat.reduceMul, Int.reduceBEq, Int.reduceBNe, Nat.reduceBEq, Nat.reduceAdd, Nat.reduceSub, Nat.reduceLeDiff, Nat.reduceEqDiff, Nat.reduceLT, reduceCtorEq, e6, e7, e8, uset]
    (repeat (refine And.intro (by first | omega | (refine ⟨by omega, by omega⟩) | (refine ⟨by omega, by omega, by omega⟩) | (simp only [List.length_map, List.length_range, List.length_append, List.length_cons, List.length_nil, List.length_replicate, List.length_set]; omega) | (simp; omega) | (intro hgd; cases hgd) | (intro hgd; refine ⟨hgd, ?_⟩; first | omega | (refine ⟨by omega, by omega⟩) | (simp; omega))) ?_))
    refine ⟨k - 1, by omega, i + 1, c', out.set i o, by omega, by rw [List.length_set, ho], hdo.set i o hob, hc', ?_, weak_to [0] hp hnp rfl (by simp (config := { maxSteps := 2000000 }) only [go_sem, ↓reduceIte, Int.reduceToNat, Nat.reduceMul, Int.reduceBEq, Int.reduceBNe, Nat.reduceBEq, Nat.reduceAdd, Nat.reduceSub, Nat.reduceLeDiff, Nat.reduceEqDiff, Nat.reduceLT, reduceCtorEq, Aw.pos]) (by simp (config := { maxSteps := 2000000 }) only [go_sem, ↓reduceIte, Int.reduceToNat, Nat.reduceMul, Int.reduceBEq, Int.reduceBNe, Nat.reduceBEq, Nat.reduceAdd, Nat.reduceSub, Nat.reduceLeDiff, Nat.reduceEqDiff, Nat.reduceLT, reduceCtorEq, Aw.renR, Aw.pos] <;> rfl)⟩
    have h1 := sub_step hval heq
    rw [val_take1, val_take1, val_take1, List.take_set_of_le (Nat.le_refl _)]
    have : (out.set i o).getD i 0 = o := by rw [List.getD_eq_getElem?_getD, List.getElem?_set_self (by omega)]; rfl
    rw [this]
    exact h1
  · have hiL : i = L.length := by omega
    subst hiL
    rw [List.take_of_length_le (Nat.le_refl _), List.take_of_length_le (by omega), List.take_of_length_le hLM, hvn, hvm] at hval
    have hlto := val_len hdo (Nat.le_of_eq ho)
    have hc0 : c = 0 := by
      rcases Nat.eq_zero_or_pos c with h | h
      · exact h
      · have : c = 1 := by omega
        subst this
        omega
    subst hc0
    refine AWp.weak hw (AWp.ofD [] [] hn mixed rfl ?_)
    have e0 : decide ((L.length : Int) < (L.length : Int)) = false := decide_eq_false (by omega)
    simp (config := { maxSteps := 2000000 }) only [go_sem, ↓reduceIte, Int.reduceToNat, Nat.reduceMul, Int.reduceBEq, Int.reduceBNe, Nat.reduceBEq, Nat.reduceAdd, Nat.reduceSub, Nat.reduceLeDiff, Nat.reduceEqDiff, Nat.reduceLT, reduceCtorEq, e0]
    refine AWpL.weak (weak_freeze 0 rfl (pin 0) (by simp (config := { maxSteps := 2000000 }) only [go_sem, ↓reduceIte, Int.reduceToNat, Nat.reduceMul, Int.reduceBEq, Int.reduceBNe, Nat.reduceBEq, Nat.reduceAdd, Nat.reduceSub, Nat.reduceLeDiff, Nat.reduceEqDiff, Nat.reduceLT, reduceCtorEq, Nat.le_refl, List.length_map, ho])) ?_
    have ef : ((out.map uc).take L.length) = out.map uc := List.take_of_length_le (by rw [List.length_map, ho]; exact Nat.le_refl _)
    simp (config := { maxSteps := 2000000 }) only [go_sem, ↓reduceIte, Int.reduceToNat, Nat.reduceMul, Int.reduceBEq, Int.reduceBNe, Nat.reduceBEq, Nat.reduceAdd, Nat.reduceSub, Nat.reduceLeDiff, Nat.reduceEqDiff, Nat.reduceLT, reduceCtorEq, ef]
    refine AWpL.weak (weak_ent 45 (by rfl) (Ent.plain _ _ _ _)) ?_
    (refine AWpL.callA [] (s81 out (by omega)) rfl rfl (by rw [hn]; rfl) rfl (fun r hr => .inr (pin r)) fun rg v hv => ?_; obtain ⟨rfl, rfl⟩ := hv; refine ⟨Nat.le_refl _, AWpL.ofM hn rfl ?_⟩)
    simp (config := { maxSteps := 2000000 }) only [go_sem, ↓reduceIte, Int.reduceToNat, Nat.reduceMul, Int.reduceBEq, Int.reduceBNe, Nat.reduceBEq, Nat.reduceAdd, Nat.reduceSub, Nat.reduceLeDiff, Nat.reduceEqDiff, Nat.reduceLT, reduceCtorEq, Aw.retS, Aw.retRg, Aw.kpM, Aw.bkM, Aw.pos, Aw.isBox]
    refine Retn.ret (π := []) hp hnp ⟨rfl, ?_⟩
    simp (config := { maxSteps := 2000000 }) only [go_sem, ↓reduceIte, Int.reduceToNat, Nat.reduceMul, Int.reduceBEq, Int.reduceBNe, Nat.reduceBEq, Nat.reduceAdd, Nat.reduceSub, Nat.reduceLeDiff, Nat.reduceEqDiff, Nat.reduceLT, reduceCtorEq]
    rw [trim_digs hdo, show val out = n - m by omega]
theorem s71 (n m : Nat) (hnm : m ≤ n) (hn0 : nl n ≤ 1000000) : Aw.Spec Tryd.prog 71 [] [nv n, nv m] (fun rg v => rg = [] ∧ v = nv (n - m)) :=
  s71L n m (digs n) (digs m) hnm (val_digs n) (val_digs m) (dig_digs n) (dig_digs m) (nl_mono hnm) hn0
end Go.Proofs.YtjaakbkneeojnaaDoor
