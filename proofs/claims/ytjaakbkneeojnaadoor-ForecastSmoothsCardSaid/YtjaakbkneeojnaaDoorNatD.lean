/- Numbers: Mul. -/
import Derived.Test.YtjaakbkneeojnaaDoorAwZl
import Derived.Test.YtjaakbkneeojnaaDoorNatC
set_option linter.unusedVariables false
set_option linter.unusedSimpArgs false
namespace Go.Proofs.YtjaakbkneeojnaaDoor
open Go.Proofs.YtjaakbkneeojnaaDoor.Aw
attribute [local go_sem] Int.natCast_zero Int.natCast_one bne_self_eq_false beq_self_eq_true Bool.not_true Bool.not_false Option.isSome_none Option.isSome_some Aw.bkM_nil Option.getD_some Option.getD_none Nat.sub_zero Int.toNat_zero Aw.frzS Aw.frzT Aw.frzA Aw.frzL Aw.frzR Aw.frzO Aw.frzOL Aw.frzOT Aw.frzOR Aw.killS Aw.mapT Aw.mapR Aw.killM Aw.resAVs Aw.resAV Aw.quietOps Aw.wpP Aw.wpT Aw.wpS Aw.AOp.mild List.getElem?_cons_zero List.getElem?_cons_succ Bool.and_false Bool.and_self Bool.false_and Aw.opOb Aw.gdB Aw.Rnd Aw.subTm List.length_map Int.toNat_natCast and_self Aw.SeqC Aw.stops Aw.Ends Aw.looks Aw.renA Aw.renL Aw.renT Aw.renS Aw.wpO Aw.aop Aw.putTm Aw.St.ev Aw.St.put Aw.St.putO Aw.binAV Aw.intBin Aw.strBin Aw.pickAV Aw.optInt Aw.AV.strip Aw.AV.guard Aw.AV.cells Aw.gdOb Aw.AOp.opds Aw.AOp.still Aw.ptrCells Aw.St.reg Aw.fillAV Aw.fillOb Aw.elsOb Aw.splice Aw.firm Aw.cellish Aw.AV.shut Aw.shutAll Aw.Seq Aw.Blk Aw.retS_nil Aw.mapA Aw.mapL Aw.borA Aw.borOb Aw.allOb Aw.tupOf Aw.params Aw.Opd.of Array.toList Value.cells List.map_cons List.map_nil List.getD_cons_zero List.getD_cons_succ List.getD_nil List.length_cons List.length_nil List.take_succ_cons List.take_zero List.take_nil List.drop_zero List.drop_succ_cons List.drop_nil List.set_cons_zero List.set_cons_succ List.append_nil List.nil_append List.cons_append List.all_cons List.all_nil cond_false cond_true if_true if_false true_and and_true Bool.and_true Bool.true_and Option.map_some Option.map_none false_implies forall_const implies_true forall_eq imp_self Bool.cond_false_right Bool.cond_true_left beq_true beq_false Bool.not_eq_true' Bool.false_eq_true Nat.zero_add Nat.add_zero Aw.eqCells Aw.stopDraw Aw.skipS Aw.exactCap Aw.revealS Aw.srcEls Aw.srcSz
attribute [local go_sem ↓] Aw.look_nil Aw.look_ite Aw.wpL_nil Aw.wpL_op Aw.wpL_gd Aw.wpQ_nil Aw.wpQ_op Aw.wpQ_gd Aw.wpC_draw Aw.wpC_reg Aw.wpC_skip Aw.wpC_ret Aw.wpC_exit Aw.wpC_seq Aw.wpC_block Aw.wpC_loop Aw.wpC_cond Aw.stopAt_nil Aw.stopAt_cons Aw.wpD_skip Aw.wpD_ret Aw.wpD_exit Aw.wpD_region Aw.wpD_draw Aw.wpM_nil Aw.wpM_op Aw.wpM_gd Aw.wpD_seq Aw.wpD_block Aw.wpD_loop Aw.wpD_cond
/- (gridhall/nat.N).Mul -/
def a67 : ACode :=
  (.seq (.region false [] [
     ⟨(some 4), none, (.mov (.v (.slice none 0 0)))⟩])
  (.seq (.region false [] [
     ⟨(some 12), none, (.mov (.t 0))⟩,
     ⟨(some 13), none, (.len (.t 12))⟩,
     ⟨(some 14), none, (.mov (.t 1))⟩,
     ⟨(some 15), none, (.len (.t 14))⟩,
     ⟨(some 16), none, (.bin .add 3 (.t 13) (.t 15))⟩,
     ⟨(some 17), none, (.mksl 99 1 4 (.int .u32 0) (.t 16) (.t 16))⟩,
     ⟨(some 5), none, (.mov (.t 17))⟩])
  (.seq (.seq (.region false [] [
     ⟨(some 18), none, (.mov (.t 0))⟩,
     ⟨(some 19), none, (.len (.t 18))⟩,
     ⟨(some 20), none, (.mov (.v (.int .i64 0)))⟩])
  (.block 0 (.loop (.seq (.region false [] [
       ⟨(some 21), none, (.bin .lss 3 (.t 20) (.t 19))⟩])
    (.seq (.cond (.t 21)
      .skip
      (.exit 0))
    (.seq (.block 1 (.seq (.region false [] [
        ⟨(some 22), none, (.mov (.t 20))⟩,
        ⟨(some 23), none, (.idx 1 (.t 18) (.t 20))⟩,
        ⟨(some 24), none, (.load 1 false (.t 23))⟩,
        ⟨(some 6), none, (.mov (.t 22))⟩,
        ⟨(some 7), none, (.mov (.t 24))⟩])
     (.seq (.region false [] [
        ⟨(some 8), none, (.mov (.v (.int .u64 0)))⟩])
     (.seq (.seq (.region false [] [
        ⟨(some 25), none, (.mov (.t 1))⟩,
        ⟨(some 26), none, (.len (.t 25))⟩,
        ⟨(some 27), none, (.mov (.v (.int .i64 0)))⟩])
     (.block 2 (.loop (.seq (.region false [] [
          ⟨(some 28), none, (.bin .lss 3 (.t 27) (.t 26))⟩])
       (.seq (.cond (.t 28)
         .skip
         (.exit 2))
       (.seq (.block 3 (.seq (.region false [] [
           ⟨(some 29), none, (.mov (.t 27))⟩,
           ⟨(some 30), none, (.idx 1 (.t 25) (.t 27))⟩,
           ⟨(some 31), none, (.load 1 false (.t 30))⟩,
           ⟨(some 9), none, (.mov (.t 29))⟩,
           ⟨(some 10), none, (.mov (.t 31))⟩])
        (.seq (.region false [] [
           ⟨(some 32), none, (.mov (.t 7))⟩,
           ⟨(some 33), none, (.itoi .u64 (.t 32))⟩,
           ⟨(some 34), none, (.mov (.t 10))⟩,
           ⟨(some 35), none, (.itoi .u64 (.t 34))⟩,
           ⟨(some 36), none, (.bin .mul 101 (.t 33) (.t 35))⟩,
           ⟨(some 37), none, (.mov (.t 5))⟩,
           ⟨(some 38), none, (.mov (.t 6))⟩,
           ⟨(some 39), none, (.mov (.t 9))⟩,
           ⟨(some 40), none, (.bin .add 3 (.t 38) (.t 39))⟩,
           ⟨(some 41), none, (.idx 1 (.t 37) (.t 40))⟩,
           ⟨(some 42), none, (.load 1 false (.t 41))⟩,
           ⟨(some 43), none, (.itoi .u64 (.t 42))⟩,
           ⟨(some 44), none, (.bin .add 101 (.t 36) (.t 43))⟩,
           ⟨(some 45), none, (.mov (.t 8))⟩,
           ⟨(some 46), none, (.bin .add 101 (.t 44) (.t 45))⟩,
           ⟨(some 11), none, (.mov (.t 46))⟩])
        (.seq (.region false [] [
           ⟨(some 47), none, (.mov (.t 5))⟩,
           ⟨(some 48), none, (.mov (.t 6))⟩,
           ⟨(some 49), none, (.mov (.t 9))⟩,
           ⟨(some 50), none, (.bin .add 3 (.t 48) (.t 49))⟩,
           ⟨(some 51), none, (.mov (.t 11))⟩,
           ⟨(some 52), none, (.bin .rem 101 (.t 51) (.v (.int .u64 1000000000)))⟩,
           ⟨(some 53), none, (.itoi .u32 (.t 52))⟩,
           ⟨(some 54), none, (.idx 1 (.t 47) (.t 50))⟩,
           ⟨none, none, (.store 1 (.t 54) (.t 53))⟩])
        (.region false [] [
           ⟨(some 55), none, (.mov (.t 11))⟩,
           ⟨(some 56), none, (.bin .quo 101 (.t 55) (.v (.int .u64 1000000000)))⟩,
           ⟨(some 8), none, (.mov (.t 56))⟩])))))
       (.region false [] [
          ⟨(some 57), none, (.bin .add 3 (.t 27) (.v (.int .i64 1)))⟩,
          ⟨(some 27), none, (.mov (.t 57))⟩])))))))
     (.region false [] [
        ⟨(some 58), none, (.mov (.t 5))⟩,
        ⟨(some 59), none, (.mov (.t 6))⟩,
        ⟨(some 60), none, (.mov (.t 1))⟩,
        ⟨(some 61), none, (.len (.t 60))⟩,
        ⟨(some 62), none, (.bin .add 3 (.t 59) (.t 61))⟩,
        ⟨(some 63), none, (.mov (.t 8))⟩,
        ⟨(some 64), none, (.itoi .u32 (.t 63))⟩,
        ⟨(some 65), none, (.idx 1 (.t 58) (.t 62))⟩,
        ⟨none, none, (.store 1 (.t 65) (.t 64))⟩])))))
    (.region false [] [
       ⟨(some 66), none, (.bin .add 3 (.t 20) (.v (.int .i64 1)))⟩,
       ⟨(some 20), none, (.mov (.t 66))⟩])))))))
  (.seq (.region false [] [
     ⟨(some 67), none, (.mov (.t 5))⟩,
     ⟨(some 68), none, (.call 81 [(.t 67)])⟩,
     ⟨(some 4), none, (.mov (.t 68))⟩])
  .ret))))
theorem k67 : FnIs Tryd.prog 67 69 [.t 4] a67 := ⟨_, _, Tryd.func67, rfl, by kernel_rfl, by kernel_rfl, rfl⟩

abbrev U8 (n : Int) : AV := .val (.int .u64 n)
theorem w64u {n : Int} (h0 : 0 ≤ n) (h1 : n ≤ 18446744073709551615) : IntKind.u64.wrap n = n := by
  show (n % 18446744073709551616 : Int) = n
  omega
theorem mul_lt {a b c d : Nat} (h : a < c) (k : b < d) : a * b < c * d := Nat.mul_lt_mul'' h k
theorem mul_dig {x y o c : Nat} (hx : x < bs) (hy : y < bs) (ho : o < bs) (hc : c < bs) : x * y + o + c < bs * bs := by
  have hx' : x < 1000000000 := hx
  have hy' : y < 1000000000 := hy
  have ho' : o < 1000000000 := ho
  have hc' : c < 1000000000 := hc
  have h1 : x * y ≤ 999999999 * 999999999 := Nat.mul_le_mul (by omega) (by omega)
  show x * y + o + c < 1000000000 * 1000000000
  omega
theorem w64n {n : Nat} (h : n < bs * bs) : IntKind.u64.wrap (n : Int) = (n : Int) := by
  have h' : n < 1000000000000000000 := h
  exact w64u (by omega) (by omega)
theorem mul_step {v' v'' w x y o c d c' X B : Nat} (hs : v'' + B * o = v' + B * d) (hi : v' + B * c = w) (ht : d + bs * c' = x * y + o + c) : v'' + B * bs * c' = w + B * (x * y) := by
  have h1 : B * (d + bs * c') = B * (x * y + o + c) := by rw [ht]
  rw [Nat.mul_add, Nat.mul_add, Nat.mul_add, ← Nat.mul_assoc] at h1
  omega
set_option maxRecDepth 20000 in
set_option maxHeartbeats 2000000 in
theorem s67L (L M : List Nat) (hdL : Dig L) (hdM : Dig M) (hL0 : L.length ≤ 1000000) (hM0 : M.length ≤ 1000000) : Aw.Spec Tryd.prog 67 [] [dv L, dv M] (fun rg v => ∃ O : List Nat, Dig O ∧ O.length = L.length + M.length ∧ val O = val L * val M ∧ rg = [.arr 99 1 (O.map uc)] ∧ v = .hnd 0 0 (trimL O).length O.length true) := by
  refine Aw.Spec.regsW k67 rfl rfl fun E hn hnp hp => ?_
  unfold a67
  have pin : ∀ r, E.pin r = none := fun r => hp.none hnp (Nat.zero_le _)
  have hbs : bs = 1000000000 := rfl
  have e9 : IntKind.i64.wrap ((L.length : Int) + (M.length : Int)) = ((L.length + M.length : Nat) : Int) := by rw [w64 (by omega) (by omega)]; rfl
  refine AWp.ofD [] [] hn mixed rfl ?_
  simp (config := { maxSteps := 2000000 }) only [go_sem, ↓reduceIte, Int.reduceToNat, Nat.reduceMul, Int.reduceBEq, Int.reduceBNe, Nat.reduceBEq, Nat.reduceAdd, Nat.reduceSub, Nat.reduceLeDiff, Nat.reduceEqDiff, Nat.reduceLT, reduceCtorEq, e9]
  refine ⟨⟨by omega, by omega⟩, ?_⟩
  rw [urep]
  refine AWp.loop (fun k s => ∃ (i : Nat) (O : List Nat), i + k = L.length ∧ O.length = L.length + M.length ∧ Dig O ∧ val O = val (L.take i) * val M ∧ Weak E s ⟨[(0, dv L), (1, dv M), (5, .hnd 0 0 (L.length + M.length) (L.length + M.length) true), (18, dv L), (19, I L.length), (20, I i)], [.arr 99 1 (O.map uc)]⟩) (n := L.length)
    ⟨0, List.replicate (L.length + M.length) 0, by omega, List.length_replicate, Dig.zeros _, by rw [val_zeros]; simp [val], weak_to [0] hp hnp rfl (by simp (config := { maxSteps := 2000000 }) only [go_sem, ↓reduceIte, Int.reduceToNat, Nat.reduceMul, Int.reduceBEq, Int.reduceBNe, Nat.reduceBEq, Nat.reduceAdd, Nat.reduceSub, Nat.reduceLeDiff, Nat.reduceEqDiff, Nat.reduceLT, reduceCtorEq, Aw.pos] <;> rfl) (by simp (config := { maxSteps := 2000000 }) only [go_sem, ↓reduceIte, Int.reduceToNat, Nat.reduceMul, Int.reduceBEq, Int.reduceBNe, Nat.reduceBEq, Nat.reduceAdd, Nat.reduceSub, Nat.reduceLeDiff, Nat.reduceEqDiff, Nat.reduceLT, reduceCtorEq, Aw.renR, Aw.pos] <;> rfl)⟩ ?_
  rintro k s ⟨i, O, hi, hO, hdO, hval, hw⟩
  rcases Nat.lt_or_ge i L.length with hlt | hge
  · refine AWp.weak hw (AWp.ofD [] [] hn mixed rfl ?_)
    have e0 : decide ((i : Int) < (L.length : Int)) = true := decide_eq_true (by omega)
    have e1 := getD_mapD 0 uc (l := L) (i := i) hlt
    have hLi := dget hdL i
    have hlow : val O < bs ^ (i + M.length) := by
      rw [hval, Nat.pow_add]
      exact mul_lt (val_takelt hdL i) (val_lt hdM)
    have hz := get_zero hlow (Nat.le_refl _)
    simp (config := { maxSteps := 2000000 }) only [go_sem, ↓reduceIte, Int.reduceToNat, Nat.reduceMul, Int.reduceBEq, Int.reduceBNe, Nat.reduceBEq, Nat.reduceAdd, Nat.reduceSub, Nat.reduceLeDiff, Nat.reduceEqDiff, Nat.reduceLT, reduceCtorEq, e0, e1]
    (repeat (refine And.intro (by first | omega | (refine ⟨by omega, by omega⟩) | (refine ⟨by omega, by omega, by omega⟩) | (simp only [List.length_map, List.length_range, List.length_append, List.length_cons, List.length_nil, List.length_replicate, List.length_set]; omega) | (simp; omega) | (intro hgd; cases hgd) | (intro hgd; refine ⟨hgd, ?_⟩; first | omega | (refine ⟨by omega, by omega⟩) | (simp; omega))) ?_))
    generalize hx : L.getD i 0 = x at *
    refine AWp.loop (fun k' s => ∃ (j c : Nat) (O' : List Nat), j + k' = M.length ∧ O'.length = L.length + M.length ∧ Dig O' ∧ c < bs ∧ val O' + bs ^ (i + j) * c = val O + bs ^ i * (x * val (M.take j)) ∧ O'.getD (i + M.length) 0 = 0 ∧ Weak E s ⟨[(0, dv L), (1, dv M), (5, .hnd 0 0 (L.length + M.length) (L.length + M.length) true), (6, I i), (7, U x), (8, U8 c), (18, dv L), (19, I L.length), (20, I i), (25, dv M), (26, I M.length), (27, I j)], [.arr 99 1 (O'.map uc)]⟩) (n := M.length)
      ⟨0, 0, O, by omega, hO, hdO, by omega, by simp [val], hz, weak_to [0] hp hnp rfl (by simp (config := { maxSteps := 2000000 }) only [go_sem, ↓reduceIte, Int.reduceToNat, Nat.reduceMul, Int.reduceBEq, Int.reduceBNe, Nat.reduceBEq, Nat.reduceAdd, Nat.reduceSub, Nat.reduceLeDiff, Nat.reduceEqDiff, Nat.reduceLT, reduceCtorEq, Aw.pos] <;> rfl) (by simp (config := { maxSteps := 2000000 }) only [go_sem, ↓reduceIte, Int.reduceToNat, Nat.reduceMul, Int.reduceBEq, Int.reduceBNe, Nat.reduceBEq, Nat.reduceAdd, Nat.reduceSub, Nat.reduceLeDiff, Nat.reduceEqDiff, Nat.reduceLT, reduceCtorEq, Aw.renR, Aw.pos] <;> rfl)⟩ ?_
    rintro k' s' ⟨j, c, O', hj, hO', hdO', hc, hval', hz', hw'⟩
    rcases Nat.lt_or_ge j M.length with hjlt | hjge
    · refine AWp.weak hw' (AWp.ofD [] [] hn mixed rfl ?_)
      have e2 : decide ((j : Int) < (M.length : Int)) = true := decide_eq_true (by omega)
      have e3 := getD_mapD 0 uc (l := M) (i := j) hjlt
      have hMj := dget hdM j
      have hOj := dget hdO' (i + j)
      have hb := mul_dig hLi hMj hOj hc
      have hb1 : bs * bs = 1000000000000000000 := rfl
      have e4 : IntKind.i64.wrap ((i : Int) + (j : Int)) = ((i + j : Nat) : Int) := by rw [w64 (by omega) (by omega)]; rfl
      have e5 := getD_mapD 0 uc (l := O') (i := i + j) (by omega)
      have f1 : IntKind.u64.wrap ((x : Nat) : Int) = (x : Int) := w64u (by omega) (by omega)
      have f2 : IntKind.u64.wrap ((M.getD j 0 : Nat) : Int) = ((M.getD j 0 : Nat) : Int) := w64u (by omega) (by omega)
      have f3 : IntKind.u64.wrap ((O'.getD (i + j) 0 : Nat) : Int) = ((O'.getD (i + j) 0 : Nat) : Int) := w64u (by omega) (by omega)
      have f4 : IntKind.u64.wrap ((x : Int) * ((M.getD j 0 : Nat) : Int)) = ((x * M.getD j 0 : Nat) : Int) := by
        rw [← Int.natCast_mul]
        exact w64n (by omega)
      have f5 : IntKind.u64.wrap (((x * M.getD j 0 : Nat) : Int) + ((O'.getD (i + j) 0 : Nat) : Int)) = ((x * M.getD j 0 + O'.getD (i + j) 0 : Nat) : Int) := by
        rw [← Int.natCast_add]
        exact w64n (by omega)
      have f6 : IntKind.u64.wrap (((x * M.getD j 0 + O'.getD (i + j) 0 : Nat) : Int) + (c : Int)) = ((x * M.getD j 0 + O'.getD (i + j) 0 + c : Nat) : Int) := by
        rw [← Int.natCast_add]
        exact w64n (by omega)
      generalize ht : x * M.getD j 0 + O'.getD (i + j) 0 + c = t at *
      have hq : t / bs < bs := (Nat.div_lt_iff_lt_mul (by decide)).2 hb
      have hr : t % bs < bs := Nat.mod_lt _ (by decide)
      have f7 : IntKind.u32.wrap ((t : Int).tmod 1000000000) = ((t % bs : Nat) : Int) := by
        rw [show (t : Int).tmod 1000000000 = ((t % bs : Nat) : Int) from rfl]
        exact w32 (Int.natCast_nonneg _) (by omega)
      have f8 : IntKind.u64.wrap ((t : Int).tdiv 1000000000) = ((t / bs : Nat) : Int) := by
        rw [show (t : Int).tdiv 1000000000 = ((t / bs : Nat) : Int) from rfl]
        exact w64u (Int.natCast_nonneg _) (by omega)
      have f9 : IntKind.i64.wrap ((j : Int) + 1) = ((j + 1 : Nat) : Int) := by rw [w64 (by omega) (by omega)]; rfl
      simp (config := { maxSteps := 2000000 }) only [go_sem, ↓reduceIte, Int.reduceToNat, Nat.reduceMul, Int.reduceBEq, Int.reduceBNe, Nat.reduceBEq, Nat.reduceAdd, Nat.reduceSub, Nat.reduceLeDiff, Nat.reduceEqDiff, Nat.reduceLT, reduceCtorEq, e2, e3, e4, e5, f1, f2, f3, f4, f5, f6, f7, f8, f9, uset]
      (repeat (refine And.intro (by first | omega | (refine ⟨by omega, by omega⟩) | (refine ⟨by omega, by omega, by omega⟩) | (simp only [List.length_map, List.length_range, List.length_append, List.length_cons, List.length_nil, List.length_replicate, List.length_set]; omega) | (simp; omega) | (intro hgd; cases hgd) | (intro hgd; refine ⟨hgd, ?_⟩; first | omega | (refine ⟨by omega, by omega⟩) | (simp; omega))) ?_))
      refine ⟨k' - 1, by omega, j + 1, t / bs, O'.set (i + j) (t % bs), by omega, by rw [List.length_set, hO'], hdO'.set _ _ hr, hq, ?_, ?_, weak_to [0] hp hnp rfl (by simp (config := { maxSteps := 2000000 }) only [go_sem, ↓reduceIte, Int.reduceToNat, Nat.reduceMul, Int.reduceBEq, Int.reduceBNe, Nat.reduceBEq, Nat.reduceAdd, Nat.reduceSub, Nat.reduceLeDiff, Nat.reduceEqDiff, Nat.reduceLT, reduceCtorEq, Aw.pos]) (by simp (config := { maxSteps := 2000000 }) only [go_sem, ↓reduceIte, Int.reduceToNat, Nat.reduceMul, Int.reduceBEq, Int.reduceBNe, Nat.reduceBEq, Nat.reduceAdd, Nat.reduceSub, Nat.reduceLeDiff, Nat.reduceEqDiff, Nat.reduceLT, reduceCtorEq, Aw.renR, Aw.pos] <;> rfl)⟩
      · have h1 := val_set (l := O') (j := i + j) (t % bs) (by omega)
        have h2 : t % bs + bs * (t / bs) = x * M.getD j 0 + O'.getD (i + j) 0 + c := by rw [Nat.mod_add_div, ht]
        have h3 := mul_step (X := 0) h1 hval' h2
        rw [show i + (j + 1) = i + j + 1 by omega, Nat.pow_succ, h3, val_take1, Nat.mul_add, Nat.mul_add, Nat.pow_add, Nat.add_assoc]
        congr 2
        rw [Nat.mul_left_comm x, ← Nat.mul_assoc (bs ^ i)]
      · rw [List.getD_eq_getElem?_getD, List.getElem?_set_ne (by omega), ← List.getD_eq_getElem?_getD]; exact hz'
    · have hjM : j = M.length := by omega
      subst hjM
      refine AWp.weak hw' (AWp.ofD [] [] hn mixed rfl ?_)
      have e2 : decide ((M.length : Int) < (M.length : Int)) = false := decide_eq_false (by omega)
      have e4 : IntKind.i64.wrap ((i : Int) + (M.length : Int)) = ((i + M.length : Nat) : Int) := by rw [w64 (by omega) (by omega)]; rfl
      have e5 := getD_mapD 0 uc (l := O') (i := i + M.length) (by omega)
      have f7 : IntKind.u32.wrap (c : Int) = (c : Int) := w32 (by omega) (by omega)
      have f9 : IntKind.i64.wrap ((i : Int) + 1) = ((i + 1 : Nat) : Int) := by rw [w64 (by omega) (by omega)]; rfl
      simp (config := { maxSteps := 2000000 }) only [go_sem, ↓reduceIte, Int.reduceToNat, Nat.reduceMul, Int.reduceBEq, Int.reduceBNe, Nat.reduceBEq, Nat.reduceAdd, Nat.reduceSub, Nat.reduceLeDiff, Nat.reduceEqDiff, Nat.reduceLT, reduceCtorEq, e2, e4, e5, f7, f9, uset]
      (repeat (refine And.intro (by first | omega | (refine ⟨by omega, by omega⟩) | (refine ⟨by omega, by omega, by omega⟩) | (simp only [List.length_map, List.length_range, List.length_append, List.length_cons, List.length_nil, List.length_replicate, List.length_set]; omega) | (simp; omega) | (intro hgd; cases hgd) | (intro hgd; refine ⟨hgd, ?_⟩; first | omega | (refine ⟨by omega, by omega⟩) | (simp; omega))) ?_))
      refine ⟨k - 1, by omega, i + 1, O'.set (i + M.length) c, by omega, by rw [List.length_set, hO'], hdO'.set _ _ hc, ?_, weak_to [0] hp hnp rfl (by simp (config := { maxSteps := 2000000 }) only [go_sem, ↓reduceIte, Int.reduceToNat, Nat.reduceMul, Int.reduceBEq, Int.reduceBNe, Nat.reduceBEq, Nat.reduceAdd, Nat.reduceSub, Nat.reduceLeDiff, Nat.reduceEqDiff, Nat.reduceLT, reduceCtorEq, Aw.pos]) (by simp (config := { maxSteps := 2000000 }) only [go_sem, ↓reduceIte, Int.reduceToNat, Nat.reduceMul, Int.reduceBEq, Int.reduceBNe, Nat.reduceBEq, Nat.reduceAdd, Nat.reduceSub, Nat.reduceLeDiff, Nat.reduceEqDiff, Nat.reduceLT, reduceCtorEq, Aw.renR, Aw.pos] <;> rfl)⟩
      have h1 := val_set (l := O') (j := i + M.length) c (by omega)
      rw [hz', Nat.mul_zero, Nat.add_zero, hval', List.take_of_length_le (Nat.le_refl _), hval] at h1
      rw [h1, val_take1, hx, Nat.add_mul, Nat.mul_assoc]
  · have hiL : i = L.length := by omega
    subst hiL
    rw [List.take_of_length_le (Nat.le_refl _)] at hval
    refine AWp.weak hw (AWp.ofD [] [] hn mixed rfl ?_)
    have e0 : decide ((L.length : Int) < (L.length : Int)) = false := decide_eq_false (by omega)
    simp (config := { maxSteps := 2000000 }) only [go_sem, ↓reduceIte, Int.reduceToNat, Nat.reduceMul, Int.reduceBEq, Int.reduceBNe, Nat.reduceBEq, Nat.reduceAdd, Nat.reduceSub, Nat.reduceLeDiff, Nat.reduceEqDiff, Nat.reduceLT, reduceCtorEq, e0]
    (refine AWpL.callA [0] (s81H O true _ hO.symm (by omega)) rfl rfl (by rw [hn]; rfl) rfl (fun r hr => .inr (pin r)) fun rg v hv => ?_; obtain ⟨rfl, rfl⟩ := hv; refine ⟨Nat.le_refl _, AWpL.ofM hn rfl ?_⟩)
    simp (config := { maxSteps := 2000000 }) only [go_sem, ↓reduceIte, Int.reduceToNat, Nat.reduceMul, Int.reduceBEq, Int.reduceBNe, Nat.reduceBEq, Nat.reduceAdd, Nat.reduceSub, Nat.reduceLeDiff, Nat.reduceEqDiff, Nat.reduceLT, reduceCtorEq, Aw.retS, Aw.retRg, Aw.kpM, Aw.bkM, Aw.pos, Aw.isBox]
    refine Retn.ret (π := [0]) hp hnp ⟨rfl, ?_⟩
    simp (config := { maxSteps := 2000000 }) only [go_sem, ↓reduceIte, Int.reduceToNat, Nat.reduceMul, Int.reduceBEq, Int.reduceBNe, Nat.reduceBEq, Nat.reduceAdd, Nat.reduceSub, Nat.reduceLeDiff, Nat.reduceEqDiff, Nat.reduceLT, reduceCtorEq, Aw.renR, Aw.pos]
    exact ⟨O, hdO, hO, hval, rfl, by rw [hO]⟩
theorem s67R (n m : Nat) (hn0 : nl n ≤ 1000000) (hm0 : nl m ≤ 1000000) : Aw.Spec Tryd.prog 67 [] [nv n, nv m] (fun rg v => ∃ O : List Nat, Dig O ∧ O.length = nl n + nl m ∧ val O = n * m ∧ rg = [.arr 99 1 (O.map uc)] ∧ v = .hnd 0 0 (nl (n * m)) O.length true ∧ O.take (nl (n * m)) = digs (n * m)) := by
  have h := s67L (digs n) (digs m) (dig_digs n) (dig_digs m) hn0 hm0
  refine h.post ?_
  rintro rg v ⟨O, h1, h2, h3, h4, h5⟩
  rw [val_digs, val_digs] at h3
  have h6 := trim_digs h1
  have h7 := trim_take O
  rw [h6, h3] at h5 h7
  exact ⟨O, h1, h2, h3, h4, h5, h7⟩
theorem s67 (n m : Nat) (hn0 : nl n ≤ 1000000) (hm0 : nl m ≤ 1000000) : Aw.Spec Tryd.prog 67 [] [nv n, nv m] (fun rg v => rg = [] ∧ v = nv (n * m)) := by
  refine Aw.Spec.frz (s67R n m hn0 hm0) ?_
  rintro rg v ⟨O, h1, h2, h3, rfl, rfl, h7⟩
  refine .inl ⟨_, _, _, _, _, _, rfl, rfl, ?_, rfl, ?_⟩
  · rw [List.length_map]
    have := congrArg List.length h7
    rw [List.length_take] at this
    unfold nl
    omega
  · rw [← List.map_take, h7]
end Go.Proofs.YtjaakbkneeojnaaDoor
