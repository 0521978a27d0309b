/- Numbers: short. -/
import Derived.Test.YtjaakbkneeojnaaDoorAwZl
import Derived.Test.YtjaakbkneeojnaaDoorNatD
set_option linter.unusedVariables false
set_option linter.unusedSimpArgs false
namespace Go.Proofs.YtjaakbkneeojnaaDoor
open Go.Proofs.YtjaakbkneeojnaaDoor.Aw
attribute [local go_sem] Int.natCast_zero Int.natCast_one bne_self_eq_false beq_self_eq_true Bool.not_true Bool.not_false Option.isSome_none Option.isSome_some Aw.bkM_nil Option.getD_some Option.getD_none Nat.sub_zero Int.toNat_zero Aw.frzS Aw.frzT Aw.frzA Aw.frzL Aw.frzR Aw.frzO Aw.frzOL Aw.frzOT Aw.frzOR Aw.killS Aw.mapT Aw.mapR Aw.killM Aw.resAVs Aw.resAV Aw.quietOps Aw.wpP Aw.wpT Aw.wpS Aw.AOp.mild List.getElem?_cons_zero List.getElem?_cons_succ Bool.and_false Bool.and_self Bool.false_and Aw.opOb Aw.gdB Aw.Rnd Aw.subTm List.length_map Int.toNat_natCast and_self Aw.SeqC Aw.stops Aw.Ends Aw.looks Aw.renA Aw.renL Aw.renT Aw.renS Aw.wpO Aw.aop Aw.putTm Aw.St.ev Aw.St.put Aw.St.putO Aw.binAV Aw.intBin Aw.strBin Aw.pickAV Aw.optInt Aw.AV.strip Aw.AV.guard Aw.AV.cells Aw.gdOb Aw.AOp.opds Aw.AOp.still Aw.ptrCells Aw.St.reg Aw.fillAV Aw.fillOb Aw.elsOb Aw.splice Aw.firm Aw.cellish Aw.AV.shut Aw.shutAll Aw.Seq Aw.Blk Aw.retS_nil Aw.mapA Aw.mapL Aw.borA Aw.borOb Aw.allOb Aw.tupOf Aw.params Aw.Opd.of Array.toList Value.cells List.map_cons List.map_nil List.getD_cons_zero List.getD_cons_succ List.getD_nil List.length_cons List.length_nil List.take_succ_cons List.take_zero List.take_nil List.drop_zero List.drop_succ_cons List.drop_nil List.set_cons_zero List.set_cons_succ List.append_nil List.nil_append List.cons_append List.all_cons List.all_nil cond_false cond_true if_true if_false true_and and_true Bool.and_true Bool.true_and Option.map_some Option.map_none false_implies forall_const implies_true forall_eq imp_self Bool.cond_false_right Bool.cond_true_left beq_true beq_false Bool.not_eq_true' Bool.false_eq_true Nat.zero_add Nat.add_zero Aw.eqCells Aw.stopDraw Aw.skipS Aw.exactCap Aw.revealS Aw.srcEls Aw.srcSz
attribute [local go_sem ↓] Aw.look_nil Aw.look_ite Aw.wpL_nil Aw.wpL_op Aw.wpL_gd Aw.wpQ_nil Aw.wpQ_op Aw.wpQ_gd Aw.wpC_draw Aw.wpC_reg Aw.wpC_skip Aw.wpC_ret Aw.wpC_exit Aw.wpC_seq Aw.wpC_block Aw.wpC_loop Aw.wpC_cond Aw.stopAt_nil Aw.stopAt_cons Aw.wpD_skip Aw.wpD_ret Aw.wpD_exit Aw.wpD_region Aw.wpD_draw Aw.wpM_nil Aw.wpM_op Aw.wpM_gd Aw.wpD_seq Aw.wpD_block Aw.wpD_loop Aw.wpD_cond
/- (gridhall/nat.N).short -/
def a82 : ACode :=
  (.seq (.region false [] [
     ⟨(some 4), none, (.mov (.v (.slice none 0 0)))⟩,
     ⟨(some 5), none, (.mov (.v (.slice none 0 0)))⟩])
  (.seq (.region false [] [
     ⟨(some 9), none, (.mov (.t 0))⟩,
     ⟨(some 10), none, (.len (.t 9))⟩,
     ⟨(some 11), none, (.mksl 99 1 4 (.int .u32 0) (.t 10) (.t 10))⟩,
     ⟨(some 6), none, (.mov (.t 11))⟩])
  (.seq (.region false [] [
     ⟨(some 7), none, (.mov (.v (.int .u64 0)))⟩])
  (.seq (.seq (.region false [] [
     ⟨(some 12), none, (.mov (.t 0))⟩,
     ⟨(some 13), none, (.len (.t 12))⟩,
     ⟨(some 14), none, (.bin .sub 3 (.t 13) (.v (.int .i64 1)))⟩,
     ⟨(some 8), none, (.mov (.t 14))⟩])
  (.block 0 (.loop (.seq (.seq (.region false [] [
       ⟨(some 15), none, (.mov (.t 8))⟩,
       ⟨(some 16), none, (.bin .geq 3 (.t 15) (.v (.int .i64 0)))⟩])
    (.cond (.t 16)
      .skip
      (.exit 0)))
    (.seq (.block 1 (.seq (.region false [] [
        ⟨(some 19), none, (.mov (.t 7))⟩,
        ⟨(some 20), none, (.bin .mul 101 (.t 19) (.v (.int .u64 1000000000)))⟩,
        ⟨(some 21), none, (.mov (.t 0))⟩,
        ⟨(some 22), none, (.mov (.t 8))⟩,
        ⟨(some 23), none, (.idx 1 (.t 21) (.t 22))⟩,
        ⟨(some 24), none, (.load 1 false (.t 23))⟩,
        ⟨(some 25), none, (.itoi .u64 (.t 24))⟩,
        ⟨(some 26), none, (.bin .add 101 (.t 20) (.t 25))⟩,
        ⟨(some 7), none, (.mov (.t 26))⟩])
     (.seq (.region false [] [
        ⟨(some 27), none, (.mov (.t 6))⟩,
        ⟨(some 28), none, (.mov (.t 8))⟩,
        ⟨(some 29), none, (.mov (.t 7))⟩,
        ⟨(some 30), none, (.mov (.t 1))⟩,
        ⟨(some 31), none, (.itoi .u64 (.t 30))⟩,
        ⟨(some 32), none, (.bin .quo 101 (.t 29) (.t 31))⟩,
        ⟨(some 33), none, (.itoi .u32 (.t 32))⟩,
        ⟨(some 34), none, (.idx 1 (.t 27) (.t 28))⟩,
        ⟨none, none, (.store 1 (.t 34) (.t 33))⟩])
     (.region false [] [
        ⟨(some 35), none, (.mov (.t 7))⟩,
        ⟨(some 36), none, (.mov (.t 1))⟩,
        ⟨(some 37), none, (.itoi .u64 (.t 36))⟩,
        ⟨(some 38), none, (.bin .rem 101 (.t 35) (.t 37))⟩,
        ⟨(some 7), none, (.mov (.t 38))⟩]))))
    (.region false [] [
       ⟨(some 17), none, (.mov (.t 8))⟩,
       ⟨(some 18), none, (.bin .sub 3 (.t 17) (.v (.int .i64 1)))⟩,
       ⟨(some 8), none, (.mov (.t 18))⟩]))))))
  (.seq (.region false [] [
     ⟨(some 39), none, (.mov (.t 6))⟩,
     ⟨(some 40), none, (.call 81 [(.t 39)])⟩,
     ⟨(some 41), none, (.mov (.t 7))⟩,
     ⟨(some 42), none, (.itoi .u32 (.t 41))⟩,
     ⟨(some 43), none, (.bsl 99 1 1 [(0, (.t 42))])⟩,
     ⟨(some 44), none, (.call 81 [(.t 43)])⟩,
     ⟨(some 4), none, (.mov (.t 40))⟩,
     ⟨(some 5), none, (.mov (.t 44))⟩])
  .ret)))))
theorem k82 : FnIs Tryd.prog 82 45 [.t 4, .t 5] a82 := ⟨_, _, Tryd.func82, rfl, by kernel_rfl, by kernel_rfl, rfl⟩

theorem short_dig {r a d : Nat} (hd : 0 < d) (hd2 : d ≤ 4294967295) (hr : r < d) (ha : a < bs) : (r * bs + a) / d < bs ∧ r * bs < 18446744073709551616 ∧ r * bs + a < 18446744073709551616 := by
  have hb : bs = 1000000000 := rfl
  have h1 : (r + 1) * bs ≤ d * bs := Nat.mul_le_mul_right _ hr
  rw [Nat.add_mul, Nat.one_mul] at h1
  have h2 : d * bs ≤ 4294967295 * bs := Nat.mul_le_mul_right _ hd2
  refine ⟨(Nat.div_lt_iff_lt_mul hd).2 (by rw [Nat.mul_comm bs d]; omega), ?_, ?_⟩
  · rw [hb] at *; omega
  · have ha' : a < 1000000000 := ha
    rw [hb] at *; omega
theorem w64m {n : Nat} (h : n < 18446744073709551616) : IntKind.u64.wrap (n : Int) = (n : Int) := by
  exact w64u (by omega) (by omega)
theorem short_step {w q d r a : Nat} (h : w = q * d + r) : a + bs * w = ((r * bs + a) / d + bs * q) * d + (r * bs + a) % d := by
  have h1 := Nat.mod_add_div (r * bs + a) d
  rw [Nat.add_mul, h, Nat.mul_add, Nat.mul_comm ((r * bs + a) / d) d, Nat.mul_assoc]
  rw [Nat.mul_comm bs r]
  omega
set_option maxRecDepth 20000 in
set_option maxHeartbeats 2000000 in
theorem s82L (L : List Nat) (hdL : Dig L) (hL0 : L.length ≤ 1000000) (d : Nat) (hd0 : 0 < d) (hd1 : d < bs) : Aw.Spec Tryd.prog 82 [] [dv L, U d] (fun rg v => rg = [] ∧ v = .tup [nv (val L / d), nv (val L % d)]) := by
  refine Aw.Spec.regsW k82 rfl rfl fun E hn hnp hp => ?_
  unfold a82
  have pin : ∀ r, E.pin r = none := fun r => hp.none hnp (Nat.zero_le _)
  have hbs : bs = 1000000000 := rfl
  have hd2 : d ≤ 4294967295 := by omega
  refine AWp.ofD [] [] hn mixed rfl ?_
  have e9 : IntKind.i64.wrap ((L.length : Int) - 1) = (L.length : Int) - 1 := w64 (by omega) (by omega)
  simp (config := { maxSteps := 2000000 }) only [go_sem, ↓reduceIte, Int.reduceToNat, Nat.reduceMul, Int.reduceBEq, Int.reduceBNe, Nat.reduceBEq, Nat.reduceAdd, Nat.reduceSub, Nat.reduceLeDiff, Nat.reduceEqDiff, Nat.reduceLT, reduceCtorEq, e9]
  refine ⟨⟨by omega, by omega⟩, ?_⟩
  rw [urep]
  refine AWp.loop (fun k s => ∃ (r : Nat) (O : List Nat), k ≤ L.length ∧ O.length = L.length ∧ Dig O ∧ r < d ∧ val (L.drop k) = val (O.drop k) * d + r ∧ Weak E s ⟨[(0, dv L), (1, U d), (6, .hnd 0 0 L.length L.length true), (7, U8 r), (8, I ((k : Int) - 1))], [.arr 99 1 (O.map uc)]⟩) (n := L.length)
    ⟨0, List.replicate L.length 0, Nat.le_refl _, List.length_replicate, Dig.zeros _, hd0, by rw [List.drop_of_length_le (Nat.le_refl _), List.drop_of_length_le (by rw [List.length_replicate]; exact Nat.le_refl _)]; simp [val], weak_to [0] hp hnp rfl (by simp (config := { maxSteps := 2000000 }) only [go_sem, ↓reduceIte, Int.reduceToNat, Nat.reduceMul, Int.reduceBEq, Int.reduceBNe, Nat.reduceBEq, Nat.reduceAdd, Nat.reduceSub, Nat.reduceLeDiff, Nat.reduceEqDiff, Nat.reduceLT, reduceCtorEq, Aw.pos] <;> rfl) (by simp (config := { maxSteps := 2000000 }) only [go_sem, ↓reduceIte, Int.reduceToNat, Nat.reduceMul, Int.reduceBEq, Int.reduceBNe, Nat.reduceBEq, Nat.reduceAdd, Nat.reduceSub, Nat.reduceLeDiff, Nat.reduceEqDiff, Nat.reduceLT, reduceCtorEq, Aw.renR, Aw.pos] <;> rfl)⟩ ?_
  rintro k s ⟨r, O, hk, hO, hdO, hr, hval, hw⟩
  cases k with
  | succ i =>
    refine AWp.weak hw (AWp.ofD [] [] hn mixed rfl ?_)
    have e00 : ((i + 1 : Nat) : Int) - 1 = (i : Int) := by omega
    have e0 : decide ((i : Int) ≥ 0) = true := decide_eq_true (by omega)
    have e1 := getD_mapD 0 uc (l := L) (i := i) (by omega)
    have hLi := dget hdL i
    have e5 := getD_mapD 0 uc (l := O) (i := i) (by omega)
    obtain ⟨g1, g2, g3⟩ := short_dig hd0 hd2 hr hLi
    have f1 : IntKind.u64.wrap ((r : Int) * 1000000000) = ((r * bs : Nat) : Int) := by
      rw [show (r : Int) * 1000000000 = ((r * bs : Nat) : Int) by rw [hbs]; omega]
      exact w64m g2
    have f2 : IntKind.u64.wrap ((L.getD i 0 : Nat) : Int) = ((L.getD i 0 : Nat) : Int) := w64m (by omega)
    have f3 : IntKind.u64.wrap (((r * bs : Nat) : Int) + ((L.getD i 0 : Nat) : Int)) = ((r * bs + L.getD i 0 : Nat) : Int) := by
      rw [← Int.natCast_add]
      exact w64m g3
    have f4 : IntKind.u64.wrap ((d : Nat) : Int) = (d : Int) := w64m (by omega)
    have hs := short_step hval (a := L.getD i 0)
    rw [← val_drop1] at hs
    have hr2 : (r * bs + L.getD i 0) % d < d := Nat.mod_lt _ hd0
    generalize r * bs + L.getD i 0 = t at *
    have f5 : IntKind.u64.wrap ((t : Int).tdiv (d : Int)) = ((t / d : Nat) : Int) := by
      rw [show (t : Int).tdiv (d : Int) = ((t / d : Nat) : Int) from rfl]
      exact w64m (by omega)
    have f6 : (t : Int).tmod (d : Int) = ((t % d : Nat) : Int) := rfl
    have f7 : IntKind.u32.wrap ((t / d : Nat) : Int) = ((t / d : Nat) : Int) := w32 (Int.natCast_nonneg _) (by omega)
    have f9 : IntKind.i64.wrap ((i : Int) - 1) = (i : Int) - 1 := w64 (by omega) (by omega)
    have f10 : (d : Int) ≠ 0 := by omega
    rw [e00]
    simp (config := { maxSteps := 2000000 }) only [go_sem, ↓reduceIte, Int.reduceToNat, Nat.reduceMul, Int.reduceBEq, Int.reduceBNe, Nat.reduceBEq, Nat.reduceAdd, Nat.reduceSub, Nat.reduceLeDiff, Nat.reduceEqDiff, Nat.reduceLT, reduceCtorEq, e0, e1, e5, f1, f2, f3, f4, f5, f6, f7, f9, uset]
    (repeat (refine And.intro (by first | omega | (refine ⟨by omega, by omega⟩) | (refine ⟨by omega, by omega, by omega⟩) | (simp only [List.length_map, List.length_range, List.length_append, List.length_cons, List.length_nil, List.length_replicate, List.length_set]; omega) | (simp; omega) | (intro hgd; cases hgd) | (intro hgd; refine ⟨hgd, ?_⟩; first | omega | (refine ⟨by omega, by omega⟩) | (simp; omega))) ?_))
    refine ⟨i, by omega, t % d, O.set i (t / d), by omega, by rw [List.length_set, hO], hdO.set _ _ g1, hr2, ?_, weak_to [0] hp hnp rfl (by simp (config := { maxSteps := 2000000 }) only [go_sem, ↓reduceIte, Int.reduceToNat, Nat.reduceMul, Int.reduceBEq, Int.reduceBNe, Nat.reduceBEq, Nat.reduceAdd, Nat.reduceSub, Nat.reduceLeDiff, Nat.reduceEqDiff, Nat.reduceLT, reduceCtorEq, Aw.pos]) (by simp (config := { maxSteps := 2000000 }) only [go_sem, ↓reduceIte, Int.reduceToNat, Nat.reduceMul, Int.reduceBEq, Int.reduceBNe, Nat.reduceBEq, Nat.reduceAdd, Nat.reduceSub, Nat.reduceLeDiff, Nat.reduceEqDiff, Nat.reduceLT, reduceCtorEq, Aw.renR, Aw.pos] <;> rfl)⟩
    rw [hs, val_drop1 (O.set i (t / d)), List.drop_set_of_lt (by omega : i < i + 1)]
    have : (O.set i (t / d)).getD i 0 = t / d := by rw [List.getD_eq_getElem?_getD, List.getElem?_set_self (by omega)]; rfl
    rw [this]
  | zero =>
    rw [List.drop_zero, List.drop_zero] at hval
    refine AWp.weak hw (AWp.ofD [] [] hn mixed rfl ?_)
    have e0 : decide (((0 : Int)) - 1 ≥ 0) = false := rfl
    simp (config := { maxSteps := 2000000 }) only [go_sem, ↓reduceIte, Int.reduceToNat, Nat.reduceMul, Int.reduceBEq, Int.reduceBNe, Nat.reduceBEq, Nat.reduceAdd, Nat.reduceSub, Nat.reduceLeDiff, Nat.reduceEqDiff, Nat.reduceLT, reduceCtorEq, e0]
    refine AWpL.weak (weak_freeze 0 rfl (pin 0) (by simp (config := { maxSteps := 2000000 }) only [go_sem, ↓reduceIte, Int.reduceToNat, Nat.reduceMul, Int.reduceBEq, Int.reduceBNe, Nat.reduceBEq, Nat.reduceAdd, Nat.reduceSub, Nat.reduceLeDiff, Nat.reduceEqDiff, Nat.reduceLT, reduceCtorEq, Nat.le_refl, List.length_map, hO])) ?_
    have ef : ((O.map uc).take L.length) = O.map uc := List.take_of_length_le (by rw [List.length_map, hO]; exact Nat.le_refl _)
    simp (config := { maxSteps := 2000000 }) only [go_sem, ↓reduceIte, Int.reduceToNat, Nat.reduceMul, Int.reduceBEq, Int.reduceBNe, Nat.reduceBEq, Nat.reduceAdd, Nat.reduceSub, Nat.reduceLeDiff, Nat.reduceEqDiff, Nat.reduceLT, reduceCtorEq, ef]
    refine AWpL.weak (weak_ent 39 (by rfl) (Ent.plain _ _ _ _)) ?_
    (refine AWpL.callA [] (s81 O (by omega)) rfl rfl (by rw [hn]; rfl) rfl (fun r hr => .inr (pin r)) fun rg v hv => ?_; obtain ⟨rfl, rfl⟩ := hv; refine ⟨Nat.le_refl _, AWpL.ofM hn rfl ?_⟩)
    have f1 : IntKind.u32.wrap (r : Int) = (r : Int) := w32 (by omega) (by omega)
    simp (config := { maxSteps := 2000000 }) only [go_sem, ↓reduceIte, Int.reduceToNat, Nat.reduceMul, Int.reduceBEq, Int.reduceBNe, Nat.reduceBEq, Nat.reduceAdd, Nat.reduceSub, Nat.reduceLeDiff, Nat.reduceEqDiff, Nat.reduceLT, reduceCtorEq, Aw.retS, Aw.retRg, Aw.kpM, Aw.bkM, Aw.pos, Aw.isBox, f1]
    refine AWpL.weak (weak_freeze 1 rfl (pin 1) (by simp (config := { maxSteps := 2000000 }) only [go_sem, ↓reduceIte, Int.reduceToNat, Nat.reduceMul, Int.reduceBEq, Int.reduceBNe, Nat.reduceBEq, Nat.reduceAdd, Nat.reduceSub, Nat.reduceLeDiff, Nat.reduceEqDiff, Nat.reduceLT, reduceCtorEq, Nat.le_refl])) ?_
    simp (config := { maxSteps := 2000000 }) only [go_sem, ↓reduceIte, Int.reduceToNat, Nat.reduceMul, Int.reduceBEq, Int.reduceBNe, Nat.reduceBEq, Nat.reduceAdd, Nat.reduceSub, Nat.reduceLeDiff, Nat.reduceEqDiff, Nat.reduceLT, reduceCtorEq]
    refine AWpL.weak (weak_ent 43 (by rfl) (Ent.plain _ _ _ _)) ?_
    (refine AWpL.callA [] (s81 [r] (by show 1 ≤ 1000000; decide)) rfl rfl (by rw [hn]; rfl) rfl (fun r hr => .inr (pin r)) fun rg v hv => ?_; obtain ⟨rfl, rfl⟩ := hv; refine ⟨Nat.le_refl _, AWpL.ofM hn rfl ?_⟩)
    simp (config := { maxSteps := 2000000 }) only [go_sem, ↓reduceIte, Int.reduceToNat, Nat.reduceMul, Int.reduceBEq, Int.reduceBNe, Nat.reduceBEq, Nat.reduceAdd, Nat.reduceSub, Nat.reduceLeDiff, Nat.reduceEqDiff, Nat.reduceLT, reduceCtorEq, Aw.retS, Aw.retRg, Aw.kpM, Aw.bkM, Aw.pos, Aw.isBox]
    refine Retn.ret (π := []) hp hnp ⟨rfl, ?_⟩
    simp (config := { maxSteps := 2000000 }) only [go_sem, ↓reduceIte, Int.reduceToNat, Nat.reduceMul, Int.reduceBEq, Int.reduceBNe, Nat.reduceBEq, Nat.reduceAdd, Nat.reduceSub, Nat.reduceLeDiff, Nat.reduceEqDiff, Nat.reduceLT, reduceCtorEq]
    have hdr : Dig [r] := Dig.one (by omega)
    have h1 : val O = val L / d := by rw [hval, Nat.mul_comm, Nat.mul_add_div hd0, Nat.div_eq_of_lt hr, Nat.add_zero]
    have h2 : r = val L % d := by rw [hval, Nat.mul_comm, Nat.mul_add_mod, Nat.mod_eq_of_lt hr]
    rw [trim_digs hdO, trim_digs hdr, show val [r] = r by simp [val], h1, h2]
theorem s82 (n : Nat) (hL0 : nl n ≤ 1000000) (d : Nat) (hd0 : 0 < d) (hd1 : d < bs) : Aw.Spec Tryd.prog 82 [] [nv n, U d] (fun rg v => rg = [] ∧ v = .tup [nv (n / d), nv (n % d)]) := by
  have h := s82L (digs n) (dig_digs n) hL0 d hd0 hd1
  rwa [val_digs] at h
end Go.Proofs.YtjaakbkneeojnaaDoor
