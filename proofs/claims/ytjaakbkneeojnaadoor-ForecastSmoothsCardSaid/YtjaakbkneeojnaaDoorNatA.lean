/- Numbers: what the functions of package nat compute. -/
import Derived.Test.YtjaakbkneeojnaaDoorAwZl
import Derived.Test.YtjaakbkneeojnaaDoorLibA
import Derived.Test.YtjaakbkneeojnaaDoorNatP
set_option linter.unusedVariables false
set_option linter.unusedSimpArgs false
namespace Go.Proofs.YtjaakbkneeojnaaDoor
open Go.Proofs.YtjaakbkneeojnaaDoor.Aw
attribute [local go_sem] Int.natCast_zero Int.natCast_one bne_self_eq_false beq_self_eq_true Bool.not_true Bool.not_false Option.isSome_none Option.isSome_some Aw.bkM_nil Option.getD_some Option.getD_none Nat.sub_zero Int.toNat_zero Aw.frzS Aw.frzT Aw.frzA Aw.frzL Aw.frzR Aw.frzO Aw.frzOL Aw.frzOT Aw.frzOR Aw.killS Aw.mapT Aw.mapR Aw.killM Aw.resAVs Aw.resAV Aw.quietOps Aw.wpP Aw.wpT Aw.wpS Aw.AOp.mild List.getElem?_cons_zero List.getElem?_cons_succ Bool.and_false Bool.and_self Bool.false_and Aw.opOb Aw.gdB Aw.Rnd Aw.subTm List.length_map Int.toNat_natCast and_self Aw.SeqC Aw.stops Aw.Ends Aw.looks Aw.renA Aw.renL Aw.renT Aw.renS Aw.wpO Aw.aop Aw.putTm Aw.St.ev Aw.St.put Aw.St.putO Aw.binAV Aw.intBin Aw.strBin Aw.pickAV Aw.optInt Aw.AV.strip Aw.AV.guard Aw.AV.cells Aw.gdOb Aw.AOp.opds Aw.AOp.still Aw.ptrCells Aw.St.reg Aw.fillAV Aw.fillOb Aw.elsOb Aw.splice Aw.firm Aw.cellish Aw.AV.shut Aw.shutAll Aw.Seq Aw.Blk Aw.retS_nil Aw.mapA Aw.mapL Aw.borA Aw.borOb Aw.allOb Aw.tupOf Aw.params Aw.Opd.of Array.toList Value.cells List.map_cons List.map_nil List.getD_cons_zero List.getD_cons_succ List.getD_nil List.length_cons List.length_nil List.take_succ_cons List.take_zero List.take_nil List.drop_zero List.drop_succ_cons List.drop_nil List.set_cons_zero List.set_cons_succ List.append_nil List.nil_append List.cons_append List.all_cons List.all_nil cond_false cond_true if_true if_false true_and and_true Bool.and_true Bool.true_and Option.map_some Option.map_none false_implies forall_const implies_true forall_eq imp_self Bool.cond_false_right Bool.cond_true_left beq_true beq_false Bool.not_eq_true' Bool.false_eq_true Nat.zero_add Nat.add_zero Aw.eqCells Aw.stopDraw Aw.skipS Aw.exactCap Aw.revealS Aw.srcEls Aw.srcSz
attribute [local go_sem ↓] Aw.look_nil Aw.look_ite Aw.wpL_nil Aw.wpL_op Aw.wpL_gd Aw.wpQ_nil Aw.wpQ_op Aw.wpQ_gd Aw.wpC_draw Aw.wpC_reg Aw.wpC_skip Aw.wpC_ret Aw.wpC_exit Aw.wpC_seq Aw.wpC_block Aw.wpC_loop Aw.wpC_cond Aw.stopAt_nil Aw.stopAt_cons Aw.wpD_skip Aw.wpD_ret Aw.wpD_exit Aw.wpD_region Aw.wpD_draw Aw.wpM_nil Aw.wpM_op Aw.wpM_gd Aw.wpD_seq Aw.wpD_block Aw.wpD_loop Aw.wpD_cond
/- gridhall/nat.Of -/
def a66 : ACode :=
  (.seq (.region false [] [
     ⟨(some 2), none, (.mov (.v (.slice none 0 0)))⟩])
  (.seq (.region false [] [
     ⟨(some 3), none, (.mov (.v (.slice none 0 0)))⟩])
  (.seq (.block 0 (.loop (.seq (.seq (.region false [] [
       ⟨(some 4), none, (.mov (.t 0))⟩,
       ⟨(some 5), none, (.bin .gtr 3 (.t 4) (.v (.int .i64 0)))⟩])
    (.cond (.t 5)
      .skip
      (.exit 0)))
    (.block 1 (.seq (.region false [] [
        ⟨(some 6), none, (.mov (.t 3))⟩,
        ⟨(some 7), none, (.mov (.t 0))⟩,
        ⟨(some 8), none, (.bin .rem 3 (.t 7) (.v (.int .i64 1000000000)))⟩,
        ⟨(some 9), none, (.itoi .u32 (.t 8))⟩,
        ⟨(some 10), none, (.bsl 99 1 1 [(0, (.t 9))])⟩,
        ⟨(some 11), none, (.app 99 1 4 (.int .u32 0) (.t 6) (.t 10))⟩,
        ⟨(some 3), none, (.mov (.t 11))⟩])
     (.region false [] [
        ⟨(some 12), none, (.mov (.t 0))⟩,
        ⟨(some 13), none, (.bin .quo 3 (.t 12) (.v (.int .i64 1000000000)))⟩,
        ⟨(some 0), none, (.mov (.t 13))⟩]))))))
  (.seq (.region false [] [
     ⟨(some 14), none, (.mov (.t 3))⟩,
     ⟨(some 2), none, (.mov (.t 14))⟩])
  .ret))))
theorem k66 : FnIs Tryd.prog 66 15 [.t 2] a66 := ⟨_, _, Tryd.func66, rfl, by kernel_rfl, by kernel_rfl, rfl⟩
/- (gridhall/nat.N).trim -/
def a81 : ACode :=
  (.seq (.region false [] [
     ⟨(some 2), none, (.mov (.v (.slice none 0 0)))⟩])
  (.seq (.block 0 (.loop (.seq (.seq (.region false [] [
       ⟨(some 3), none, (.mov (.t 0))⟩,
       ⟨(some 4), none, (.len (.t 3))⟩,
       ⟨(some 5), none, (.bin .gtr 3 (.t 4) (.v (.int .i64 0)))⟩,
       ⟨(some 6), none, (.mov (.t 5))⟩,
       ⟨(some 7), (some (6, true)), (.mov (.t 0))⟩,
       ⟨(some 8), (some (6, true)), (.mov (.t 0))⟩,
       ⟨(some 9), (some (6, true)), (.len (.t 8))⟩,
       ⟨(some 10), (some (6, true)), (.bin .sub 3 (.t 9) (.v (.int .i64 1)))⟩,
       ⟨(some 11), (some (6, true)), (.idx 1 (.t 7) (.t 10))⟩,
       ⟨(some 12), (some (6, true)), (.load 1 false (.t 11))⟩,
       ⟨(some 13), (some (6, true)), (.bin .eql 99 (.t 12) (.v (.int .u32 0)))⟩,
       ⟨(some 14), none, (.pick (.t 6) (.t 13) (.v (.bool false)))⟩])
    (.cond (.t 14)
      .skip
      (.exit 0)))
    (.block 1 (.region false [] [
        ⟨(some 15), none, (.mov (.t 0))⟩,
        ⟨(some 16), none, (.mov (.t 0))⟩,
        ⟨(some 17), none, (.len (.t 16))⟩,
        ⟨(some 18), none, (.bin .sub 3 (.t 17) (.v (.int .i64 1)))⟩,
        ⟨(some 19), none, (.slc 1 (.t 15) none (some (.t 18)) none)⟩,
        ⟨(some 0), none, (.mov (.t 19))⟩])))))
  (.seq (.region false [] [
     ⟨(some 20), none, (.mov (.t 0))⟩,
     ⟨(some 2), none, (.mov (.t 20))⟩])
  .ret)))
theorem k81 : FnIs Tryd.prog 81 21 [.t 2] a81 := ⟨_, _, Tryd.func81, rfl, by kernel_rfl, by kernel_rfl, rfl⟩
/- (gridhall/nat.N).Cmp -/
def a70 : ACode :=
  (.seq (.region false [] [
     ⟨(some 4), none, (.mov (.v (.int .i64 0)))⟩])
  (.seq (.seq (.region false [] [
     ⟨(some 6), none, (.mov (.t 0))⟩,
     ⟨(some 7), none, (.len (.t 6))⟩,
     ⟨(some 8), none, (.mov (.t 1))⟩,
     ⟨(some 9), none, (.len (.t 8))⟩,
     ⟨(some 10), none, (.bin .neq 3 (.t 7) (.t 9))⟩])
  (.cond (.t 10)
    (.seq (.seq (.region false [] [
       ⟨(some 11), none, (.mov (.t 0))⟩,
       ⟨(some 12), none, (.len (.t 11))⟩,
       ⟨(some 13), none, (.mov (.t 1))⟩,
       ⟨(some 14), none, (.len (.t 13))⟩,
       ⟨(some 15), none, (.bin .lss 3 (.t 12) (.t 14))⟩])
    (.cond (.t 15)
      (.seq (.region false [] [
         ⟨(some 4), none, (.mov (.v (.int .i64 (-1))))⟩])
      .ret)
      .skip))
    (.seq (.region false [] [
       ⟨(some 4), none, (.mov (.v (.int .i64 1)))⟩])
    .ret))
    .skip))
  (.seq (.seq (.region false [] [
     ⟨(some 16), none, (.mov (.t 0))⟩,
     ⟨(some 17), none, (.len (.t 16))⟩,
     ⟨(some 18), none, (.bin .sub 3 (.t 17) (.v (.int .i64 1)))⟩,
     ⟨(some 5), none, (.mov (.t 18))⟩])
  (.block 0 (.loop (.seq (.seq (.region false [] [
       ⟨(some 19), none, (.mov (.t 5))⟩,
       ⟨(some 20), none, (.bin .geq 3 (.t 19) (.v (.int .i64 0)))⟩])
    (.cond (.t 20)
      .skip
      (.exit 0)))
    (.seq (.block 1 (.block 2 (.seq (.region true [[], [], [0, 1], [2], [], [], [4, 5], [6], [3, 7], [8]] [
         ⟨(some 24), none, (.mov (.t 0))⟩,
         ⟨(some 25), none, (.mov (.t 5))⟩,
         ⟨(some 26), none, (.idx 1 (.t 24) (.t 25))⟩,
         ⟨(some 27), none, (.load 1 false (.t 26))⟩,
         ⟨(some 28), none, (.mov (.t 1))⟩,
         ⟨(some 29), none, (.mov (.t 5))⟩,
         ⟨(some 30), none, (.idx 1 (.t 28) (.t 29))⟩,
         ⟨(some 31), none, (.load 1 false (.t 30))⟩,
         ⟨(some 32), none, (.bin .lss 99 (.t 27) (.t 31))⟩,
         ⟨(some 23), none, (.mov (.t 32))⟩])
      (.cond (.t 23)
        (.seq (.region false [] [
           ⟨(some 4), none, (.mov (.v (.int .i64 (-1))))⟩])
        .ret)
        (.seq (.region true [[], [], [0, 1], [2], [], [], [4, 5], [6], [3, 7], [8]] [
           ⟨(some 34), none, (.mov (.t 0))⟩,
           ⟨(some 35), none, (.mov (.t 5))⟩,
           ⟨(some 36), none, (.idx 1 (.t 34) (.t 35))⟩,
           ⟨(some 37), none, (.load 1 false (.t 36))⟩,
           ⟨(some 38), none, (.mov (.t 1))⟩,
           ⟨(some 39), none, (.mov (.t 5))⟩,
           ⟨(some 40), none, (.idx 1 (.t 38) (.t 39))⟩,
           ⟨(some 41), none, (.load 1 false (.t 40))⟩,
           ⟨(some 42), none, (.bin .gtr 99 (.t 37) (.t 41))⟩,
           ⟨(some 33), none, (.mov (.t 42))⟩])
        (.cond (.t 33)
          (.seq (.region false [] [
             ⟨(some 4), none, (.mov (.v (.int .i64 1)))⟩])
          .ret)
          .skip))))))
    (.region false [] [
       ⟨(some 21), none, (.mov (.t 5))⟩,
       ⟨(some 22), none, (.bin .sub 3 (.t 21) (.v (.int .i64 1)))⟩,
       ⟨(some 5), none, (.mov (.t 22))⟩]))))))
  (.seq (.region false [] [
     ⟨(some 4), none, (.mov (.v (.int .i64 0)))⟩])
  .ret))))
theorem k70 : FnIs Tryd.prog 70 43 [.t 4] a70 := ⟨_, _, Tryd.func70, rfl, by kernel_rfl, by kernel_rfl, rfl⟩

abbrev uc (d : Nat) : List AV := [.val (.int .u32 d)]
/-- A number. -/
abbrev nv (n : Nat) : AV := .imm none false 1 ((digs n).map uc)
abbrev dv (l : List Nat) : AV := .imm none false 1 (l.map uc)
theorem w32 {n : Int} (h0 : 0 ≤ n) (h1 : n ≤ 4294967295) : IntKind.u32.wrap n = n := by
  show (n % 4294967296 : Int) = n
  omega
set_option maxRecDepth 20000 in
theorem s66 (n : Nat) (hn0 : n ≤ 9223372036854775807) : Aw.Spec Tryd.prog 66 [] [I n] (fun rg v => rg = [] ∧ v = nv n) := by
  refine Aw.Spec.regsW k66 rfl rfl fun E hn hnp hp => ?_
  unfold a66
  have pin : ∀ r, E.pin r = none := fun r => hp.none hnp (Nat.zero_le _)
  refine AWp.ofD [] [] hn mixed rfl ?_
  simp (config := { maxSteps := 2000000 }) only [go_sem, ↓reduceIte, Int.reduceToNat, Nat.reduceMul, Int.reduceBEq, Int.reduceBNe, Nat.reduceBEq, Nat.reduceAdd, Nat.reduceSub, Nat.reduceLeDiff, Nat.reduceEqDiff, Nat.reduceLT, reduceCtorEq]
  refine AWp.weak (weak_nil 3 99 1 rfl) ?_
  refine AWp.loop (fun k s => ∃ (m : Nat) (out : List Nat), m ≤ 9223372036854775807 ∧ m < bs ^ k ∧ out.length + k = 3 ∧ digs n = out ++ digs m ∧ Weak E s ⟨[(0, I m), (3, .hnd 0 0 out.length out.length false)], [.arr 99 1 (out.map uc)]⟩) (n := 3)
    ⟨n, [], hn0, by show n < 1000000000 ^ 3; omega, rfl, rfl, weak_to [0] hp hnp rfl (by simp (config := { maxSteps := 2000000 }) only [go_sem, ↓reduceIte, Int.reduceToNat, Nat.reduceMul, Int.reduceBEq, Int.reduceBNe, Nat.reduceBEq, Nat.reduceAdd, Nat.reduceSub, Nat.reduceLeDiff, Nat.reduceEqDiff, Nat.reduceLT, reduceCtorEq, Aw.pos]) (by simp (config := { maxSteps := 2000000 }) only [go_sem, ↓reduceIte, Int.reduceToNat, Nat.reduceMul, Int.reduceBEq, Int.reduceBNe, Nat.reduceBEq, Nat.reduceAdd, Nat.reduceSub, Nat.reduceLeDiff, Nat.reduceEqDiff, Nat.reduceLT, reduceCtorEq, Aw.renR, Aw.pos] <;> rfl)⟩ ?_
  rintro k s ⟨m, out, hm, hmk, hok, hd, hw⟩
  refine AWp.weak hw (AWp.ofD [] [] hn mixed rfl ?_)
  rcases Nat.eq_zero_or_pos m with h0 | h0
  · subst h0
    rw [digs_zero, List.append_nil] at hd
    have e0 : decide ((0 : Int) > 0) = false := rfl
    simp (config := { maxSteps := 2000000 }) only [go_sem, ↓reduceIte, Int.reduceToNat, Nat.reduceMul, Int.reduceBEq, Int.reduceBNe, Nat.reduceBEq, Nat.reduceAdd, Nat.reduceSub, Nat.reduceLeDiff, Nat.reduceEqDiff, Nat.reduceLT, reduceCtorEq, e0]
    refine Retn.weak (weak_freeze 0 rfl (pin 0) (by simp (config := { maxSteps := 2000000 }) only [go_sem, ↓reduceIte, Int.reduceToNat, Nat.reduceMul, Int.reduceBEq, Int.reduceBNe, Nat.reduceBEq, Nat.reduceAdd, Nat.reduceSub, Nat.reduceLeDiff, Nat.reduceEqDiff, Nat.reduceLT, reduceCtorEq, Nat.le_refl, List.length_map])) _ ?_
    refine Retn.ret (π := []) hp hnp ⟨rfl, ?_⟩
    simp (config := { maxSteps := 2000000 }) only [go_sem, ↓reduceIte, Int.reduceToNat, Nat.reduceMul, Int.reduceBEq, Int.reduceBNe, Nat.reduceBEq, Nat.reduceAdd, Nat.reduceSub, Nat.reduceLeDiff, Nat.reduceEqDiff, Nat.reduceLT, reduceCtorEq]
    rw [List.take_of_length_le (by rw [List.length_map]; exact Nat.le_refl _)]
    show _ = AV.imm none false 1 ((digs n).map uc)
    rw [hd]
  · have e0 : decide ((m : Int) > 0) = true := decide_eq_true (by omega)
    have e1 : IntKind.u32.wrap ((m : Int).tmod 1000000000) = ((m % bs : Nat) : Int) := by
      rw [show (m : Int).tmod 1000000000 = ((m % bs : Nat) : Int) from rfl]
      have : m % bs ≤ 999999999 := Nat.le_of_lt_succ (Nat.mod_lt _ (by decide))
      exact w32 (Int.natCast_nonneg _) (Int.ofNat_le.2 (Nat.le_trans this (by decide)))
    have e2 : (m : Int).tdiv 1000000000 = ((m / bs : Nat) : Int) := rfl
    have e3 : IntKind.i64.wrap ((m / bs : Nat) : Int) = ((m / bs : Nat) : Int) := by
      have h5 : m / bs ≤ m := Nat.div_le_self _ _
      generalize m / bs = q at *
      exact w64 (by omega) (by omega)
    obtain ⟨k, rfl⟩ : ∃ g, k = g + 1 := ⟨k - 1, by
      rcases Nat.eq_zero_or_pos k with h | h
      · subst h; rw [Nat.pow_zero] at hmk; omega
      · omega⟩
    have hq : m / bs < bs ^ k := by
      rw [Nat.div_lt_iff_lt_mul (by decide)]
      rwa [Nat.pow_succ] at hmk
    have hqm : m / bs ≤ m := Nat.div_le_self _ _
    rw [digs_pos (n := m) (by omega)] at hd
    simp (config := { maxSteps := 2000000 }) only [go_sem, ↓reduceIte, Int.reduceToNat, Nat.reduceMul, Int.reduceBEq, Int.reduceBNe, Nat.reduceBEq, Nat.reduceAdd, Nat.reduceSub, Nat.reduceLeDiff, Nat.reduceEqDiff, Nat.reduceLT, reduceCtorEq, e0, e1]
    refine ⟨by decide, ?_⟩
    refine AWpL.app (r := 0) (els := out.map uc) (ys := [uc (m % bs)]) rfl rfl rfl rfl (by rw [hn]; rfl) (by rw [List.length_map]) (pin 0) (by simp (config := { maxSteps := 2000000 }) only [go_sem, ↓reduceIte, Int.reduceToNat, Nat.reduceMul, Int.reduceBEq, Int.reduceBNe, Nat.reduceBEq, Nat.reduceAdd, Nat.reduceSub, Nat.reduceLeDiff, Nat.reduceEqDiff, Nat.reduceLT, reduceCtorEq, Nat.le_refl]) (fun el hm y hy => by
      rw [List.mem_singleton.1 hm] at hy
      rw [List.mem_singleton.1 hy]; rfl) (by simp only [List.length_cons, List.length_nil]; omega) (by simp only [List.length_cons, List.length_nil]; omega) (AWpL.ofM hn rfl ?_)
    have hap : out.map uc ++ [uc (m % bs)] = (out ++ [m % bs]).map uc := by rw [List.map_append]; rfl
    have hl2 : out.length + 1 = (out ++ [m % bs]).length := by rw [List.length_append]; rfl
    simp (config := { maxSteps := 2000000 }) only [go_sem, ↓reduceIte, Int.reduceToNat, Nat.reduceMul, Int.reduceBEq, Int.reduceBNe, Nat.reduceBEq, Nat.reduceAdd, Nat.reduceSub, Nat.reduceLeDiff, Nat.reduceEqDiff, Nat.reduceLT, reduceCtorEq, hap, hl2, e2, e3]
    refine ⟨by decide, k, by omega, m / bs, out ++ [m % bs], Nat.le_trans hqm hm, hq, by rw [← hl2]; omega, by rw [hd, List.append_assoc]; rfl, weak_to [0] hp hnp rfl (by simp (config := { maxSteps := 2000000 }) only [go_sem, ↓reduceIte, Int.reduceToNat, Nat.reduceMul, Int.reduceBEq, Int.reduceBNe, Nat.reduceBEq, Nat.reduceAdd, Nat.reduceSub, Nat.reduceLeDiff, Nat.reduceEqDiff, Nat.reduceLT, reduceCtorEq, Aw.pos]) (by simp (config := { maxSteps := 2000000 }) only [go_sem, ↓reduceIte, Int.reduceToNat, Nat.reduceMul, Int.reduceBEq, Int.reduceBNe, Nat.reduceBEq, Nat.reduceAdd, Nat.reduceSub, Nat.reduceLeDiff, Nat.reduceEqDiff, Nat.reduceLT, reduceCtorEq, Aw.renR, Aw.pos] <;> rfl)⟩
theorem s81 (l : List Nat) (hl : l.length ≤ 1000000) : Aw.Spec Tryd.prog 81 [] [dv l] (fun rg v => rg = [] ∧ v = dv (trimL l)) := by
  refine Aw.Spec.regsW k81 rfl rfl fun E hn hnp hp => ?_
  unfold a81
  refine AWp.ofD [] [] hn mixed rfl ?_
  simp (config := { maxSteps := 2000000 }) only [go_sem, ↓reduceIte, Int.reduceToNat, Nat.reduceMul, Int.reduceBEq, Int.reduceBNe, Nat.reduceBEq, Nat.reduceAdd, Nat.reduceSub, Nat.reduceLeDiff, Nat.reduceEqDiff, Nat.reduceLT, reduceCtorEq]
  refine AWp.loop (fun k s => ∃ m : List Nat, m.length ≤ k ∧ m.length ≤ 1000000 ∧ trimL m = trimL l ∧ Weak E s ⟨[(0, dv m)], []⟩) (n := l.length)
    ⟨l, Nat.le_refl _, hl, rfl, weak_to [] hp hnp rfl (by simp (config := { maxSteps := 2000000 }) only [go_sem, ↓reduceIte, Int.reduceToNat, Nat.reduceMul, Int.reduceBEq, Int.reduceBNe, Nat.reduceBEq, Nat.reduceAdd, Nat.reduceSub, Nat.reduceLeDiff, Nat.reduceEqDiff, Nat.reduceLT, reduceCtorEq]) rfl⟩ ?_
  rintro k s ⟨m, hk, hm, ht, hw⟩
  refine AWp.weak hw ?_
  rcases List.eq_nil_or_concat m with rfl | ⟨m0, d, hmc⟩
  · have ht0 : trimL [] = [] := rfl
    rw [ht0] at ht
    refine AWp.seq (AWp.seq (AWp.region (AWpL.upto 4 hn rfl ?_)))
    have e0 : decide ((0 : Int) > 0) = false := rfl
    simp (config := { maxSteps := 2000000 }) only [go_sem, ↓reduceIte, Int.reduceToNat, Nat.reduceMul, Int.reduceBEq, Int.reduceBNe, Nat.reduceBEq, Nat.reduceAdd, Nat.reduceSub, Nat.reduceLeDiff, Nat.reduceEqDiff, Nat.reduceLT, reduceCtorEq, e0]
    refine AWpL.skips hn 6 true 7 (by rfl) rfl (AWpL.weak (weak_ent 13 (y := .opt false (B false)) (by rfl) Ent.off) (AWpL.ofM hn rfl ?_))
    simp (config := { maxSteps := 2000000 }) only [go_sem, ↓reduceIte, Int.reduceToNat, Nat.reduceMul, Int.reduceBEq, Int.reduceBNe, Nat.reduceBEq, Nat.reduceAdd, Nat.reduceSub, Nat.reduceLeDiff, Nat.reduceEqDiff, Nat.reduceLT, reduceCtorEq]
    refine AWp.ofD [] [] hn mixed rfl ?_
    simp (config := { maxSteps := 2000000 }) only [go_sem, ↓reduceIte, Int.reduceToNat, Nat.reduceMul, Int.reduceBEq, Int.reduceBNe, Nat.reduceBEq, Nat.reduceAdd, Nat.reduceSub, Nat.reduceLeDiff, Nat.reduceEqDiff, Nat.reduceLT, reduceCtorEq]
    refine Retn.ret (π := []) hp hnp ⟨rfl, ?_⟩
    simp (config := { maxSteps := 2000000 }) only [go_sem, ↓reduceIte, Int.reduceToNat, Nat.reduceMul, Int.reduceBEq, Int.reduceBNe, Nat.reduceBEq, Nat.reduceAdd, Nat.reduceSub, Nat.reduceLeDiff, Nat.reduceEqDiff, Nat.reduceLT, reduceCtorEq]
    rw [← ht]
    rfl
  · have hmc : m = m0 ++ [d] := by rw [hmc, List.concat_eq_append]
    subst hmc
    rw [List.length_append, List.length_cons, List.length_nil] at hk hm
    have e0 : decide (((m0 ++ [d]).length : Int) > 0) = true := decide_eq_true (by rw [List.length_append]; simp only [List.length_cons, List.length_nil]; omega)
    have e1 : IntKind.i64.wrap (((m0 ++ [d]).length : Int) - 1) = (m0.length : Int) := by rw [List.length_append, List.length_cons, List.length_nil, w64 (by omega) (by omega)]; omega
    have e2 : ((m0 ++ [d]).map uc).getD m0.length [] = uc d := by rw [List.map_append, List.getD_eq_getElem?_getD, List.getElem?_append_right (by simp), List.length_map, Nat.sub_self]; rfl
    have e3 : ((m0 ++ [d]).map uc).take m0.length = m0.map uc := by rw [List.map_append, List.take_left' (by rw [List.length_map])]
    have htr : trimL (m0 ++ [d]) = if d = 0 then trimL m0 else m0 ++ [d] := by
      unfold trimL
      rw [List.reverse_append, List.reverse_singleton, List.singleton_append, List.dropWhile_cons]
      by_cases h : d = 0
      · rw [if_pos (by simpa using h), if_pos h]
      · rw [if_neg (by simpa using h), if_neg h, List.reverse_cons, List.reverse_reverse]
    have hln : (m0 ++ [d]).length = m0.length + 1 := by rw [List.length_append]; rfl
    refine AWp.ofD [] [] hn mixed rfl ?_
    simp (config := { maxSteps := 2000000 }) only [go_sem, ↓reduceIte, Int.reduceToNat, Nat.reduceMul, Int.reduceBEq, Int.reduceBNe, Nat.reduceBEq, Nat.reduceAdd, Nat.reduceSub, Nat.reduceLeDiff, Nat.reduceEqDiff, Nat.reduceLT, reduceCtorEq, e0, e1, e2, e3]
    refine ⟨by omega, fun h => ⟨by omega, k - 1, by omega, m0, by omega, by omega, ?_, weak_to [] hp hnp rfl (by simp (config := { maxSteps := 2000000 }) only [go_sem, ↓reduceIte, Int.reduceToNat, Nat.reduceMul, Int.reduceBEq, Int.reduceBNe, Nat.reduceBEq, Nat.reduceAdd, Nat.reduceSub, Nat.reduceLeDiff, Nat.reduceEqDiff, Nat.reduceLT, reduceCtorEq]) rfl⟩, fun h => ?_⟩
    · rw [← ht, htr, if_pos (by rw [beq_iff_eq] at h; omega)]
    · refine Retn.ret (π := []) hp hnp ⟨rfl, ?_⟩
      simp (config := { maxSteps := 2000000 }) only [go_sem, ↓reduceIte, Int.reduceToNat, Nat.reduceMul, Int.reduceBEq, Int.reduceBNe, Nat.reduceBEq, Nat.reduceAdd, Nat.reduceSub, Nat.reduceLeDiff, Nat.reduceEqDiff, Nat.reduceLT, reduceCtorEq]
      rw [← ht, htr, if_neg (by rw [beq_eq_false_iff_ne] at h; omega)]
theorem val_get {l : List Nat} (hl : Dig l) {i : Nat} (hi : i < l.length) : l.getD i 0 < bs := by
  rw [List.getD_eq_getElem?_getD, List.getElem?_eq_getElem hi]
  exact hl _ (List.getElem_mem hi)
theorem val_take {l : List Nat} {i : Nat} (hi : i < l.length) : val (l.take (i + 1)) = val (l.take i) + bs ^ i * l.getD i 0 := by
  rw [take_get hi, val_append, List.length_take, Nat.min_eq_left (Nat.le_of_lt hi), List.getD_eq_getElem?_getD, List.getElem?_eq_getElem hi]
  simp [val]
theorem val_split (l : List Nat) (j : Nat) (hj : j ≤ l.length) : val l = val (l.take j) + bs ^ j * val (l.drop j) := by
  have h := val_append (l.take j) (l.drop j)
  rw [List.take_append_drop, List.length_take, Nat.min_eq_left hj] at h
  exact h
theorem cmp_lt {l l' : List Nat} (hd : Dig l) (hlen : l.length = l'.length) {j : Nat} (hj : j < l.length) (he : l.drop (j + 1) = l'.drop (j + 1)) (h : l.getD j 0 < l'.getD j 0) : val l < val l' := by
  have hj' : j < l'.length := by omega
  have h1 := val_split l j (by omega)
  have h2 := val_split l' j (by omega)
  have h3 : val (l.take j) < bs ^ j := by
    have := val_lt (l := l.take j) (fun d h => hd d (List.mem_of_mem_take h))
    rwa [List.length_take, Nat.min_eq_left (by omega)] at this
  have g1 : val (l.drop j) = l.getD j 0 + bs * val (l.drop (j + 1)) := by
    rw [List.drop_eq_getElem_cons hj, val, List.getD_eq_getElem?_getD, List.getElem?_eq_getElem hj]; rfl
  have g2 : val (l'.drop j) = l'.getD j 0 + bs * val (l'.drop (j + 1)) := by
    rw [List.drop_eq_getElem_cons hj', val, List.getD_eq_getElem?_getD, List.getElem?_eq_getElem hj']; rfl
  rw [← he] at g2
  have h4 : val (l.drop j) + 1 ≤ val (l'.drop j) := by omega
  have h5 : bs ^ j * (val (l.drop j) + 1) ≤ bs ^ j * val (l'.drop j) := Nat.mul_le_mul_left _ h4
  rw [Nat.mul_add, Nat.mul_one] at h5
  omega
theorem len_lt {n m : Nat} (h : (digs n).length < (digs m).length) : n < m := by
  have h1 := val_lt (dig_digs n)
  rw [val_digs] at h1
  rcases Nat.lt_or_ge n m with h2 | h2
  · exact h2
  · exfalso
    have h3 : m < bs ^ (digs n).length := by omega
    have := digs_len_le h3
    omega
def cmpN (n m : Nat) : Int := if n < m then -1 else if n = m then 0 else 1
set_option maxRecDepth 20000 in
theorem s70L (l l' : List Nat) (hda : Dig l) (hdb : Dig l') (hlt1 : l.length < l'.length → val l < val l') (hlt2 : l'.length < l.length → val l' < val l) (hn0 : l.length ≤ 1000000) (hm0 : l'.length ≤ 1000000) : Aw.Spec Tryd.prog 70 [] [dv l, dv l'] (Gives (· = I (cmpN (val l) (val l')))) := by
  refine Aw.Spec.givesD k70 mixed rfl rfl rfl fun E hn hnp hp => ?_
  unfold a70
  have e9 : IntKind.i64.wrap ((l.length : Int) - 1) = (l.length : Int) - 1 := w64 (by omega) (by omega)
  simp (config := { maxSteps := 2000000 }) only [go_sem, ↓reduceIte, Int.reduceToNat, Nat.reduceMul, Int.reduceBEq, Int.reduceBNe, Nat.reduceBEq, Nat.reduceAdd, Nat.reduceSub, Nat.reduceLeDiff, Nat.reduceEqDiff, Nat.reduceLT, reduceCtorEq, e9]
  refine ⟨fun h => ⟨fun h2 => ?_, fun h2 => ?_⟩, fun h => ?_⟩
  · have := hlt1 (by have := of_decide_eq_true h2; omega)
    unfold cmpN; rw [if_pos this]
  · have h3 : l.length ≠ l'.length := by
      intro e; rw [e] at h; simp at h
    have := hlt2 (by have := of_decide_eq_false h2; omega)
    unfold cmpN; rw [if_neg (by omega), if_neg (by omega)]
  have hlen : l.length = l'.length := by have := bne_eq_false_iff_eq.1 h; omega
  refine AWp.loop (fun k s => k ≤ l.length ∧ l.drop k = l'.drop k ∧ Weak E s ⟨[(0, dv l), (1, dv l'), (4, I 0), (5, I ((k : Int) - 1))], []⟩) (n := l.length)
    ⟨Nat.le_refl _, by rw [List.drop_length, hlen, List.drop_length], weak_to [] hp hnp rfl (by simp (config := { maxSteps := 2000000 }) only [go_sem, ↓reduceIte, Int.reduceToNat, Nat.reduceMul, Int.reduceBEq, Int.reduceBNe, Nat.reduceBEq, Nat.reduceAdd, Nat.reduceSub, Nat.reduceLeDiff, Nat.reduceEqDiff, Nat.reduceLT, reduceCtorEq]) rfl⟩ ?_
  rintro k s ⟨hk, hdr, hw⟩
  refine AWp.weak hw (AWp.ofD [] [] hn mixed rfl ?_)
  cases k with
  | zero =>
    have e0 : decide (((0 : Int)) - 1 ≥ 0) = false := rfl
    simp (config := { maxSteps := 2000000 }) only [go_sem, ↓reduceIte, Int.reduceToNat, Nat.reduceMul, Int.reduceBEq, Int.reduceBNe, Nat.reduceBEq, Nat.reduceAdd, Nat.reduceSub, Nat.reduceLeDiff, Nat.reduceEqDiff, Nat.reduceLT, reduceCtorEq, e0]
    rw [List.drop_zero, List.drop_zero] at hdr
    rw [hdr]
    unfold cmpN
    rw [if_neg (Nat.lt_irrefl _), if_pos rfl]
  | succ j =>
    have e0 : decide ((((j + 1 : Nat) : Int)) - 1 ≥ 0) = true := decide_eq_true (by omega)
    have e1 : ((j + 1 : Nat) : Int) - 1 = (j : Int) := by omega
    have e2 := getD_mapD 0 uc (l := l) (i := j) (by omega)
    have e3 := getD_mapD 0 uc (l := l') (i := j) (by omega)
    have e4 : IntKind.i64.wrap ((j : Int) - 1) = (j : Int) - 1 := w64 (by omega) (by omega)
    have e5 : decide ((j : Int) ≥ 0) = true := decide_eq_true (by omega)
    rw [e1]
    simp (config := { maxSteps := 2000000 }) only [go_sem, ↓reduceIte, Int.reduceToNat, Nat.reduceMul, Int.reduceBEq, Int.reduceBNe, Nat.reduceBEq, Nat.reduceAdd, Nat.reduceSub, Nat.reduceLeDiff, Nat.reduceEqDiff, Nat.reduceLT, reduceCtorEq, e5, e2, e3, e4]
    refine ⟨by omega, by omega, fun h => ?_, fun h => ⟨by omega, by omega, fun h2 => ?_, fun h2 => ?_⟩⟩
    · have := cmp_lt hda hlen (by omega) hdr (Int.ofNat_lt.1 (of_decide_eq_true h))
      unfold cmpN; rw [if_pos this]
    · have := cmp_lt hdb hlen.symm (by omega) hdr.symm (Int.ofNat_lt.1 (of_decide_eq_true h2))
      unfold cmpN; rw [if_neg (by omega), if_neg (by omega)]
    · have g1 := of_decide_eq_false h
      have g2 := of_decide_eq_false h2
      have he : l.getD j 0 = l'.getD j 0 := by omega
      have hj1 : j < l.length := by omega
      have hj2 : j < l'.length := by omega
      refine ⟨j, by omega, by omega, ?_, weak_to [] hp hnp rfl (by simp (config := { maxSteps := 2000000 }) only [go_sem, ↓reduceIte, Int.reduceToNat, Nat.reduceMul, Int.reduceBEq, Int.reduceBNe, Nat.reduceBEq, Nat.reduceAdd, Nat.reduceSub, Nat.reduceLeDiff, Nat.reduceEqDiff, Nat.reduceLT, reduceCtorEq]) rfl⟩
      rw [List.getD_eq_getElem?_getD, List.getElem?_eq_getElem hj1, List.getD_eq_getElem?_getD, List.getElem?_eq_getElem hj2] at he
      rw [List.drop_eq_getElem_cons hj1, List.drop_eq_getElem_cons hj2, hdr]
      congr 1
theorem s70 (n m : Nat) (hn0 : (digs n).length ≤ 1000000) (hm0 : (digs m).length ≤ 1000000) : Aw.Spec Tryd.prog 70 [] [nv n, nv m] (Gives (· = I (cmpN n m))) := by
  have h := s70L (digs n) (digs m) (dig_digs n) (dig_digs m) (fun h => by rw [val_digs, val_digs]; exact len_lt h) (fun h => by rw [val_digs, val_digs]; exact len_lt h) hn0 hm0
  rwa [val_digs, val_digs] at h
end Go.Proofs.YtjaakbkneeojnaaDoor
