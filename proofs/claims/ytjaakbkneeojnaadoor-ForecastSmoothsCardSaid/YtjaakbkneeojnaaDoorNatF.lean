/- Numbers: minus, plus. -/
import Derived.Test.YtjaakbkneeojnaaDoorAwZl
import Derived.Test.YtjaakbkneeojnaaDoorNatE
import Derived.Test.YtjaakbkneeojnaaDoorBlaK
set_option linter.unusedVariables false
set_option linter.unusedSimpArgs false
namespace Go.Proofs.YtjaakbkneeojnaaDoor
open Go.Proofs.YtjaakbkneeojnaaDoor.Aw
attribute [local go_sem] Int.natCast_zero Int.natCast_one bne_self_eq_false beq_self_eq_true Bool.not_true Bool.not_false Option.isSome_none Option.isSome_some Aw.bkM_nil Option.getD_some Option.getD_none Nat.sub_zero Int.toNat_zero Aw.frzS Aw.frzT Aw.frzA Aw.frzL Aw.frzR Aw.frzO Aw.frzOL Aw.frzOT Aw.frzOR Aw.killS Aw.mapT Aw.mapR Aw.killM Aw.resAVs Aw.resAV Aw.quietOps Aw.wpP Aw.wpT Aw.wpS Aw.AOp.mild List.getElem?_cons_zero List.getElem?_cons_succ Bool.and_false Bool.and_self Bool.false_and Aw.opOb Aw.gdB Aw.Rnd Aw.subTm List.length_map Int.toNat_natCast and_self Aw.SeqC Aw.stops Aw.Ends Aw.looks Aw.renA Aw.renL Aw.renT Aw.renS Aw.wpO Aw.aop Aw.putTm Aw.St.ev Aw.St.put Aw.St.putO Aw.binAV Aw.intBin Aw.strBin Aw.pickAV Aw.optInt Aw.AV.strip Aw.AV.guard Aw.AV.cells Aw.gdOb Aw.AOp.opds Aw.AOp.still Aw.ptrCells Aw.St.reg Aw.fillAV Aw.fillOb Aw.elsOb Aw.splice Aw.firm Aw.cellish Aw.AV.shut Aw.shutAll Aw.Seq Aw.Blk Aw.retS_nil Aw.mapA Aw.mapL Aw.borA Aw.borOb Aw.allOb Aw.tupOf Aw.params Aw.Opd.of Array.toList Value.cells List.map_cons List.map_nil List.getD_cons_zero List.getD_cons_succ List.getD_nil List.length_cons List.length_nil List.take_succ_cons List.take_zero List.take_nil List.drop_zero List.drop_succ_cons List.drop_nil List.set_cons_zero List.set_cons_succ List.append_nil List.nil_append List.cons_append List.all_cons List.all_nil cond_false cond_true if_true if_false true_and and_true Bool.and_true Bool.true_and Option.map_some Option.map_none false_implies forall_const implies_true forall_eq imp_self Bool.cond_false_right Bool.cond_true_left beq_true beq_false Bool.not_eq_true' Bool.false_eq_true Nat.zero_add Nat.add_zero Aw.eqCells Aw.stopDraw Aw.skipS Aw.exactCap Aw.revealS Aw.srcEls Aw.srcSz
attribute [local go_sem ↓] Aw.look_nil Aw.look_ite Aw.wpL_nil Aw.wpL_op Aw.wpL_gd Aw.wpQ_nil Aw.wpQ_op Aw.wpQ_gd Aw.wpC_draw Aw.wpC_reg Aw.wpC_skip Aw.wpC_ret Aw.wpC_exit Aw.wpC_seq Aw.wpC_block Aw.wpC_loop Aw.wpC_cond Aw.stopAt_nil Aw.stopAt_cons Aw.wpD_skip Aw.wpD_ret Aw.wpD_exit Aw.wpD_region Aw.wpD_draw Aw.wpM_nil Aw.wpM_op Aw.wpM_gd Aw.wpD_seq Aw.wpD_block Aw.wpD_loop Aw.wpD_cond
/- (gridhall/nat.N).minus -/
def a83 : ACode :=
  (.seq (.region false [] [
     ⟨(some 8), none, (.mov (.v (.bool false)))⟩])
  (.seq (.region false [] [
     ⟨(some 9), none, (.mov (.v (.int .i64 0)))⟩])
  (.seq (.region false [] [
     ⟨(some 10), none, (.mov (.v (.int .u64 0)))⟩])
  (.seq (.seq (.region false [] [
     ⟨(some 11), none, (.mov (.v (.int .i64 0)))⟩])
  (.block 0 (.loop (.seq (.seq (.region false [] [
       ⟨(some 14), none, (.mov (.t 11))⟩,
       ⟨(some 15), none, (.mov (.t 1))⟩,
       ⟨(some 16), none, (.len (.t 15))⟩,
       ⟨(some 17), none, (.bin .leq 3 (.t 14) (.t 16))⟩])
    (.cond (.t 17)
      .skip
      (.exit 0)))
    (.seq (.block 1 (.seq (.region false [] [
        ⟨(some 20), none, (.mov (.t 10))⟩,
        ⟨(some 12), none, (.mov (.t 20))⟩])
     (.seq (.seq (.region false [] [
        ⟨(some 21), none, (.mov (.t 11))⟩,
        ⟨(some 22), none, (.mov (.t 1))⟩,
        ⟨(some 23), none, (.len (.t 22))⟩,
        ⟨(some 24), none, (.bin .lss 3 (.t 21) (.t 23))⟩])
     (.cond (.t 24)
       (.region false [] [
          ⟨(some 25), none, (.mov (.t 12))⟩,
          ⟨(some 26), none, (.mov (.t 3))⟩,
          ⟨(some 27), none, (.mov (.t 1))⟩,
          ⟨(some 28), none, (.mov (.t 11))⟩,
          ⟨(some 29), none, (.idx 1 (.t 27) (.t 28))⟩,
          ⟨(some 30), none, (.load 1 false (.t 29))⟩,
          ⟨(some 31), none, (.itoi .u64 (.t 30))⟩,
          ⟨(some 32), none, (.bin .mul 101 (.t 26) (.t 31))⟩,
          ⟨(some 33), none, (.bin .add 101 (.t 25) (.t 32))⟩,
          ⟨(some 12), none, (.mov (.t 33))⟩])
       .skip))
     (.seq (.region false [] [
        ⟨(some 34), none, (.mov (.t 12))⟩,
        ⟨(some 35), none, (.bin .quo 101 (.t 34) (.v (.int .u64 1000000000)))⟩,
        ⟨(some 10), none, (.mov (.t 35))⟩])
     (.seq (.region false [] [
        ⟨(some 36), none, (.mov (.t 0))⟩,
        ⟨(some 37), none, (.mov (.t 2))⟩,
        ⟨(some 38), none, (.mov (.t 11))⟩,
        ⟨(some 39), none, (.bin .add 3 (.t 37) (.t 38))⟩,
        ⟨(some 40), none, (.idx 1 (.t 36) (.t 39))⟩,
        ⟨(some 41), none, (.load 1 false (.t 40))⟩,
        ⟨(some 42), none, (.itoi .i64 (.t 41))⟩,
        ⟨(some 43), none, (.mov (.t 12))⟩,
        ⟨(some 44), none, (.bin .rem 101 (.t 43) (.v (.int .u64 1000000000)))⟩,
        ⟨(some 45), none, (.itoi .i64 (.t 44))⟩,
        ⟨(some 46), none, (.bin .sub 2 (.t 42) (.t 45))⟩,
        ⟨(some 47), none, (.mov (.t 9))⟩,
        ⟨(some 48), none, (.bin .sub 2 (.t 46) (.t 47))⟩,
        ⟨(some 13), none, (.mov (.t 48))⟩])
     (.seq (.region false [] [
        ⟨(some 9), none, (.mov (.v (.int .i64 0)))⟩])
     (.seq (.seq (.region false [] [
        ⟨(some 49), none, (.mov (.t 13))⟩,
        ⟨(some 50), none, (.bin .lss 2 (.t 49) (.v (.int .i64 0)))⟩])
     (.cond (.t 50)
       (.seq (.region false [] [
          ⟨(some 51), none, (.mov (.t 13))⟩,
          ⟨(some 52), none, (.bin .add 2 (.t 51) (.v (.int .i64 1000000000)))⟩,
          ⟨(some 13), none, (.mov (.t 52))⟩])
       (.region false [] [
          ⟨(some 9), none, (.mov (.v (.int .i64 1)))⟩]))
       .skip))
     (.region false [] [
        ⟨(some 53), none, (.mov (.t 0))⟩,
        ⟨(some 54), none, (.mov (.t 2))⟩,
        ⟨(some 55), none, (.mov (.t 11))⟩,
        ⟨(some 56), none, (.bin .add 3 (.t 54) (.t 55))⟩,
        ⟨(some 57), none, (.mov (.t 13))⟩,
        ⟨(some 58), none, (.itoi .u32 (.t 57))⟩,
        ⟨(some 59), none, (.idx 1 (.t 53) (.t 56))⟩,
        ⟨none, none, (.store 1 (.t 59) (.t 58))⟩]))))))))
    (.region false [] [
       ⟨(some 18), none, (.mov (.t 11))⟩,
       ⟨(some 19), none, (.bin .add 3 (.t 18) (.v (.int .i64 1)))⟩,
       ⟨(some 11), none, (.mov (.t 19))⟩]))))))
  (.seq (.region false [] [
     ⟨(some 60), none, (.mov (.t 9))⟩,
     ⟨(some 61), none, (.bin .gtr 2 (.t 60) (.v (.int .i64 0)))⟩,
     ⟨(some 8), none, (.mov (.t 61))⟩])
  .ret)))))
theorem k83 : FnIs Tryd.prog 83 62 [.t 8] a83 := ⟨_, _, Tryd.func83, rfl, by kernel_rfl, by kernel_rfl, rfl⟩
/- (gridhall/nat.N).plus -/
def a84 : ACode :=
  (.seq (.region false [] [
     ⟨(some 6), none, (.mov (.v (.int .u32 0)))⟩])
  (.seq (.region false [] [
     ⟨(some 7), none, (.mov (.v (.int .i64 0)))⟩])
  (.block 0 (.loop (.seq (.seq (.region false [] [
       ⟨(some 9), none, (.mov (.t 7))⟩,
       ⟨(some 10), none, (.mov (.t 1))⟩,
       ⟨(some 11), none, (.len (.t 10))⟩,
       ⟨(some 12), none, (.bin .leq 3 (.t 9) (.t 11))⟩])
    (.cond (.t 12)
      .skip
      (.exit 0)))
    (.seq (.block 1 (.seq (.region false [] [
        ⟨(some 15), none, (.mov (.t 0))⟩,
        ⟨(some 16), none, (.mov (.t 2))⟩,
        ⟨(some 17), none, (.mov (.t 7))⟩,
        ⟨(some 18), none, (.bin .add 3 (.t 16) (.t 17))⟩,
        ⟨(some 19), none, (.idx 1 (.t 15) (.t 18))⟩,
        ⟨(some 20), none, (.load 1 false (.t 19))⟩,
        ⟨(some 21), none, (.mov (.t 6))⟩,
        ⟨(some 22), none, (.bin .add 99 (.t 20) (.t 21))⟩,
        ⟨(some 8), none, (.mov (.t 22))⟩])
     (.seq (.seq (.region false [] [
        ⟨(some 23), none, (.mov (.t 7))⟩,
        ⟨(some 24), none, (.mov (.t 1))⟩,
        ⟨(some 25), none, (.len (.t 24))⟩,
        ⟨(some 26), none, (.bin .lss 3 (.t 23) (.t 25))⟩])
     (.cond (.t 26)
       (.region false [] [
          ⟨(some 27), none, (.mov (.t 8))⟩,
          ⟨(some 28), none, (.mov (.t 1))⟩,
          ⟨(some 29), none, (.mov (.t 7))⟩,
          ⟨(some 30), none, (.idx 1 (.t 28) (.t 29))⟩,
          ⟨(some 31), none, (.load 1 false (.t 30))⟩,
          ⟨(some 32), none, (.bin .add 99 (.t 27) (.t 31))⟩,
          ⟨(some 8), none, (.mov (.t 32))⟩])
       .skip))
     (.seq (.region false [] [
        ⟨(some 33), none, (.mov (.t 8))⟩,
        ⟨(some 34), none, (.bin .quo 99 (.t 33) (.v (.int .u32 1000000000)))⟩,
        ⟨(some 6), none, (.mov (.t 34))⟩])
     (.region false [] [
        ⟨(some 35), none, (.mov (.t 0))⟩,
        ⟨(some 36), none, (.mov (.t 2))⟩,
        ⟨(some 37), none, (.mov (.t 7))⟩,
        ⟨(some 38), none, (.bin .add 3 (.t 36) (.t 37))⟩,
        ⟨(some 39), none, (.mov (.t 8))⟩,
        ⟨(some 40), none, (.bin .rem 99 (.t 39) (.v (.int .u32 1000000000)))⟩,
        ⟨(some 41), none, (.idx 1 (.t 35) (.t 38))⟩,
        ⟨none, none, (.store 1 (.t 41) (.t 40))⟩])))))
    (.region false [] [
       ⟨(some 13), none, (.mov (.t 7))⟩,
       ⟨(some 14), none, (.bin .add 3 (.t 13) (.v (.int .i64 1)))⟩,
       ⟨(some 7), none, (.mov (.t 14))⟩])))))))
theorem k84 : FnIs Tryd.prog 84 42 [] a84 := ⟨_, _, Tryd.func84, rfl, by kernel_rfl, by kernel_rfl, rfl⟩

theorem minus_step {v v1 A B w b c b' d t y qx : Nat} (hs : v1 + B * y = v + B * d) (hi : v + w = A + B * (b + c)) (ht : t = c + qx) (hd : y + bs * b' = d + t % bs + b) : v1 + (w + B * qx) = A + B * bs * (b' + t / bs) := by
  have h1 := Nat.mod_add_div t bs
  have h2 : B * (y + bs * b') = B * (d + t % bs + b) := by rw [hd]
  have h3 : B * t = B * (c + qx) := by rw [ht]
  have h4 : B * (t % bs + bs * (t / bs)) = B * t := by rw [h1]
  simp only [Nat.mul_add, ← Nat.mul_assoc] at *
  omega
theorem plus_step {v v1 A B w c d y x : Nat} (hs : v1 + B * y = v + B * (d % bs)) (hi : v + B * c = A + w) (hd : d = y + c + x) : v1 + B * bs * (d / bs) = A + (w + B * x) := by
  have h1 := Nat.mod_add_div d bs
  have h3 : B * d = B * (y + c + x) := by rw [hd]
  have h4 : B * (d % bs + bs * (d / bs)) = B * d := by rw [h1]
  simp only [Nat.mul_add, ← Nat.mul_assoc] at *
  omega
set_option maxRecDepth 20000 in
set_option maxHeartbeats 2000000 in
theorem s83 (A V : List Nat) (k q N : Nat) (ex : Bool) (hN : N = A.length) (hdA : Dig A) (hdV : Dig V) (hA0 : A.length ≤ 2000010) (hk : k + V.length < A.length) (hq : q < bs) :
    SpecK Tryd.prog 83 [.arr 99 1 (A.map uc)] [.hnd 0 0 N N ex, dv V, I k, U8 q] (fun rg v => ∃ (A' : List Nat) (b : Nat), Dig A' ∧ A'.length = A.length ∧ b ≤ 1 ∧ val A' + bs ^ k * (q * val V) = val A + bs ^ (k + V.length + 1) * b ∧ A'.drop (k + V.length + 1) = A.drop (k + V.length + 1) ∧ rg = [.arr 99 1 (A'.map uc)] ∧ v = B (decide ((b : Int) > 0))) := by
  subst hN
  refine SpecK.regsW k83 rfl rfl fun E hn hnp hp => ?_
  unfold a83
  have hbs : bs = 1000000000 := rfl
  have hb1 : bs * bs = 1000000000000000000 := rfl
  refine AWp.ofD [] [] hn mixed rfl ?_
  simp (config := { maxSteps := 2000000 }) only [go_sem, ↓reduceIte, Int.reduceToNat, Nat.reduceMul, Int.reduceBEq, Int.reduceBNe, Nat.reduceBEq, Nat.reduceAdd, Nat.reduceSub, Nat.reduceLeDiff, Nat.reduceEqDiff, Nat.reduceLT, reduceCtorEq]
  refine AWp.loop (fun g s => ∃ (i b c : Nat) (A' : List Nat), i + g = V.length + 1 ∧ A'.length = A.length ∧ Dig A' ∧ b ≤ 1 ∧ c < bs ∧ (i = V.length + 1 → c = 0) ∧ val A' + bs ^ k * (q * val (V.take i)) = val A + bs ^ (k + i) * (b + c) ∧ A'.drop (k + V.length + 1) = A.drop (k + V.length + 1) ∧ Weak E s ⟨[(0, .hnd 0 0 A.length A.length ex), (1, dv V), (2, I k), (3, U8 q), (9, I b), (10, U8 c), (11, I i)], [.arr 99 1 (A'.map uc)]⟩) (n := V.length + 1)
    ⟨0, 0, 0, A, by omega, rfl, hdA, by omega, by omega, (by intro; rfl), by simp [val], rfl, weak_to [0] hp hnp rfl (by simp (config := { maxSteps := 2000000 }) only [go_sem, ↓reduceIte, Int.reduceToNat, Nat.reduceMul, Int.reduceBEq, Int.reduceBNe, Nat.reduceBEq, Nat.reduceAdd, Nat.reduceSub, Nat.reduceLeDiff, Nat.reduceEqDiff, Nat.reduceLT, reduceCtorEq, Aw.pos] <;> rfl) (by simp (config := { maxSteps := 2000000 }) only [go_sem, ↓reduceIte, Int.reduceToNat, Nat.reduceMul, Int.reduceBEq, Int.reduceBNe, Nat.reduceBEq, Nat.reduceAdd, Nat.reduceSub, Nat.reduceLeDiff, Nat.reduceEqDiff, Nat.reduceLT, reduceCtorEq, Aw.renR, Aw.pos] <;> rfl)⟩ ?_
  rintro g s ⟨i, b, c, A', hi, hA', hdA', hb, hc, hc0, hval, hdrop, hw⟩
  rcases Nat.lt_or_ge V.length i with hge | hle
  · have hiV : i = V.length + 1 := by omega
    subst hiV
    have hc00 := hc0 rfl
    subst hc00
    refine AWp.weak hw (AWp.ofD [] [] hn mixed rfl ?_)
    have e0 : decide (((V.length + 1 : Nat) : Int) ≤ (V.length : Int)) = false := decide_eq_false (by omega)
    simp (config := { maxSteps := 2000000 }) only [go_sem, ↓reduceIte, Int.reduceToNat, Nat.reduceMul, Int.reduceBEq, Int.reduceBNe, Nat.reduceBEq, Nat.reduceAdd, Nat.reduceSub, Nat.reduceLeDiff, Nat.reduceEqDiff, Nat.reduceLT, reduceCtorEq, e0]
    refine Retn.ret (π := [0]) hp hnp ⟨rfl, ?_⟩
    simp (config := { maxSteps := 2000000 }) only [go_sem, ↓reduceIte, Int.reduceToNat, Nat.reduceMul, Int.reduceBEq, Int.reduceBNe, Nat.reduceBEq, Nat.reduceAdd, Nat.reduceSub, Nat.reduceLeDiff, Nat.reduceEqDiff, Nat.reduceLT, reduceCtorEq, Aw.renR, Aw.pos]
    rw [List.take_of_length_le (by omega), Nat.add_zero] at hval
    exact ⟨A', b, hdA', hA', hb, hval, hdrop, rfl, rfl⟩
  · refine AWp.weak hw (AWp.ofD [] [24, 50] hn mixed rfl ?_)
    have e0 : decide ((i : Int) ≤ (V.length : Int)) = true := decide_eq_true (by omega)
    have hVi := dget hdV i
    have hAi := dget hdA' (k + i)
    have hmd := mul_dig hq hVi (show 0 < bs by omega) hc
    simp (config := { maxSteps := 2000000 }) only [go_sem, ↓reduceIte, Int.reduceToNat, Nat.reduceMul, Int.reduceBEq, Int.reduceBNe, Nat.reduceBEq, Nat.reduceAdd, Nat.reduceSub, Nat.reduceLeDiff, Nat.reduceEqDiff, Nat.reduceLT, reduceCtorEq, e0]
    generalize ht : c + q * V.getD i 0 = t
    have htl : t < bs * bs := by omega
    refine AWp.cut ⟨[(0, .hnd 0 0 A.length A.length ex), (1, dv V), (2, I k), (3, U8 q), (9, I b), (11, I i), (12, U8 t)], [.arr 99 1 (A'.map uc)]⟩ (AWp.ofD [] [] hn mixed rfl ?_) ?_
    · rcases Nat.lt_or_ge i V.length with hm | hm
      · have e3 : decide ((i : Int) < (V.length : Int)) = true := decide_eq_true (by omega)
        have e4 := getD_mapD 0 uc (l := V) (i := i) hm
        have f1 : IntKind.u64.wrap ((V.getD i 0 : Nat) : Int) = ((V.getD i 0 : Nat) : Int) := w64n (by omega)
        have f2 : IntKind.u64.wrap ((q : Int) * ((V.getD i 0 : Nat) : Int)) = ((q * V.getD i 0 : Nat) : Int) := by
          rw [← Int.natCast_mul]; exact w64n (by omega)
        have f3 : IntKind.u64.wrap ((c : Int) + ((q * V.getD i 0 : Nat) : Int)) = (t : Int) := by
          rw [← Int.natCast_add, ht]; exact w64n htl
        simp (config := { maxSteps := 2000000 }) only [go_sem, ↓reduceIte, Int.reduceToNat, Nat.reduceMul, Int.reduceBEq, Int.reduceBNe, Nat.reduceBEq, Nat.reduceAdd, Nat.reduceSub, Nat.reduceLeDiff, Nat.reduceEqDiff, Nat.reduceLT, reduceCtorEq, e3, e4, f1, f2, f3]
        (repeat (refine And.intro (by first | omega | (refine ⟨by omega, by omega⟩) | (refine ⟨by omega, by omega, by omega⟩) | (simp only [List.length_map, List.length_range, List.length_append, List.length_cons, List.length_nil, List.length_replicate, List.length_set]; omega) | (simp; omega) | (intro hgd; cases hgd) | (intro hgd; refine ⟨hgd, ?_⟩; first | omega | (refine ⟨by omega, by omega⟩) | (simp; omega))) ?_))
        exact weak_tm (by simp (config := { maxSteps := 2000000 }) only [go_sem, ↓reduceIte, Int.reduceToNat, Nat.reduceMul, Int.reduceBEq, Int.reduceBNe, Nat.reduceBEq, Nat.reduceAdd, Nat.reduceSub, Nat.reduceLeDiff, Nat.reduceEqDiff, Nat.reduceLT, reduceCtorEq])
      · have e3 : decide ((i : Int) < (V.length : Int)) = false := decide_eq_false (by omega)
        have e4 : V.getD i 0 = 0 := by rw [List.getD_eq_getElem?_getD, List.getElem?_eq_none hm]; rfl
        rw [e4, Nat.mul_zero, Nat.add_zero] at ht
        subst ht
        simp (config := { maxSteps := 2000000 }) only [go_sem, ↓reduceIte, Int.reduceToNat, Nat.reduceMul, Int.reduceBEq, Int.reduceBNe, Nat.reduceBEq, Nat.reduceAdd, Nat.reduceSub, Nat.reduceLeDiff, Nat.reduceEqDiff, Nat.reduceLT, reduceCtorEq, e3]
        exact weak_tm (by simp (config := { maxSteps := 2000000 }) only [go_sem, ↓reduceIte, Int.reduceToNat, Nat.reduceMul, Int.reduceBEq, Int.reduceBNe, Nat.reduceBEq, Nat.reduceAdd, Nat.reduceSub, Nat.reduceLeDiff, Nat.reduceEqDiff, Nat.reduceLT, reduceCtorEq])
    have hqd : t / bs < bs := (Nat.div_lt_iff_lt_mul (by decide)).2 htl
    have hrd : t % bs < bs := Nat.mod_lt _ (by decide)
    have f1 : IntKind.u64.wrap ((t : Int).tdiv 1000000000) = ((t / bs : Nat) : Int) := by
      rw [show (t : Int).tdiv 1000000000 = ((t / bs : Nat) : Int) from rfl]; exact w64n (by omega)
    have f2 : (t : Int).tmod 1000000000 = ((t % bs : Nat) : Int) := rfl
    have f3 : IntKind.i64.wrap ((t % bs : Nat) : Int) = ((t % bs : Nat) : Int) := w64 (by omega) (by omega)
    have f4 : IntKind.i64.wrap ((k : Int) + (i : Int)) = ((k + i : Nat) : Int) := by rw [w64 (by omega) (by omega)]; rfl
    have e5 := getD_mapD 0 uc (l := A') (i := k + i) (by omega)
    have f5 : IntKind.i64.wrap ((A'.getD (k + i) 0 : Nat) : Int) = ((A'.getD (k + i) 0 : Nat) : Int) := w64 (by omega) (by omega)
    have f6 : IntKind.i64.wrap (((A'.getD (k + i) 0 : Nat) : Int) - ((t % bs : Nat) : Int)) = ((A'.getD (k + i) 0 : Nat) : Int) - ((t % bs : Nat) : Int) := w64 (by omega) (by omega)
    have f7 : IntKind.i64.wrap (((A'.getD (k + i) 0 : Nat) : Int) - ((t % bs : Nat) : Int) - (b : Int)) = ((A'.getD (k + i) 0 : Nat) : Int) - ((t % bs : Nat) : Int) - (b : Int) := w64 (by omega) (by omega)
    obtain ⟨o, b', hb', hob, heq, hneg, hpos⟩ := sub_dig (a := A'.getD (k + i) 0) (b := t % bs) (c := b) hAi hrd hb
    rw [show ((A'.getD (k + i) 0 : Nat) : Int) - (b : Int) - ((t % bs : Nat) : Int) = ((A'.getD (k + i) 0 : Nat) : Int) - ((t % bs : Nat) : Int) - (b : Int) by omega] at hneg hpos
    simp (config := { maxSteps := 2000000 }) only [go_sem, ↓reduceIte, Int.reduceToNat, Nat.reduceMul, Int.reduceBEq, Int.reduceBNe, Nat.reduceBEq, Nat.reduceAdd, Nat.reduceSub, Nat.reduceLeDiff, Nat.reduceEqDiff, Nat.reduceLT, reduceCtorEq, f1, f2, f3, f4, e5, f5, f6, f7]
    (repeat (refine And.intro (by first | omega | (refine ⟨by omega, by omega⟩) | (refine ⟨by omega, by omega, by omega⟩) | (simp only [List.length_map, List.length_range, List.length_append, List.length_cons, List.length_nil, List.length_replicate, List.length_set]; omega) | (simp; omega) | (intro hgd; cases hgd) | (intro hgd; refine ⟨hgd, ?_⟩; first | omega | (refine ⟨by omega, by omega⟩) | (simp; omega))) ?_))
    generalize hd : ((A'.getD (k + i) 0 : Nat) : Int) - ((t % bs : Nat) : Int) - (b : Int) = d at *
    refine AWp.cut ⟨[(0, .hnd 0 0 A.length A.length ex), (1, dv V), (2, I k), (3, U8 q), (9, I b'), (10, U8 ((t / bs : Nat) : Int)), (11, I i), (13, I o)], [.arr 99 1 (A'.map uc)]⟩ (AWp.ofD [] [] hn mixed rfl ?_) ?_
    · simp (config := { maxSteps := 2000000 }) only [go_sem, ↓reduceIte, Int.reduceToNat, Nat.reduceMul, Int.reduceBEq, Int.reduceBNe, Nat.reduceBEq, Nat.reduceAdd, Nat.reduceSub, Nat.reduceLeDiff, Nat.reduceEqDiff, Nat.reduceLT, reduceCtorEq]
      refine ⟨fun h => ?_, fun h => ?_⟩
      · obtain ⟨rfl, h2⟩ := hneg (of_decide_eq_true h)
        rw [← h2]
        have e5 : IntKind.i64.wrap (o : Int) = (o : Int) := w64 (by omega) (by omega)
        rw [e5]
        exact weak_tm (by simp (config := { maxSteps := 2000000 }) only [go_sem, ↓reduceIte, Int.reduceToNat, Nat.reduceMul, Int.reduceBEq, Int.reduceBNe, Nat.reduceBEq, Nat.reduceAdd, Nat.reduceSub, Nat.reduceLeDiff, Nat.reduceEqDiff, Nat.reduceLT, reduceCtorEq] <;> rfl)
      · obtain ⟨rfl, h2⟩ := hpos (of_decide_eq_false h)
        rw [← h2]
        exact weak_tm (by simp (config := { maxSteps := 2000000 }) only [go_sem, ↓reduceIte, Int.reduceToNat, Nat.reduceMul, Int.reduceBEq, Int.reduceBNe, Nat.reduceBEq, Nat.reduceAdd, Nat.reduceSub, Nat.reduceLeDiff, Nat.reduceEqDiff, Nat.reduceLT, reduceCtorEq] <;> rfl)
    have e6 : IntKind.u32.wrap (o : Int) = (o : Int) := w32 (by omega) (by omega)
    have e8 : IntKind.i64.wrap ((i : Int) + 1) = ((i + 1 : Nat) : Int) := by rw [w64 (by omega) (by omega)]; rfl
    simp (config := { maxSteps := 2000000 }) only [go_sem, ↓reduceIte, Int.reduceToNat, Nat.reduceMul, Int.reduceBEq, Int.reduceBNe, Nat.reduceBEq, Nat.reduceAdd, Nat.reduceSub, Nat.reduceLeDiff, Nat.reduceEqDiff, Nat.reduceLT, reduceCtorEq, f4, e5, e6, e8, uset]
    (repeat (refine And.intro (by first | omega | (refine ⟨by omega, by omega⟩) | (refine ⟨by omega, by omega, by omega⟩) | (simp only [List.length_map, List.length_range, List.length_append, List.length_cons, List.length_nil, List.length_replicate, List.length_set]; omega) | (simp; omega) | (intro hgd; cases hgd) | (intro hgd; refine ⟨hgd, ?_⟩; first | omega | (refine ⟨by omega, by omega⟩) | (simp; omega))) ?_))
    refine ⟨g - 1, by omega, i + 1, b', t / bs, A'.set (k + i) o, by omega, by rw [List.length_set, hA'], hdA'.set _ _ hob, hb', hqd, fun h => ?_, ?_, ?_, weak_to [0] hp hnp rfl (by simp (config := { maxSteps := 2000000 }) only [go_sem, ↓reduceIte, Int.reduceToNat, Nat.reduceMul, Int.reduceBEq, Int.reduceBNe, Nat.reduceBEq, Nat.reduceAdd, Nat.reduceSub, Nat.reduceLeDiff, Nat.reduceEqDiff, Nat.reduceLT, reduceCtorEq, Aw.pos]) (by simp (config := { maxSteps := 2000000 }) only [go_sem, ↓reduceIte, Int.reduceToNat, Nat.reduceMul, Int.reduceBEq, Int.reduceBNe, Nat.reduceBEq, Nat.reduceAdd, Nat.reduceSub, Nat.reduceLeDiff, Nat.reduceEqDiff, Nat.reduceLT, reduceCtorEq, Aw.renR, Aw.pos] <;> rfl)⟩
    · have hi2 : i = V.length := by omega
      have e4 : V.getD i 0 = 0 := by rw [List.getD_eq_getElem?_getD, List.getElem?_eq_none (by omega)]; rfl
      rw [e4, Nat.mul_zero, Nat.add_zero] at ht
      exact Nat.div_eq_of_lt (by omega)
    · have h1 := val_set (l := A') (j := k + i) o (by omega)
      have h2 := minus_step h1 hval ht.symm heq
      rw [show k + (i + 1) = k + i + 1 by omega, Nat.pow_succ, ← h2, val_take1, Nat.mul_add, Nat.mul_add, Nat.pow_add]
      congr 2
      rw [Nat.mul_left_comm q, ← Nat.mul_assoc (bs ^ k)]
    · rw [List.drop_set_of_lt (by omega), hdrop]
set_option maxRecDepth 20000 in
set_option maxHeartbeats 2000000 in
theorem s84 (A V : List Nat) (k N : Nat) (ex : Bool) (hN : N = A.length) (hdA : Dig A) (hdV : Dig V) (hA0 : A.length ≤ 2000010) (hk : k + V.length < A.length) :
    SpecK Tryd.prog 84 [.arr 99 1 (A.map uc)] [.hnd 0 0 N N ex, dv V, I k] (fun rg v => ∃ (A' : List Nat) (c : Nat), Dig A' ∧ A'.length = A.length ∧ c ≤ 1 ∧ val A' + bs ^ (k + V.length + 1) * c = val A + bs ^ k * val V ∧ A'.drop (k + V.length + 1) = A.drop (k + V.length + 1) ∧ rg = [.arr 99 1 (A'.map uc)] ∧ v = .tup []) := by
  subst hN
  refine SpecK.regsW k84 rfl rfl fun E hn hnp hp => ?_
  unfold a84
  have hbs : bs = 1000000000 := rfl
  refine AWp.ofD [] [] hn mixed rfl ?_
  simp (config := { maxSteps := 2000000 }) only [go_sem, ↓reduceIte, Int.reduceToNat, Nat.reduceMul, Int.reduceBEq, Int.reduceBNe, Nat.reduceBEq, Nat.reduceAdd, Nat.reduceSub, Nat.reduceLeDiff, Nat.reduceEqDiff, Nat.reduceLT, reduceCtorEq]
  refine AWp.loop (fun g s => ∃ (i c : Nat) (A' : List Nat), i + g = V.length + 1 ∧ A'.length = A.length ∧ Dig A' ∧ c ≤ 1 ∧ val A' + bs ^ (k + i) * c = val A + bs ^ k * val (V.take i) ∧ A'.drop (k + V.length + 1) = A.drop (k + V.length + 1) ∧ Weak E s ⟨[(0, .hnd 0 0 A.length A.length ex), (1, dv V), (2, I k), (6, U c), (7, I i)], [.arr 99 1 (A'.map uc)]⟩) (n := V.length + 1)
    ⟨0, 0, A, by omega, rfl, hdA, by omega, by simp [val], rfl, weak_to [0] hp hnp rfl (by simp (config := { maxSteps := 2000000 }) only [go_sem, ↓reduceIte, Int.reduceToNat, Nat.reduceMul, Int.reduceBEq, Int.reduceBNe, Nat.reduceBEq, Nat.reduceAdd, Nat.reduceSub, Nat.reduceLeDiff, Nat.reduceEqDiff, Nat.reduceLT, reduceCtorEq, Aw.pos] <;> rfl) (by simp (config := { maxSteps := 2000000 }) only [go_sem, ↓reduceIte, Int.reduceToNat, Nat.reduceMul, Int.reduceBEq, Int.reduceBNe, Nat.reduceBEq, Nat.reduceAdd, Nat.reduceSub, Nat.reduceLeDiff, Nat.reduceEqDiff, Nat.reduceLT, reduceCtorEq, Aw.renR, Aw.pos] <;> rfl)⟩ ?_
  rintro g s ⟨i, c, A', hi, hA', hdA', hc, hval, hdrop, hw⟩
  rcases Nat.lt_or_ge V.length i with hge | hle
  · have hiV : i = V.length + 1 := by omega
    subst hiV
    refine AWp.weak hw (AWp.ofD [] [] hn mixed rfl ?_)
    have e0 : decide (((V.length + 1 : Nat) : Int) ≤ (V.length : Int)) = false := decide_eq_false (by omega)
    simp (config := { maxSteps := 2000000 }) only [go_sem, ↓reduceIte, Int.reduceToNat, Nat.reduceMul, Int.reduceBEq, Int.reduceBNe, Nat.reduceBEq, Nat.reduceAdd, Nat.reduceSub, Nat.reduceLeDiff, Nat.reduceEqDiff, Nat.reduceLT, reduceCtorEq, e0]
    refine Retn.normal (π := [0]) hp hnp ⟨rfl, ?_⟩
    simp (config := { maxSteps := 2000000 }) only [go_sem, ↓reduceIte, Int.reduceToNat, Nat.reduceMul, Int.reduceBEq, Int.reduceBNe, Nat.reduceBEq, Nat.reduceAdd, Nat.reduceSub, Nat.reduceLeDiff, Nat.reduceEqDiff, Nat.reduceLT, reduceCtorEq, Aw.renR, Aw.pos]
    rw [List.take_of_length_le (by omega)] at hval
    exact ⟨A', c, hdA', hA', hc, hval, hdrop, rfl⟩
  · refine AWp.weak hw (AWp.ofD [] [26] hn mixed rfl ?_)
    have e0 : decide ((i : Int) ≤ (V.length : Int)) = true := decide_eq_true (by omega)
    have hVi := dget hdV i
    have hAi := dget hdA' (k + i)
    have f4 : IntKind.i64.wrap ((k : Int) + (i : Int)) = ((k + i : Nat) : Int) := by rw [w64 (by omega) (by omega)]; rfl
    have e5 := getD_mapD 0 uc (l := A') (i := k + i) (by omega)
    have f5 : IntKind.u32.wrap (((A'.getD (k + i) 0 : Nat) : Int) + (c : Int)) = ((A'.getD (k + i) 0 + c : Nat) : Int) := by rw [w32 (by omega) (by omega)]; rfl
    simp (config := { maxSteps := 2000000 }) only [go_sem, ↓reduceIte, Int.reduceToNat, Nat.reduceMul, Int.reduceBEq, Int.reduceBNe, Nat.reduceBEq, Nat.reduceAdd, Nat.reduceSub, Nat.reduceLeDiff, Nat.reduceEqDiff, Nat.reduceLT, reduceCtorEq, e0, f4, e5, f5]
    (repeat (refine And.intro (by first | omega | (refine ⟨by omega, by omega⟩) | (refine ⟨by omega, by omega, by omega⟩) | (simp only [List.length_map, List.length_range, List.length_append, List.length_cons, List.length_nil, List.length_replicate, List.length_set]; omega) | (simp; omega) | (intro hgd; cases hgd) | (intro hgd; refine ⟨hgd, ?_⟩; first | omega | (refine ⟨by omega, by omega⟩) | (simp; omega))) ?_))
    generalize hd : A'.getD (k + i) 0 + c + V.getD i 0 = d
    refine AWp.cut ⟨[(0, .hnd 0 0 A.length A.length ex), (1, dv V), (2, I k), (7, I i), (8, U d)], [.arr 99 1 (A'.map uc)]⟩ (AWp.ofD [] [] hn mixed rfl ?_) ?_
    · rcases Nat.lt_or_ge i V.length with hm | hm
      · have e3 : decide ((i : Int) < (V.length : Int)) = true := decide_eq_true (by omega)
        have e4 := getD_mapD 0 uc (l := V) (i := i) hm
        have f3 : IntKind.u32.wrap (((A'.getD (k + i) 0 + c : Nat) : Int) + ((V.getD i 0 : Nat) : Int)) = (d : Int) := by
          rw [← Int.natCast_add, hd]; exact w32 (by omega) (by omega)
        simp (config := { maxSteps := 2000000 }) only [go_sem, ↓reduceIte, Int.reduceToNat, Nat.reduceMul, Int.reduceBEq, Int.reduceBNe, Nat.reduceBEq, Nat.reduceAdd, Nat.reduceSub, Nat.reduceLeDiff, Nat.reduceEqDiff, Nat.reduceLT, reduceCtorEq, e3, e4, f3]
        (repeat (refine And.intro (by first | omega | (refine ⟨by omega, by omega⟩) | (refine ⟨by omega, by omega, by omega⟩) | (simp only [List.length_map, List.length_range, List.length_append, List.length_cons, List.length_nil, List.length_replicate, List.length_set]; omega) | (simp; omega) | (intro hgd; cases hgd) | (intro hgd; refine ⟨hgd, ?_⟩; first | omega | (refine ⟨by omega, by omega⟩) | (simp; omega))) ?_))
        exact weak_tm (by simp (config := { maxSteps := 2000000 }) only [go_sem, ↓reduceIte, Int.reduceToNat, Nat.reduceMul, Int.reduceBEq, Int.reduceBNe, Nat.reduceBEq, Nat.reduceAdd, Nat.reduceSub, Nat.reduceLeDiff, Nat.reduceEqDiff, Nat.reduceLT, reduceCtorEq])
      · have e3 : decide ((i : Int) < (V.length : Int)) = false := decide_eq_false (by omega)
        have e4 : V.getD i 0 = 0 := by rw [List.getD_eq_getElem?_getD, List.getElem?_eq_none hm]; rfl
        rw [e4, Nat.add_zero] at hd
        rw [hd]
        simp (config := { maxSteps := 2000000 }) only [go_sem, ↓reduceIte, Int.reduceToNat, Nat.reduceMul, Int.reduceBEq, Int.reduceBNe, Nat.reduceBEq, Nat.reduceAdd, Nat.reduceSub, Nat.reduceLeDiff, Nat.reduceEqDiff, Nat.reduceLT, reduceCtorEq, e3]
        exact weak_tm (by simp (config := { maxSteps := 2000000 }) only [go_sem, ↓reduceIte, Int.reduceToNat, Nat.reduceMul, Int.reduceBEq, Int.reduceBNe, Nat.reduceBEq, Nat.reduceAdd, Nat.reduceSub, Nat.reduceLeDiff, Nat.reduceEqDiff, Nat.reduceLT, reduceCtorEq])
    have hdl : d < 2 * bs := by omega
    have hq2 : d / bs < 2 := (Nat.div_lt_iff_lt_mul (by decide)).2 (by omega)
    have e6 : IntKind.u32.wrap ((d : Int).tdiv 1000000000) = ((d / bs : Nat) : Int) := by
      rw [show (d : Int).tdiv 1000000000 = ((d / bs : Nat) : Int) from rfl]
      exact w32 (Int.natCast_nonneg _) (by omega)
    have e7 : (d : Int).tmod 1000000000 = ((d % bs : Nat) : Int) := rfl
    have hrd : d % bs < bs := Nat.mod_lt _ (by decide)
    have e8 : IntKind.i64.wrap ((i : Int) + 1) = ((i + 1 : Nat) : Int) := by rw [w64 (by omega) (by omega)]; rfl
    simp (config := { maxSteps := 2000000 }) only [go_sem, ↓reduceIte, Int.reduceToNat, Nat.reduceMul, Int.reduceBEq, Int.reduceBNe, Nat.reduceBEq, Nat.reduceAdd, Nat.reduceSub, Nat.reduceLeDiff, Nat.reduceEqDiff, Nat.reduceLT, reduceCtorEq, f4, e5, e6, e7, e8, uset]
    (repeat (refine And.intro (by first | omega | (refine ⟨by omega, by omega⟩) | (refine ⟨by omega, by omega, by omega⟩) | (simp only [List.length_map, List.length_range, List.length_append, List.length_cons, List.length_nil, List.length_replicate, List.length_set]; omega) | (simp; omega) | (intro hgd; cases hgd) | (intro hgd; refine ⟨hgd, ?_⟩; first | omega | (refine ⟨by omega, by omega⟩) | (simp; omega))) ?_))
    refine ⟨g - 1, by omega, i + 1, d / bs, A'.set (k + i) (d % bs), by omega, by rw [List.length_set, hA'], hdA'.set _ _ hrd, by omega, ?_, ?_, weak_to [0] hp hnp rfl (by simp (config := { maxSteps := 2000000 }) only [go_sem, ↓reduceIte, Int.reduceToNat, Nat.reduceMul, Int.reduceBEq, Int.reduceBNe, Nat.reduceBEq, Nat.reduceAdd, Nat.reduceSub, Nat.reduceLeDiff, Nat.reduceEqDiff, Nat.reduceLT, reduceCtorEq, Aw.pos]) (by simp (config := { maxSteps := 2000000 }) only [go_sem, ↓reduceIte, Int.reduceToNat, Nat.reduceMul, Int.reduceBEq, Int.reduceBNe, Nat.reduceBEq, Nat.reduceAdd, Nat.reduceSub, Nat.reduceLeDiff, Nat.reduceEqDiff, Nat.reduceLT, reduceCtorEq, Aw.renR, Aw.pos] <;> rfl)⟩
    · have h1 := val_set (l := A') (j := k + i) (d % bs) (by omega)
      have h2 := plus_step h1 hval hd.symm
      rw [show k + (i + 1) = k + i + 1 by omega, Nat.pow_succ, h2, val_take1, Nat.mul_add, Nat.pow_add, Nat.mul_assoc]
    · rw [List.drop_set_of_lt (by omega), hdrop]
end Go.Proofs.YtjaakbkneeojnaaDoor
