/- Forecasts: a number added to all values. -/
import Derived.Test.YtjaakbkneeojnaaDoorAwZl
import Derived.Test.YtjaakbkneeojnaaDoorFcaC
set_option linter.unusedVariables false
set_option linter.unusedSimpArgs false
namespace Go.Proofs.YtjaakbkneeojnaaDoor
open Go.Proofs.YtjaakbkneeojnaaDoor.Aw
attribute [local go_sem] Int.natCast_zero Int.natCast_one bne_self_eq_false beq_self_eq_true Bool.not_true Bool.not_false Option.isSome_none Option.isSome_some Aw.bkM_nil Option.getD_some Option.getD_none Nat.sub_zero Int.toNat_zero Aw.frzS Aw.frzT Aw.frzA Aw.frzL Aw.frzR Aw.frzO Aw.frzOL Aw.frzOT Aw.frzOR Aw.killS Aw.mapT Aw.mapR Aw.killM Aw.resAVs Aw.resAV Aw.quietOps Aw.wpP Aw.wpT Aw.wpS Aw.AOp.mild List.getElem?_cons_zero List.getElem?_cons_succ Bool.and_false Bool.and_self Bool.false_and Aw.opOb Aw.gdB Aw.Rnd Aw.subTm List.length_map Int.toNat_natCast and_self Aw.SeqC Aw.stops Aw.Ends Aw.looks Aw.renA Aw.renL Aw.renT Aw.renS Aw.wpO Aw.aop Aw.putTm Aw.St.ev Aw.St.put Aw.St.putO Aw.binAV Aw.intBin Aw.strBin Aw.pickAV Aw.optInt Aw.AV.strip Aw.AV.guard Aw.AV.cells Aw.gdOb Aw.AOp.opds Aw.AOp.still Aw.ptrCells Aw.St.reg Aw.fillAV Aw.fillOb Aw.elsOb Aw.splice Aw.firm Aw.cellish Aw.AV.shut Aw.shutAll Aw.Seq Aw.Blk Aw.retS_nil Aw.mapA Aw.mapL Aw.borA Aw.borOb Aw.allOb Aw.tupOf Aw.params Aw.Opd.of Array.toList Value.cells List.map_cons List.map_nil List.getD_cons_zero List.getD_cons_succ List.getD_nil List.length_cons List.length_nil List.take_succ_cons List.take_zero List.take_nil List.drop_zero List.drop_succ_cons List.drop_nil List.set_cons_zero List.set_cons_succ List.append_nil List.nil_append List.cons_append List.all_cons List.all_nil cond_false cond_true if_true if_false true_and and_true Bool.and_true Bool.true_and Option.map_some Option.map_none false_implies forall_const implies_true forall_eq imp_self Bool.cond_false_right Bool.cond_true_left beq_true beq_false Bool.not_eq_true' Bool.false_eq_true Nat.zero_add Nat.add_zero Aw.eqCells Aw.stopDraw Aw.skipS Aw.exactCap Aw.revealS Aw.srcEls Aw.srcSz
attribute [local go_sem ↓] Aw.look_nil Aw.look_ite Aw.wpL_nil Aw.wpL_op Aw.wpL_gd Aw.wpQ_nil Aw.wpQ_op Aw.wpQ_gd Aw.wpC_draw Aw.wpC_reg Aw.wpC_skip Aw.wpC_ret Aw.wpC_exit Aw.wpC_seq Aw.wpC_block Aw.wpC_loop Aw.wpC_cond Aw.stopAt_nil Aw.stopAt_cons Aw.wpD_skip Aw.wpD_ret Aw.wpD_exit Aw.wpD_region Aw.wpD_draw Aw.wpM_nil Aw.wpM_op Aw.wpM_gd Aw.wpD_seq Aw.wpD_block Aw.wpD_loop Aw.wpD_cond

/- slices.Clone[[]int,int] -/
def a30 : ACode :=
  (.seq (.region false [] [
     ⟨(some 2), none, (.mov (.v (.slice none 0 0)))⟩])
  (.seq (.seq (.region false [] [
     ⟨(some 3), none, (.mov (.t 0))⟩,
     ⟨(some 4), none, (.nilS false (.t 3))⟩])
  (.cond (.t 4)
    (.seq (.region false [] [
       ⟨(some 2), none, (.mov (.v (.slice none 0 0)))⟩])
    .ret)
    .skip))
  (.seq (.region false [] [
     ⟨(some 5), none, (.bsl 3 1 0 [])⟩,
     ⟨(some 6), none, (.mov (.t 0))⟩,
     ⟨(some 7), none, (.app 3 1 8 (.int .i64 0) (.t 5) (.t 6))⟩,
     ⟨(some 2), none, (.mov (.t 7))⟩])
  .ret)))
theorem k30 : FnIs Tryd.prog 30 8 [.t 2] a30 := ⟨_, _, Tryd.func30, rfl, by kernel_rfl, by kernel_rfl, rfl⟩
/- gridhall/gridhallkeep4.ForecastShifts -/
def a9 : ACode :=
  (.seq (.region false [] [
     ⟨(some 6), none, (.mov (.v (.bool false)))⟩])
  (.seq (.region false [] [
     ⟨(some 24), none, (.mov (.t 0))⟩,
     ⟨(some 25), none, (.mov (.t 0))⟩,
     ⟨(some 26), none, (.len (.t 25))⟩,
     ⟨(some 27), none, (.mni (.t 26) (.v (.int .i64 12)))⟩,
     ⟨(some 28), none, (.slc 1 (.t 24) none (some (.t 27)) none)⟩,
     ⟨(some 29), none, (.call 30 [(.t 28)])⟩,
     ⟨(some 0), none, (.mov (.t 29))⟩])
  (.seq (.region false [] [
     ⟨(some 30), none, (.mov (.t 1))⟩,
     ⟨(some 31), none, (.call 26 [(.t 30), (.v (.int .i64 (-500))), (.v (.int .i64 500))])⟩,
     ⟨(some 32), none, (.mov (.t 2))⟩,
     ⟨(some 33), none, (.call 26 [(.t 32), (.v (.int .i64 1)), (.v (.int .i64 12))])⟩,
     ⟨(some 1), none, (.mov (.t 31))⟩,
     ⟨(some 2), none, (.mov (.t 33))⟩])
  (.seq (.region false [] [
     ⟨(some 7), none, (.mov (.v (.slice none 0 0)))⟩])
  (.seq (.seq (.region false [] [
     ⟨(some 34), none, (.mov (.t 0))⟩,
     ⟨(some 35), none, (.len (.t 34))⟩,
     ⟨(some 36), none, (.mov (.v (.int .i64 0)))⟩])
  (.block 0 (.loop (.seq (.region false [] [
       ⟨(some 37), none, (.bin .lss 3 (.t 36) (.t 35))⟩])
    (.seq (.cond (.t 37)
      .skip
      (.exit 0))
    (.seq (.block 1 (.seq (.region false [] [
        ⟨(some 38), none, (.mov (.t 36))⟩,
        ⟨(some 39), none, (.idx 1 (.t 34) (.t 36))⟩,
        ⟨(some 40), none, (.load 1 false (.t 39))⟩,
        ⟨(some 8), none, (.mov (.t 38))⟩,
        ⟨(some 9), none, (.mov (.t 40))⟩])
     (.seq (.region false [] [
        ⟨(some 41), none, (.mov (.t 0))⟩,
        ⟨(some 42), none, (.mov (.t 8))⟩,
        ⟨(some 43), none, (.mov (.t 9))⟩,
        ⟨(some 44), none, (.call 26 [(.t 43), (.v (.int .i64 (-9000))), (.v (.int .i64 9000))])⟩,
        ⟨(some 45), none, (.idx 1 (.t 41) (.t 42))⟩,
        ⟨none, none, (.store 1 (.t 45) (.t 44))⟩])
     (.region false [] [
        ⟨(some 46), none, (.mov (.t 7))⟩,
        ⟨(some 47), none, (.mov (.t 0))⟩,
        ⟨(some 48), none, (.mov (.t 8))⟩,
        ⟨(some 49), none, (.idx 1 (.t 47) (.t 48))⟩,
        ⟨(some 50), none, (.load 1 false (.t 49))⟩,
        ⟨(some 51), none, (.mov (.t 1))⟩,
        ⟨(some 52), none, (.bin .add 3 (.t 50) (.t 51))⟩,
        ⟨(some 53), none, (.bsl 3 1 1 [(0, (.t 52))])⟩,
        ⟨(some 54), none, (.app 3 1 8 (.int .i64 0) (.t 46) (.t 53))⟩,
        ⟨(some 7), none, (.mov (.t 54))⟩]))))
    (.region false [] [
       ⟨(some 55), none, (.bin .add 3 (.t 36) (.v (.int .i64 1)))⟩,
       ⟨(some 36), none, (.mov (.t 55))⟩])))))))
  (.seq (.region false [] [
     ⟨(some 57), none, (.mov (.t 1))⟩,
     ⟨(some 58), none, (.call 20 [(.t 57), (.v (.int .i64 1))])⟩,
     ⟨(some 56), none, (.mov (.t 58))⟩,
     ⟨(some 59), none, (.ext 0 (.t 56))⟩,
     ⟨(some 60), none, (.ext 1 (.t 56))⟩,
     ⟨(some 10), none, (.mov (.t 59))⟩,
     ⟨(some 11), none, (.mov (.t 60))⟩])
  (.seq (.region false [] [
     ⟨(some 62), none, (.mov (.t 0))⟩,
     ⟨(some 63), none, (.mov (.t 2))⟩,
     ⟨(some 64), none, (.call 31 [(.t 62), (.t 63)])⟩,
     ⟨(some 61), none, (.mov (.t 64))⟩,
     ⟨(some 65), none, (.ext 0 (.t 61))⟩,
     ⟨(some 66), none, (.ext 1 (.t 61))⟩,
     ⟨(some 12), none, (.mov (.t 65))⟩,
     ⟨(some 13), none, (.mov (.t 66))⟩])
  (.seq (.region false [] [
     ⟨(some 68), none, (.mov (.t 7))⟩,
     ⟨(some 69), none, (.mov (.t 2))⟩,
     ⟨(some 70), none, (.call 31 [(.t 68), (.t 69)])⟩,
     ⟨(some 67), none, (.mov (.t 70))⟩,
     ⟨(some 71), none, (.ext 0 (.t 67))⟩,
     ⟨(some 72), none, (.ext 1 (.t 67))⟩,
     ⟨(some 14), none, (.mov (.t 71))⟩,
     ⟨(some 15), none, (.mov (.t 72))⟩])
  (.seq (.region false [] [
     ⟨(some 74), none, (.mov (.t 0))⟩,
     ⟨(some 75), none, (.mov (.t 2))⟩,
     ⟨(some 76), none, (.call 32 [(.t 74), (.t 75)])⟩,
     ⟨(some 73), none, (.mov (.t 76))⟩,
     ⟨(some 77), none, (.ext 0 (.t 73))⟩,
     ⟨(some 78), none, (.ext 1 (.t 73))⟩,
     ⟨(some 16), none, (.mov (.t 77))⟩,
     ⟨(some 17), none, (.mov (.t 78))⟩])
  (.seq (.region false [] [
     ⟨(some 80), none, (.mov (.t 7))⟩,
     ⟨(some 81), none, (.mov (.t 2))⟩,
     ⟨(some 82), none, (.call 32 [(.t 80), (.t 81)])⟩,
     ⟨(some 79), none, (.mov (.t 82))⟩,
     ⟨(some 83), none, (.ext 0 (.t 79))⟩,
     ⟨(some 84), none, (.ext 1 (.t 79))⟩,
     ⟨(some 18), none, (.mov (.t 83))⟩,
     ⟨(some 19), none, (.mov (.t 84))⟩])
  (.seq (.seq (.region false [] [
     ⟨(some 85), none, (.mov (.t 11))⟩,
     ⟨(some 86), none, (.bin .neq 25 (.t 85) (.v (.int .i64 0)))⟩,
     ⟨(some 87), none, (.mov (.t 86))⟩,
     ⟨(some 88), (some (87, false)), (.mov (.t 13))⟩,
     ⟨(some 89), (some (87, false)), (.mov (.t 15))⟩,
     ⟨(some 90), (some (87, false)), (.bin .neq 25 (.t 88) (.t 89))⟩,
     ⟨(some 91), none, (.pick (.t 87) (.v (.bool true)) (.t 90))⟩,
     ⟨(some 92), none, (.mov (.t 91))⟩,
     ⟨(some 93), (some (92, false)), (.mov (.t 17))⟩,
     ⟨(some 94), (some (92, false)), (.mov (.t 19))⟩,
     ⟨(some 95), (some (92, false)), (.bin .neq 25 (.t 93) (.t 94))⟩,
     ⟨(some 96), none, (.pick (.t 92) (.v (.bool true)) (.t 95))⟩])
  (.cond (.t 96)
    (.seq (.region false [] [
       ⟨(some 6), none, (.mov (.v (.bool false)))⟩])
    .ret)
    .skip))
  (.seq (.seq (.region false [] [
     ⟨(some 97), none, (.mov (.t 13))⟩,
     ⟨(some 98), none, (.bin .eql 25 (.t 97) (.v (.int .i64 0)))⟩])
  (.cond (.t 98)
    (.seq (.region false [] [
       ⟨(some 100), none, (.mov (.t 12))⟩,
       ⟨(some 101), none, (.mov (.t 10))⟩,
       ⟨(some 102), none, (.call 16 [(.t 100), (.t 101)])⟩,
       ⟨(some 99), none, (.mov (.t 102))⟩,
       ⟨(some 103), none, (.ext 0 (.t 99))⟩,
       ⟨(some 104), none, (.ext 1 (.t 99))⟩,
       ⟨(some 20), none, (.mov (.t 103))⟩,
       ⟨(some 21), none, (.mov (.t 104))⟩])
    (.seq (.region false [] [
       ⟨(some 105), none, (.mov (.t 21))⟩,
       ⟨(some 106), none, (.bin .neq 25 (.t 105) (.v (.int .i64 0)))⟩,
       ⟨(some 107), none, (.mov (.t 106))⟩,
       ⟨(some 108), (some (107, false)), (.mov (.t 20))⟩,
       ⟨(some 109), (some (107, false)), (.mov (.t 14))⟩,
       ⟨(some 110), (some (107, false)), (.bin .neq 22 (.t 108) (.t 109))⟩,
       ⟨(some 111), none, (.pick (.t 107) (.v (.bool true)) (.t 110))⟩])
    (.cond (.t 111)
      (.seq (.region false [] [
         ⟨(some 6), none, (.mov (.v (.bool false)))⟩])
      .ret)
      .skip)))
    .skip))
  (.seq (.seq (.region false [] [
     ⟨(some 112), none, (.mov (.t 17))⟩,
     ⟨(some 113), none, (.bin .eql 25 (.t 112) (.v (.int .i64 0)))⟩])
  (.cond (.t 113)
    (.seq (.region false [] [
       ⟨(some 115), none, (.mov (.t 16))⟩,
       ⟨(some 116), none, (.mov (.t 10))⟩,
       ⟨(some 117), none, (.call 16 [(.t 115), (.t 116)])⟩,
       ⟨(some 114), none, (.mov (.t 117))⟩,
       ⟨(some 118), none, (.ext 0 (.t 114))⟩,
       ⟨(some 119), none, (.ext 1 (.t 114))⟩,
       ⟨(some 22), none, (.mov (.t 118))⟩,
       ⟨(some 23), none, (.mov (.t 119))⟩])
    (.seq (.region false [] [
       ⟨(some 120), none, (.mov (.t 23))⟩,
       ⟨(some 121), none, (.bin .neq 25 (.t 120) (.v (.int .i64 0)))⟩,
       ⟨(some 122), none, (.mov (.t 121))⟩,
       ⟨(some 123), (some (122, false)), (.mov (.t 22))⟩,
       ⟨(some 124), (some (122, false)), (.mov (.t 18))⟩,
       ⟨(some 125), (some (122, false)), (.bin .neq 22 (.t 123) (.t 124))⟩,
       ⟨(some 126), none, (.pick (.t 122) (.v (.bool true)) (.t 125))⟩])
    (.cond (.t 126)
      (.seq (.region false [] [
         ⟨(some 6), none, (.mov (.v (.bool false)))⟩])
      .ret)
      .skip)))
    .skip))
  (.seq (.region false [] [
     ⟨(some 127), none, (.call 24 [])⟩,
     ⟨(some 6), none, (.mov (.t 127))⟩])
  .ret))))))))))))))
theorem k9 : FnIs Tryd.prog 9 128 [.t 6] a9 := ⟨_, _, Tryd.func9, rfl, by kernel_rfl, by kernel_rfl, rfl⟩

theorem o30 (nl full) (l : List (Int)) (hl : l.length ≤ 1000000) : Aw.Spec Tryd.prog 30 [] [.imm nl full 1 (l.map icn)] (fun rg x => rg = [.arr 3 1 (l.map icn)] ∧ x = .hnd 0 0 l.length l.length false) := by
  refine Aw.Spec.nil1 fun b _ hb => ?_
  refine Aw.Spec.regsD k30 mixed rfl rfl rfl fun E hn hnp hp => ?_
  unfold a30
  simp (config := { maxSteps := 2000000 }) only [go_sem, ↓reduceIte, Int.reduceToNat, Nat.reduceMul, Int.reduceBEq, Int.reduceBNe, Nat.reduceBEq, Nat.reduceAdd, Nat.reduceSub, Nat.reduceLeDiff, Nat.reduceEqDiff, Nat.reduceLT, reduceCtorEq]
  refine ⟨fun h => ?_, fun h => ?_⟩
  · have hl0 : l = [] := by simpa using hb h
    subst hl0
    refine Retn.weak (weak_nil 2 3 1 (by rfl)) _ (Retn.ret (π := [0]) hp hnp ⟨rfl, ?_⟩)
    simp (config := { maxSteps := 2000000 }) only [go_sem, ↓reduceIte, Int.reduceToNat, Nat.reduceMul, Int.reduceBEq, Int.reduceBNe, Nat.reduceBEq, Nat.reduceAdd, Nat.reduceSub, Nat.reduceLeDiff, Nat.reduceEqDiff, Nat.reduceLT, reduceCtorEq, Aw.resAVs, Aw.resAV, Aw.renR, Aw.pos]
    all_goals (try exact ⟨rfl, rfl⟩)
  · refine AWpL.app (r := 0) (els := []) rfl rfl rfl rfl (by rw [hn]; rfl) rfl (hp.none hnp (Nat.zero_le _)) trivial (fun el hm x hx => ?_) (by simp; omega) (by simp; omega) (AWpL.ofM hn rfl ?_)
    · obtain ⟨y, _, rfl⟩ := List.mem_map.1 hm
      simp only [List.mem_cons, List.not_mem_nil, or_false] at hx
      first | (subst hx; rfl) | (rcases hx with rfl | rfl; all_goals rfl) | (rcases hx with rfl | rfl | rfl; all_goals rfl) | (rcases hx with rfl | rfl | rfl | rfl; all_goals rfl) | (rcases hx with rfl | rfl | rfl | rfl | rfl; all_goals rfl) | (rcases hx with rfl | rfl | rfl | rfl | rfl | rfl; all_goals rfl)
    simp (config := { maxSteps := 2000000 }) only [go_sem, ↓reduceIte, Int.reduceToNat, Nat.reduceMul, Int.reduceBEq, Int.reduceBNe, Nat.reduceBEq, Nat.reduceAdd, Nat.reduceSub, Nat.reduceLeDiff, Nat.reduceEqDiff, Nat.reduceLT, reduceCtorEq, Aw.killS, Aw.mapT, Aw.mapR, Aw.killM]
    refine Retn.ret (π := [0]) hp hnp ⟨rfl, ?_⟩
    simp (config := { maxSteps := 2000000 }) only [go_sem, ↓reduceIte, Int.reduceToNat, Nat.reduceMul, Int.reduceBEq, Int.reduceBNe, Nat.reduceBEq, Nat.reduceAdd, Nat.reduceSub, Nat.reduceLeDiff, Nat.reduceEqDiff, Nat.reduceLT, reduceCtorEq, Aw.resAVs, Aw.resAV, Aw.renR, Aw.pos]
    all_goals (try exact ⟨rfl, rfl⟩)

def c9 (x : Int) : Int := cut x (-9000) 9000
theorem c9_in (x : Int) : -9000 ≤ c9 x ∧ c9 x ≤ 9000 := by
  have : c9 x = -9000 + x % 18001 := rfl
  omega
/-- Values, each larger by a number. -/
def shV (by' : Int) (l : List Int) : List Int := l.map fun x => x + by'
theorem shV_len (by' : Int) (l : List Int) : (shV by' l).length = l.length := List.length_map _
theorem tot_sh (by' : Int) (l : List Int) : tot (shV by' l) = tot l + l.length * by' := by
  induction l with
  | nil => simp [shV, tot]
  | cons x l ih =>
    show (x + by') + tot (shV by' l) = x + tot l + _
    rw [ih, List.length_cons]
    push_cast
    grind
theorem wt_sh (by' : Int) : ∀ (l : List Int) (n : Nat), l.length = n → n ≤ 48 → wt 0 (shV by' l) = wt 0 l + by' * tri n := fun l => by
  suffices h : ∀ i, i ≤ l.length → i ≤ 48 → wt 0 (shV by' (l.take i)) = wt 0 (l.take i) + by' * tri i by
    intro n hn h48
    have := h l.length (Nat.le_refl _) (by omega)
    rw [List.take_of_length_le (Nat.le_refl _)] at this
    rw [← hn]; exact this
  intro i
  induction i with
  | zero => intro _ _; rw [List.take_zero, show tri 0 = 0 from rfl]; simp [shV, wt]
  | succ i ih =>
    intro hi h48
    have e : shV by' (l.take (i + 1)) = shV by' (l.take i) ++ [l[i] + by'] := by unfold shV; rw [take_get (by omega), List.map_append]; rfl
    rw [e, wt_append, ih (by omega) (by omega), shV_len, take_len l (by omega), Nat.zero_add, wt, wt, wt_take (by omega), tri_succ (by omega)]
    grind
theorem num_sh (by' : Int) {l : List Int} (h48 : l.length ≤ 48) : numN (shV by' l) = numN l := by
  unfold numN
  rw [shV_len, tot_sh, wt_sh by' l l.length rfl h48]
  grind
theorem slope_sh (by' : Int) {l : List Int} (h48 : l.length ≤ 48) : slopeR (shV by' l) = slopeR l := by
  unfold slopeR
  rw [num_sh by' h48, shV_len]
theorem height_field (Y s x n b : Rat) (hn : n ≠ 0) : (Y + n * b - s * x) / n = (Y - s * x) / n + b := by grind
theorem at_sh (by' : Int) {l : List Int} (h2 : 2 ≤ l.length) (h48 : l.length ≤ 48) (k : Int) : atR (shV by' l) k = atR l k + (by' : Rat) := by
  have hn : ((l.length : Int) : Rat) ≠ 0 := cast_ne (by omega)
  unfold atR heightR
  rw [slope_sh by' h48, tot_sh, shV_len, Rat.intCast_add, Rat.intCast_mul, height_field _ _ _ _ _ hn]
  grind
theorem at_fits {l : List Int} (hv : valsOk l) (h48 : l.length ≤ 48) (h2 : 2 ≤ l.length) {k : Int} (h0 : -9223372036854775807 ≤ k) (h1 : k ≤ 9223372036854775807) : fitsR (atR l k) := by
  rw [← at_r]
  exact small_fits ((at_QB hv h48 h2 h0 h1).mono (by decide)) (at_can l k)
theorem valsOk_sh {by' : Int} {l : List Int} (hl : ∀ v ∈ l, -9000 ≤ v ∧ v ≤ 9000) (hb : -500 ≤ by' ∧ by' ≤ 500) : valsOk l ∧ valsOk (shV by' l) := by
  refine ⟨fun v hv => ?_, fun v hv => ?_⟩
  · have := hl v hv; omega
  · unfold shV at hv
    obtain ⟨x, hx, rfl⟩ := List.mem_map.1 hv
    have := hl x hx; omega
theorem mean_fits {l : List Int} (hv : valsOk l) (h48 : l.length ≤ 48) {k : Int} (hk : 1 ≤ k ∧ k ≤ l.length) : fitsR (meanR l k) := by
  have hb := tot_bound (hv.drop (l.length - k.toNat))
  rw [List.length_drop] at hb
  unfold meanR
  exact of_fits (by omega) (by omega) (by omega)
theorem mean_field (Y k b : Rat) (hk : k ≠ 0) : (Y + k * b) / k = Y / k + b := by grind
theorem mean_sh (by' : Int) {l : List Int} {k : Int} (hk : 1 ≤ k ∧ k ≤ l.length) : meanR (shV by' l) k = meanR l k + (by' : Rat) := by
  have hk0 : ((k : Int) : Rat) ≠ 0 := cast_ne (by omega)
  unfold meanR
  have e : (shV by' l).drop ((shV by' l).length - k.toNat) = shV by' (l.drop (l.length - k.toNat)) := by rw [shV_len]; unfold shV; rw [List.map_drop]
  have e2 : (((l.drop (l.length - k.toNat)).length : Nat) : Int) = k := by rw [List.length_drop]; omega
  rw [e, tot_sh, e2, Rat.intCast_add, Rat.intCast_mul, mean_field _ _ _ hk0]
theorem check_both {by' : Int} {l : List Int} (hl : ∀ v ∈ l, -9000 ≤ v ∧ v ≤ 9000) (hb : -500 ≤ by' ∧ by' ≤ 500) (h12 : l.length ≤ 12) : checkV l = 0 ∧ checkV (shV by' l) = 0 := by
  obtain ⟨h1, h2⟩ := valsOk_sh hl hb
  unfold checkV
  rw [shV_len, if_neg (by omega), if_pos h1, if_neg (by omega), if_pos h2]
  exact ⟨rfl, rfl⟩
theorem int_fits {n : Int} (h0 : -9223372036854775807 ≤ n) (h1 : n ≤ 9223372036854775807) : fitsR (n : Rat) := (of_int n h0 h1).2
theorem meanS_ok {l : List Int} (h : checkV l = 0) (k : Int) : meanS l k = if k < 1 ∨ k > l.length then ([], 1) else toldR (meanR l k) := by
  unfold meanS
  rw [if_neg (by simp [h])]
theorem aheadS_bad {l : List Int} {e : Int} (h : lineE l = e) (h0 : e ≠ 0) (k : Int) : aheadS l k = ([], e) := by
  unfold aheadS
  rw [h, if_pos h0]
theorem aheadS_ok {l : List Int} (h : lineE l = 0) (k : Int) : aheadS l k = if k < 0 ∨ k > 48 then ([], 1) else (txtR (atR l (l.length - 1 + k)), 0) := by
  unfold aheadS
  rw [if_neg (by simp [h])]
theorem mean_pair {by' : Int} {l : List Int} (hl : ∀ v ∈ l, -9000 ≤ v ∧ v ≤ 9000) (hb : -500 ≤ by' ∧ by' ≤ 500) (h12 : l.length ≤ 12) (k : Int) :
    (meanS (shV by' l) k).2 = (meanS l k).2 ∧ (meanS l k).1.length ≤ 9223372036854775807 ∧ ((meanS l k).2 = 0 → twoQ addQ (meanS l k).1 (txtR (by' : Rat)) = ((meanS (shV by' l) k).1, 0)) := by
  obtain ⟨h1, h2⟩ := valsOk_sh hl hb
  obtain ⟨c1, c2⟩ := check_both hl hb h12
  have hbf : fitsR (by' : Rat) := int_fits (by omega) (by omega)
  rw [meanS_ok c1, meanS_ok c2, shV_len]
  by_cases hk : k < 1 ∨ k > l.length
  · rw [if_pos hk, if_pos hk]
    exact ⟨rfl, by decide, fun h => by cases h⟩
  · rw [if_neg hk, if_neg hk]
    have hk' : 1 ≤ k ∧ k ≤ l.length := by omega
    have f1 := mean_fits h1 (by omega) hk'
    have f2 := mean_fits h2 (by rw [shV_len]; omega) (k := k) (by rw [shV_len]; omega)
    rw [toldR_fits f1, toldR_fits f2]
    refine ⟨rfl, txtR_len f1, fun _ => ?_⟩
    show twoQ addQ (txtR (meanR l k)) (txtR (by' : Rat)) = _
    rw [add_txt f1 hbf, ← mean_sh by' hk', toldR_fits f2]
theorem ahead_pair {by' : Int} {l : List Int} (hl : ∀ v ∈ l, -9000 ≤ v ∧ v ≤ 9000) (hb : -500 ≤ by' ∧ by' ≤ 500) (h12 : l.length ≤ 12) (k : Int) :
    (aheadS (shV by' l) k).2 = (aheadS l k).2 ∧ (aheadS l k).1.length ≤ 9223372036854775807 ∧ ((aheadS l k).2 = 0 → twoQ addQ (aheadS l k).1 (txtR (by' : Rat)) = ((aheadS (shV by' l) k).1, 0)) := by
  obtain ⟨h1, h2⟩ := valsOk_sh hl hb
  obtain ⟨c1, c2⟩ := check_both hl hb h12
  have hbf : fitsR (by' : Rat) := int_fits (by omega) (by omega)
  have e1 : lineE l = if l.length < 2 then 10 else 0 := by unfold lineE; rw [if_neg (by simp [c1])]
  have e2 : lineE (shV by' l) = if l.length < 2 then 10 else 0 := by unfold lineE; rw [if_neg (by simp [c2]), shV_len]
  by_cases h3 : l.length < 2
  · rw [if_pos h3] at e1 e2
    rw [aheadS_bad e1 (by decide), aheadS_bad e2 (by decide)]
    exact ⟨rfl, by decide, fun h => by cases h⟩
  · rw [if_neg h3] at e1 e2
    rw [aheadS_ok e1, aheadS_ok e2, shV_len]
    by_cases hk : k < 0 ∨ k > 48
    · rw [if_pos hk, if_pos hk]
      exact ⟨rfl, by decide, fun h => by cases h⟩
    · rw [if_neg hk, if_neg hk]
      have f1 : fitsR (atR l ((l.length : Int) - 1 + k)) := at_fits h1 (by omega) (by omega) (by omega) (by omega)
      have f2 : fitsR (atR (shV by' l) ((l.length : Int) - 1 + k)) := at_fits h2 (by rw [shV_len]; omega) (by rw [shV_len]; omega) (by omega) (by omega)
      refine ⟨rfl, txtR_len f1, fun _ => ?_⟩
      show twoQ addQ (txtR (atR l ((l.length : Int) - 1 + k))) (txtR (by' : Rat)) = _
      rw [add_txt f1 hbf, ← at_sh by' (by omega) (by omega), toldR_fits f2]
/-- The array while its values are cut. -/
def midV (v : List Int) (i : Nat) : List Int := (v.take i).map c9 ++ v.drop i
theorem midV_len (v : List Int) {i : Nat} (h : i ≤ v.length) : (midV v i).length = v.length := by unfold midV; rw [List.length_append, List.length_map, List.length_drop, take_len v h]; omega
theorem mid_get {v : List Int} {i : Nat} (h : i < v.length) : ((midV v i).map icn).getD i [] = icn v[i] := by
  have hl : ((v.take i).map c9).length = i := by rw [List.length_map, take_len v (by omega)]
  have e : (midV v i)[i]? = some v[i] := by
    unfold midV
    rw [List.getElem?_append_right (Nat.le_of_eq hl), hl, Nat.sub_self, List.getElem?_drop, Nat.add_zero, List.getElem?_eq_getElem h]
  rw [List.getD_eq_getElem?_getD, List.getElem?_map, e]
  rfl
theorem mid_set {v : List Int} {i : Nat} (h : i < v.length) : ((midV v i).map icn).set i [I (c9 v[i])] = (midV v (i + 1)).map icn := by
  have hl : ((v.take i).map c9).length = i := by rw [List.length_map, take_len v (by omega)]
  have e : (midV v i).set i (c9 v[i]) = midV v (i + 1) := by
    unfold midV
    rw [List.set_append_right _ _ (Nat.le_of_eq hl), hl, Nat.sub_self, List.drop_eq_getElem_cons h, List.set_cons_zero, take_get h, List.map_append, List.append_assoc]
    rfl
  rw [← e, List.map_set]
theorem mid_get2 {v : List Int} {i : Nat} (h : i < v.length) : ((midV v (i + 1)).map icn).getD i [] = icn (c9 v[i]) := by
  rw [← mid_set h]
  have hi : i < ((midV v i).map icn).length := by rw [List.length_map, midV_len v (by omega)]; exact h
  rw [List.getD_eq_getElem?_getD, List.getElem?_set_self hi]
  rfl
theorem midV_end (v : List Int) : midV v v.length = v.map c9 := by
  unfold midV
  rw [List.take_of_length_le (Nat.le_refl _), List.drop_of_length_le (Nat.le_refl _), List.append_nil]
def upV (by' : Int) (v : List Int) (i : Nat) : List Int := shV by' ((v.take i).map c9)
theorem upV_len (by' : Int) (v : List Int) {i : Nat} (h : i ≤ v.length) : (upV by' v i).length = i := by unfold upV; rw [shV_len, List.length_map, take_len v h]
theorem upV_succ (by' : Int) {v : List Int} {i : Nat} (h : i < v.length) : upV by' v (i + 1) = upV by' v i ++ [c9 v[i] + by'] := by
  unfold upV shV
  rw [take_get h, List.map_append, List.map_append]
  rfl
theorem upV_end (by' : Int) (v : List Int) : upV by' v v.length = shV by' (v.map c9) := by
  unfold upV
  rw [List.take_of_length_le (Nat.le_refl _)]
set_option maxRecDepth 20000 in
set_option maxHeartbeats 1000000 in
theorem s9 (nl' fl) (l : List Int) (by0 k0 : Int) (hl : l.length ≤ 9223372036854775807) : Aw.Spec Tryd.prog 9 [] [ints nl' fl l, I by0, I k0] (Gives (· = B true)) := by
  refine Spec.shut (Post := fun rg v => v = B true) ?_ fun rg v h => by subst h; exact ⟨rfl, rfl, rfl⟩
  refine Aw.Spec.regsW k9 rfl rfl fun E hn hnp hp => ?_
  unfold a9
  have pin : ∀ r, E.pin r = none := fun r => hp.none hnp (Nat.zero_le _)
  refine AWp.ofD [] [] hn mixed rfl ?_
  have hcut := cut_map icn l 12
  have hcut : List.take (min (l.length : Int) 12).toNat (l.map icn) = (l.take 12).map icn := hcut
  have hv12 : (l.take 12).length ≤ 12 := by rw [List.length_take]; omega
  simp (config := { maxSteps := 2000000 }) only [go_sem, ↓reduceIte, Int.reduceToNat, Nat.reduceMul, Int.reduceBEq, Int.reduceBNe, Nat.reduceBEq, Nat.reduceAdd, Nat.reduceSub, Nat.reduceLeDiff, Nat.reduceEqDiff, Nat.reduceLT, reduceCtorEq, hcut]
  generalize l.take 12 = v at *
  clear hcut
  refine ⟨by omega, ?_⟩
  refine AWpL.callA [] (o30 nl' false v (by omega)) rfl rfl (by rw [hn]; rfl) rfl (fun r hr => .inr (pin r)) fun rg v' hv => ?_
  obtain ⟨rfl, rfl⟩ := hv
  refine ⟨Nat.zero_le _, ?_⟩
  rw [retS_new]
  refine AWpL.ofM hn rfl ?_
  simp (config := { maxSteps := 2000000 }) only [go_sem, ↓reduceIte, Int.reduceToNat, Nat.reduceMul, Int.reduceBEq, Int.reduceBNe, Nat.reduceBEq, Nat.reduceAdd, Nat.reduceSub, Nat.reduceLeDiff, Nat.reduceEqDiff, Nat.reduceLT, reduceCtorEq, Aw.pos]
  (refine AWpL.calle (s26 by0 (-500) 500 (by decide) (by decide) (by decide)) rfl (by rw [hn]; rfl) (by simp (config := { maxSteps := 2000000 }) only [go_sem, ↓reduceIte, Int.reduceToNat, Nat.reduceMul, Int.reduceBEq, Int.reduceBNe, Nat.reduceBEq, Nat.reduceAdd, Nat.reduceSub, Nat.reduceLeDiff, Nat.reduceEqDiff, Nat.reduceLT, reduceCtorEq]) (AWpL.ofM hn rfl ?_); simp (config := { maxSteps := 2000000 }) only [go_sem, ↓reduceIte, Int.reduceToNat, Nat.reduceMul, Int.reduceBEq, Int.reduceBNe, Nat.reduceBEq, Nat.reduceAdd, Nat.reduceSub, Nat.reduceLeDiff, Nat.reduceEqDiff, Nat.reduceLT, reduceCtorEq])
  (refine AWpL.calle (s26 k0 1 12 (by decide) (by decide) (by decide)) rfl (by rw [hn]; rfl) (by simp (config := { maxSteps := 2000000 }) only [go_sem, ↓reduceIte, Int.reduceToNat, Nat.reduceMul, Int.reduceBEq, Int.reduceBNe, Nat.reduceBEq, Nat.reduceAdd, Nat.reduceSub, Nat.reduceLeDiff, Nat.reduceEqDiff, Nat.reduceLT, reduceCtorEq]) (AWpL.ofM hn rfl ?_); simp (config := { maxSteps := 2000000 }) only [go_sem, ↓reduceIte, Int.reduceToNat, Nat.reduceMul, Int.reduceBEq, Int.reduceBNe, Nat.reduceBEq, Nat.reduceAdd, Nat.reduceSub, Nat.reduceLeDiff, Nat.reduceEqDiff, Nat.reduceLT, reduceCtorEq])
  have hb : -500 ≤ cut by0 (-500) 500 ∧ cut by0 (-500) 500 ≤ 500 := by
    have : cut by0 (-500) 500 = -500 + by0 % 1001 := rfl
    omega
  generalize cut by0 (-500) 500 = by' at *
  generalize cut k0 1 12 = k at *
  (repeat (refine And.intro (by first | omega | (refine ⟨by omega, by omega⟩) | (refine ⟨by omega, by omega, by omega⟩) | (simp only [List.length_map, List.length_range, List.length_append, List.length_cons, List.length_nil, List.length_replicate, List.length_set]; omega) | (simp; omega) | (intro hgd; cases hgd) | (intro hgd; refine ⟨hgd, ?_⟩; first | omega | (refine ⟨by omega, by omega⟩) | (simp; omega))) ?_))
  refine AWp.weak (weak_nil 7 3 1 rfl) ?_
  refine AWp.loop (fun j s => ∃ i : Nat, i + j = v.length ∧ Weak E s ⟨[(0, .hnd 0 0 v.length v.length false), (1, I by'), (2, I k), (7, .hnd 1 0 i i false), (34, .hnd 0 0 v.length v.length false), (35, I v.length), (36, I i)], [.arr 3 1 ((midV v i).map icn), .arr 3 1 ((upV by' v i).map icn)]⟩) (n := v.length)
    ⟨0, by omega, weak_to [0, 1] hp hnp rfl (by simp (config := { maxSteps := 2000000 }) only [go_sem, ↓reduceIte, Int.reduceToNat, Nat.reduceMul, Int.reduceBEq, Int.reduceBNe, Nat.reduceBEq, Nat.reduceAdd, Nat.reduceSub, Nat.reduceLeDiff, Nat.reduceEqDiff, Nat.reduceLT, reduceCtorEq, Aw.pos] <;> rfl) (by simp (config := { maxSteps := 2000000 }) only [go_sem, ↓reduceIte, Int.reduceToNat, Nat.reduceMul, Int.reduceBEq, Int.reduceBNe, Nat.reduceBEq, Nat.reduceAdd, Nat.reduceSub, Nat.reduceLeDiff, Nat.reduceEqDiff, Nat.reduceLT, reduceCtorEq, Aw.renR, Aw.pos] <;> rfl)⟩ ?_
  rintro j s ⟨i, hi, hw⟩
  refine AWp.weak hw (AWp.ofD [] [] hn mixed rfl ?_)
  rcases Nat.lt_or_ge i v.length with hlt | hge
  · have d0 : decide ((i : Int) < (v.length : Int)) = true := decide_eq_true (by omega)
    have d1 := mid_get hlt
    have d2 : IntKind.i64.wrap ((i : Int) + 1) = ((i + 1 : Nat) : Int) := by rw [w64 (by omega) (by omega)]; rfl
    have d3 := mid_set hlt
    have d4 := mid_get2 hlt
    have h9 := c9_in v[i]
    have d5 : IntKind.i64.wrap (c9 v[i] + by') = c9 v[i] + by' := w64 (by omega) (by omega)
    have d6 : cut v[i] (-9000) 9000 = c9 v[i] := rfl
    have hap := congrArg (List.map icn) (upV_succ by' hlt)
    rw [List.map_append] at hap
    have hap : (upV by' v i).map icn ++ [icn (c9 v[i] + by')] = (upV by' v (i + 1)).map icn := hap.symm
    have hln : ((upV by' v i).map icn).length = i := by rw [List.length_map, upV_len by' v (by omega)]
    have hml : (midV v i).length = v.length := midV_len v (by omega)
    have hml2 : (midV v (i + 1)).length = v.length := midV_len v (by omega)
    simp (config := { maxSteps := 2000000 }) only [go_sem, ↓reduceIte, Int.reduceToNat, Nat.reduceMul, Int.reduceBEq, Int.reduceBNe, Nat.reduceBEq, Nat.reduceAdd, Nat.reduceSub, Nat.reduceLeDiff, Nat.reduceEqDiff, Nat.reduceLT, reduceCtorEq, d0, d1, hml]
    (repeat (refine And.intro (by first | omega | (refine ⟨by omega, by omega⟩) | (refine ⟨by omega, by omega, by omega⟩) | (simp only [List.length_map, List.length_range, List.length_append, List.length_cons, List.length_nil, List.length_replicate, List.length_set]; omega) | (simp; omega) | (intro hgd; cases hgd) | (intro hgd; refine ⟨hgd, ?_⟩; first | omega | (refine ⟨by omega, by omega⟩) | (simp; omega))) ?_))
    refine AWpL.calle (s26 v[i] (-9000) 9000 (by decide) (by decide) (by decide)) rfl (by rw [hn]; rfl) (by simp (config := { maxSteps := 2000000 }) only [go_sem, ↓reduceIte, Int.reduceToNat, Nat.reduceMul, Int.reduceBEq, Int.reduceBNe, Nat.reduceBEq, Nat.reduceAdd, Nat.reduceSub, Nat.reduceLeDiff, Nat.reduceEqDiff, Nat.reduceLT, reduceCtorEq]) (AWpL.ofM hn rfl ?_)
    rw [d6]
    simp (config := { maxSteps := 2000000 }) only [go_sem, ↓reduceIte, Int.reduceToNat, Nat.reduceMul, Int.reduceBEq, Int.reduceBNe, Nat.reduceBEq, Nat.reduceAdd, Nat.reduceSub, Nat.reduceLeDiff, Nat.reduceEqDiff, Nat.reduceLT, reduceCtorEq, d1, d3, d4, d5, hml, hml2]
    (repeat (refine And.intro (by first | omega | (refine ⟨by omega, by omega⟩) | (refine ⟨by omega, by omega, by omega⟩) | (simp only [List.length_map, List.length_range, List.length_append, List.length_cons, List.length_nil, List.length_replicate, List.length_set]; omega) | (simp; omega) | (intro hgd; cases hgd) | (intro hgd; refine ⟨hgd, ?_⟩; first | omega | (refine ⟨by omega, by omega⟩) | (simp; omega))) ?_))
    refine AWpL.app (r := 1) (els := (upV by' v i).map icn) (ys := [icn (c9 v[i] + by')]) rfl rfl rfl rfl (by rw [hn]; rfl) hln.symm (pin 1) (by simp (config := { maxSteps := 2000000 }) only [go_sem, ↓reduceIte, Int.reduceToNat, Nat.reduceMul, Int.reduceBEq, Int.reduceBNe, Nat.reduceBEq, Nat.reduceAdd, Nat.reduceSub, Nat.reduceLeDiff, Nat.reduceEqDiff, Nat.reduceLT, reduceCtorEq, Nat.le_refl]) (fun el hm y hy => by
      rw [List.mem_singleton.1 hm] at hy
      rw [List.mem_singleton.1 hy]; rfl) (by simp only [List.length_cons, List.length_nil]; omega) (by simp only [List.length_cons, List.length_nil]; omega) (AWpL.ofM hn rfl ?_)
    simp (config := { maxSteps := 2000000 }) only [go_sem, ↓reduceIte, Int.reduceToNat, Nat.reduceMul, Int.reduceBEq, Int.reduceBNe, Nat.reduceBEq, Nat.reduceAdd, Nat.reduceSub, Nat.reduceLeDiff, Nat.reduceEqDiff, Nat.reduceLT, reduceCtorEq, hap, d2]
    exact ⟨j - 1, by omega, i + 1, by omega, weak_to [0, 1] hp hnp rfl (by simp (config := { maxSteps := 2000000 }) only [go_sem, ↓reduceIte, Int.reduceToNat, Nat.reduceMul, Int.reduceBEq, Int.reduceBNe, Nat.reduceBEq, Nat.reduceAdd, Nat.reduceSub, Nat.reduceLeDiff, Nat.reduceEqDiff, Nat.reduceLT, reduceCtorEq, Aw.pos, d2] <;> rfl) (by simp (config := { maxSteps := 2000000 }) only [go_sem, ↓reduceIte, Int.reduceToNat, Nat.reduceMul, Int.reduceBEq, Int.reduceBNe, Nat.reduceBEq, Nat.reduceAdd, Nat.reduceSub, Nat.reduceLeDiff, Nat.reduceEqDiff, Nat.reduceLT, reduceCtorEq, Aw.renR, Aw.pos] <;> rfl)⟩
  have d0 : decide ((i : Int) < (v.length : Int)) = false := decide_eq_false (by omega)
  have hi2 : i = v.length := by omega
  subst hi2
  have hlw : (v.map c9).length = v.length := List.length_map _
  have hls : (shV by' (v.map c9)).length = v.length := by rw [shV_len, hlw]
  have hall : ∀ x ∈ v.map c9, -9000 ≤ x ∧ x ≤ 9000 := fun x hx => by
    obtain ⟨y, _, rfl⟩ := List.mem_map.1 hx
    exact c9_in y
  have hm0 := midV_end v
  have hm1 := upV_end by' v
  obtain ⟨o1, o2⟩ := of_int by' (by omega) (by omega)
  obtain ⟨m1, m2, m3⟩ := mean_pair hall hb (by omega) k
  obtain ⟨a1, a2, a3⟩ := ahead_pair hall hb (by omega) k
  simp (config := { maxSteps := 2000000 }) only [go_sem, ↓reduceIte, Int.reduceToNat, Nat.reduceMul, Int.reduceBEq, Int.reduceBNe, Nat.reduceBEq, Nat.reduceAdd, Nat.reduceSub, Nat.reduceLeDiff, Nat.reduceEqDiff, Nat.reduceLT, reduceCtorEq, d0, hm0, hm1]
  generalize hw0 : v.map c9 = w at *
  generalize hw1 : shV by' w = u at *
  have ht0 : List.take v.length (w.map icn) = w.map icn := List.take_of_length_le (by rw [List.length_map, hlw]; exact Nat.le_refl _)
  have ht1 : List.take v.length (u.map icn) = u.map icn := List.take_of_length_le (by rw [List.length_map, hls]; exact Nat.le_refl _)
  refine AWpL.weak (weak_freeze 0 rfl (pin 0) (by simp (config := { maxSteps := 2000000 }) only [go_sem, ↓reduceIte, Int.reduceToNat, Nat.reduceMul, Int.reduceBEq, Int.reduceBNe, Nat.reduceBEq, Nat.reduceAdd, Nat.reduceSub, Nat.reduceLeDiff, Nat.reduceEqDiff, Nat.reduceLT, reduceCtorEq, Nat.le_refl, List.length_map, hlw])) ?_
  simp (config := { maxSteps := 2000000 }) only [go_sem, ↓reduceIte, Int.reduceToNat, Nat.reduceMul, Int.reduceBEq, Int.reduceBNe, Nat.reduceBEq, Nat.reduceAdd, Nat.reduceSub, Nat.reduceLeDiff, Nat.reduceEqDiff, Nat.reduceLT, reduceCtorEq, ht0]
  refine AWpL.weak (weak_freeze 1 rfl (pin 1) (by simp (config := { maxSteps := 2000000 }) only [go_sem, ↓reduceIte, Int.reduceToNat, Nat.reduceMul, Int.reduceBEq, Int.reduceBNe, Nat.reduceBEq, Nat.reduceAdd, Nat.reduceSub, Nat.reduceLeDiff, Nat.reduceEqDiff, Nat.reduceLT, reduceCtorEq, Nat.le_refl, List.length_map, hls])) ?_
  simp (config := { maxSteps := 2000000 }) only [go_sem, ↓reduceIte, Int.reduceToNat, Nat.reduceMul, Int.reduceBEq, Int.reduceBNe, Nat.reduceBEq, Nat.reduceAdd, Nat.reduceSub, Nat.reduceLeDiff, Nat.reduceEqDiff, Nat.reduceLT, reduceCtorEq, ht1]
  refine AWpL.calle (s20 by' 1 (by omega) (by omega) (by decide) (by decide)) rfl (by rw [hn]; rfl) (by simp (config := { maxSteps := 2000000 }) only [go_sem, ↓reduceIte, Int.reduceToNat, Nat.reduceMul, Int.reduceBEq, Int.reduceBNe, Nat.reduceBEq, Nat.reduceAdd, Nat.reduceSub, Nat.reduceLeDiff, Nat.reduceEqDiff, Nat.reduceLT, reduceCtorEq]) (AWpL.ofM hn rfl ?_)
  rw [o1]
  simp (config := { maxSteps := 2000000 }) only [go_sem, ↓reduceIte, Int.reduceToNat, Nat.reduceMul, Int.reduceBEq, Int.reduceBNe, Nat.reduceBEq, Nat.reduceAdd, Nat.reduceSub, Nat.reduceLeDiff, Nat.reduceEqDiff, Nat.reduceLT, reduceCtorEq]
  refine AWpL.calle (s31 _ _ w k (by omega)) rfl (by rw [hn]; rfl) (by simp (config := { maxSteps := 2000000 }) only [go_sem, ↓reduceIte, Int.reduceToNat, Nat.reduceMul, Int.reduceBEq, Int.reduceBNe, Nat.reduceBEq, Nat.reduceAdd, Nat.reduceSub, Nat.reduceLeDiff, Nat.reduceEqDiff, Nat.reduceLT, reduceCtorEq]) (AWpL.ofM hn rfl ?_)
  simp (config := { maxSteps := 2000000 }) only [go_sem, ↓reduceIte, Int.reduceToNat, Nat.reduceMul, Int.reduceBEq, Int.reduceBNe, Nat.reduceBEq, Nat.reduceAdd, Nat.reduceSub, Nat.reduceLeDiff, Nat.reduceEqDiff, Nat.reduceLT, reduceCtorEq]
  refine AWpL.calle (s31 _ _ u k (by omega)) rfl (by rw [hn]; rfl) (by simp (config := { maxSteps := 2000000 }) only [go_sem, ↓reduceIte, Int.reduceToNat, Nat.reduceMul, Int.reduceBEq, Int.reduceBNe, Nat.reduceBEq, Nat.reduceAdd, Nat.reduceSub, Nat.reduceLeDiff, Nat.reduceEqDiff, Nat.reduceLT, reduceCtorEq]) (AWpL.ofM hn rfl ?_)
  simp (config := { maxSteps := 2000000 }) only [go_sem, ↓reduceIte, Int.reduceToNat, Nat.reduceMul, Int.reduceBEq, Int.reduceBNe, Nat.reduceBEq, Nat.reduceAdd, Nat.reduceSub, Nat.reduceLeDiff, Nat.reduceEqDiff, Nat.reduceLT, reduceCtorEq]
  refine AWpL.calle (s32 _ _ w k (by omega)) rfl (by rw [hn]; rfl) (by simp (config := { maxSteps := 2000000 }) only [go_sem, ↓reduceIte, Int.reduceToNat, Nat.reduceMul, Int.reduceBEq, Int.reduceBNe, Nat.reduceBEq, Nat.reduceAdd, Nat.reduceSub, Nat.reduceLeDiff, Nat.reduceEqDiff, Nat.reduceLT, reduceCtorEq]) (AWpL.ofM hn rfl ?_)
  simp (config := { maxSteps := 2000000 }) only [go_sem, ↓reduceIte, Int.reduceToNat, Nat.reduceMul, Int.reduceBEq, Int.reduceBNe, Nat.reduceBEq, Nat.reduceAdd, Nat.reduceSub, Nat.reduceLeDiff, Nat.reduceEqDiff, Nat.reduceLT, reduceCtorEq]
  refine AWpL.calle (s32 _ _ u k (by omega)) rfl (by rw [hn]; rfl) (by simp (config := { maxSteps := 2000000 }) only [go_sem, ↓reduceIte, Int.reduceToNat, Nat.reduceMul, Int.reduceBEq, Int.reduceBNe, Nat.reduceBEq, Nat.reduceAdd, Nat.reduceSub, Nat.reduceLeDiff, Nat.reduceEqDiff, Nat.reduceLT, reduceCtorEq]) (AWpL.ofM hn rfl ?_)
  generalize meanS w k = M at *
  generalize meanS u k = M' at *
  generalize aheadS w k = A at *
  generalize aheadS u k = A' at *
  simp (config := { maxSteps := 2000000 }) only [go_sem, ↓reduceIte, Int.reduceToNat, Nat.reduceMul, Int.reduceBEq, Int.reduceBNe, Nat.reduceBEq, Nat.reduceAdd, Nat.reduceSub, Nat.reduceLeDiff, Nat.reduceEqDiff, Nat.reduceLT, reduceCtorEq, m1, a1]
  have hby := txtR_len o2
  refine ⟨fun h => ?_, fun h => ⟨fun h2 => ?_, fun h2 => ?_⟩⟩
  · refine AWpL.calle (s16 _ _ m2 hby) rfl (by rw [hn]; rfl) (by simp (config := { maxSteps := 2000000 }) only [go_sem, ↓reduceIte, Int.reduceToNat, Nat.reduceMul, Int.reduceBEq, Int.reduceBNe, Nat.reduceBEq, Nat.reduceAdd, Nat.reduceSub, Nat.reduceLeDiff, Nat.reduceEqDiff, Nat.reduceLT, reduceCtorEq]) (AWpL.ofM hn rfl ?_)
    rw [m3 (by simpa using h)]
    simp (config := { maxSteps := 2000000 }) only [go_sem, ↓reduceIte, Int.reduceToNat, Nat.reduceMul, Int.reduceBEq, Int.reduceBNe, Nat.reduceBEq, Nat.reduceAdd, Nat.reduceSub, Nat.reduceLeDiff, Nat.reduceEqDiff, Nat.reduceLT, reduceCtorEq]
    refine ⟨fun h2 => ?_, fun h2 => ?_⟩
    · refine AWpL.calle (s16 _ _ a2 hby) rfl (by rw [hn]; rfl) (by simp (config := { maxSteps := 2000000 }) only [go_sem, ↓reduceIte, Int.reduceToNat, Nat.reduceMul, Int.reduceBEq, Int.reduceBNe, Nat.reduceBEq, Nat.reduceAdd, Nat.reduceSub, Nat.reduceLeDiff, Nat.reduceEqDiff, Nat.reduceLT, reduceCtorEq]) (AWpL.ofM hn rfl ?_)
      rw [a3 (by simpa using h2)]
      simp (config := { maxSteps := 2000000 }) only [go_sem, ↓reduceIte, Int.reduceToNat, Nat.reduceMul, Int.reduceBEq, Int.reduceBNe, Nat.reduceBEq, Nat.reduceAdd, Nat.reduceSub, Nat.reduceLeDiff, Nat.reduceEqDiff, Nat.reduceLT, reduceCtorEq]
      (refine AWpL.calle (s24) rfl (by rw [hn]; rfl) (by simp (config := { maxSteps := 2000000 }) only [go_sem, ↓reduceIte, Int.reduceToNat, Nat.reduceMul, Int.reduceBEq, Int.reduceBNe, Nat.reduceBEq, Nat.reduceAdd, Nat.reduceSub, Nat.reduceLeDiff, Nat.reduceEqDiff, Nat.reduceLT, reduceCtorEq]) (AWpL.ofM hn rfl ?_); simp (config := { maxSteps := 2000000 }) only [go_sem, ↓reduceIte, Int.reduceToNat, Nat.reduceMul, Int.reduceBEq, Int.reduceBNe, Nat.reduceBEq, Nat.reduceAdd, Nat.reduceSub, Nat.reduceLeDiff, Nat.reduceEqDiff, Nat.reduceLT, reduceCtorEq])
      refine Retn.ret (π := []) hp hnp ⟨rfl, ?_⟩
      simp (config := { maxSteps := 2000000 }) only [go_sem, ↓reduceIte, Int.reduceToNat, Nat.reduceMul, Int.reduceBEq, Int.reduceBNe, Nat.reduceBEq, Nat.reduceAdd, Nat.reduceSub, Nat.reduceLeDiff, Nat.reduceEqDiff, Nat.reduceLT, reduceCtorEq]
    · (refine AWpL.calle (s24) rfl (by rw [hn]; rfl) (by simp (config := { maxSteps := 2000000 }) only [go_sem, ↓reduceIte, Int.reduceToNat, Nat.reduceMul, Int.reduceBEq, Int.reduceBNe, Nat.reduceBEq, Nat.reduceAdd, Nat.reduceSub, Nat.reduceLeDiff, Nat.reduceEqDiff, Nat.reduceLT, reduceCtorEq]) (AWpL.ofM hn rfl ?_); simp (config := { maxSteps := 2000000 }) only [go_sem, ↓reduceIte, Int.reduceToNat, Nat.reduceMul, Int.reduceBEq, Int.reduceBNe, Nat.reduceBEq, Nat.reduceAdd, Nat.reduceSub, Nat.reduceLeDiff, Nat.reduceEqDiff, Nat.reduceLT, reduceCtorEq])
      refine Retn.ret (π := []) hp hnp ⟨rfl, ?_⟩
      simp (config := { maxSteps := 2000000 }) only [go_sem, ↓reduceIte, Int.reduceToNat, Nat.reduceMul, Int.reduceBEq, Int.reduceBNe, Nat.reduceBEq, Nat.reduceAdd, Nat.reduceSub, Nat.reduceLeDiff, Nat.reduceEqDiff, Nat.reduceLT, reduceCtorEq]
  · refine AWpL.calle (s16 _ _ a2 hby) rfl (by rw [hn]; rfl) (by simp (config := { maxSteps := 2000000 }) only [go_sem, ↓reduceIte, Int.reduceToNat, Nat.reduceMul, Int.reduceBEq, Int.reduceBNe, Nat.reduceBEq, Nat.reduceAdd, Nat.reduceSub, Nat.reduceLeDiff, Nat.reduceEqDiff, Nat.reduceLT, reduceCtorEq]) (AWpL.ofM hn rfl ?_)
    rw [a3 (by simpa using h2)]
    simp (config := { maxSteps := 2000000 }) only [go_sem, ↓reduceIte, Int.reduceToNat, Nat.reduceMul, Int.reduceBEq, Int.reduceBNe, Nat.reduceBEq, Nat.reduceAdd, Nat.reduceSub, Nat.reduceLeDiff, Nat.reduceEqDiff, Nat.reduceLT, reduceCtorEq]
    (refine AWpL.calle (s24) rfl (by rw [hn]; rfl) (by simp (config := { maxSteps := 2000000 }) only [go_sem, ↓reduceIte, Int.reduceToNat, Nat.reduceMul, Int.reduceBEq, Int.reduceBNe, Nat.reduceBEq, Nat.reduceAdd, Nat.reduceSub, Nat.reduceLeDiff, Nat.reduceEqDiff, Nat.reduceLT, reduceCtorEq]) (AWpL.ofM hn rfl ?_); simp (config := { maxSteps := 2000000 }) only [go_sem, ↓reduceIte, Int.reduceToNat, Nat.reduceMul, Int.reduceBEq, Int.reduceBNe, Nat.reduceBEq, Nat.reduceAdd, Nat.reduceSub, Nat.reduceLeDiff, Nat.reduceEqDiff, Nat.reduceLT, reduceCtorEq])
    refine Retn.ret (π := []) hp hnp ⟨rfl, ?_⟩
    simp (config := { maxSteps := 2000000 }) only [go_sem, ↓reduceIte, Int.reduceToNat, Nat.reduceMul, Int.reduceBEq, Int.reduceBNe, Nat.reduceBEq, Nat.reduceAdd, Nat.reduceSub, Nat.reduceLeDiff, Nat.reduceEqDiff, Nat.reduceLT, reduceCtorEq]
  · (refine AWpL.calle (s24) rfl (by rw [hn]; rfl) (by simp (config := { maxSteps := 2000000 }) only [go_sem, ↓reduceIte, Int.reduceToNat, Nat.reduceMul, Int.reduceBEq, Int.reduceBNe, Nat.reduceBEq, Nat.reduceAdd, Nat.reduceSub, Nat.reduceLeDiff, Nat.reduceEqDiff, Nat.reduceLT, reduceCtorEq]) (AWpL.ofM hn rfl ?_); simp (config := { maxSteps := 2000000 }) only [go_sem, ↓reduceIte, Int.reduceToNat, Nat.reduceMul, Int.reduceBEq, Int.reduceBNe, Nat.reduceBEq, Nat.reduceAdd, Nat.reduceSub, Nat.reduceLeDiff, Nat.reduceEqDiff, Nat.reduceLT, reduceCtorEq])
    refine Retn.ret (π := []) hp hnp ⟨rfl, ?_⟩
    simp (config := { maxSteps := 2000000 }) only [go_sem, ↓reduceIte, Int.reduceToNat, Nat.reduceMul, Int.reduceBEq, Int.reduceBNe, Nat.reduceBEq, Nat.reduceAdd, Nat.reduceSub, Nat.reduceLeDiff, Nat.reduceEqDiff, Nat.reduceLT, reduceCtorEq]
end Go.Proofs.YtjaakbkneeojnaaDoor
