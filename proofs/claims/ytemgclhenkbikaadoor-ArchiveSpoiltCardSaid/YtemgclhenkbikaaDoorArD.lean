/- Archives: New, Append. -/
import Derived.Test.YtemgclhenkbikaaDoorAwZl
import Derived.Test.YtemgclhenkbikaaDoorArC
set_option linter.unusedVariables false
set_option linter.unusedSimpArgs false
namespace Go.Proofs.YtemgclhenkbikaaDoor
open Go.Proofs.YtemgclhenkbikaaDoor.Aw
attribute [local go_sem] Int.natCast_zero Int.natCast_one bne_self_eq_false beq_self_eq_true Bool.not_true Bool.not_false Option.isSome_none Option.isSome_some Aw.bkM_nil Option.getD_some Option.getD_none Nat.sub_zero Int.toNat_zero Aw.frzS Aw.frzT Aw.frzA Aw.frzL Aw.frzR Aw.frzO Aw.frzOL Aw.frzOT Aw.frzOR Aw.killS Aw.mapT Aw.mapR Aw.killM Aw.resAVs Aw.resAV Aw.quietOps Aw.wpP Aw.wpT Aw.wpS Aw.AOp.mild List.getElem?_cons_zero List.getElem?_cons_succ Bool.and_false Bool.and_self Bool.false_and Aw.opOb Aw.gdB Aw.Rnd Aw.subTm List.length_map Int.toNat_natCast and_self Aw.SeqC Aw.stops Aw.Ends Aw.looks Aw.renA Aw.renL Aw.renT Aw.renS Aw.wpO Aw.aop Aw.putTm Aw.St.ev Aw.St.put Aw.St.putO Aw.binAV Aw.intBin Aw.strBin Aw.pickAV Aw.optInt Aw.AV.strip Aw.AV.guard Aw.AV.cells Aw.gdOb Aw.AOp.opds Aw.AOp.still Aw.ptrCells Aw.St.reg Aw.fillAV Aw.fillOb Aw.elsOb Aw.splice Aw.firm Aw.cellish Aw.AV.shut Aw.shutAll Aw.Seq Aw.Blk Aw.retS_nil Aw.mapA Aw.mapL Aw.borA Aw.borOb Aw.allOb Aw.tupOf Aw.params Aw.Opd.of Array.toList Value.cells List.map_cons List.map_nil List.getD_cons_zero List.getD_cons_succ List.getD_nil List.length_cons List.length_nil List.take_succ_cons List.take_zero List.take_nil List.drop_zero List.drop_succ_cons List.drop_nil List.set_cons_zero List.set_cons_succ List.append_nil List.nil_append List.cons_append List.all_cons List.all_nil cond_false cond_true if_true if_false true_and and_true Bool.and_true Bool.true_and Option.map_some Option.map_none false_implies forall_const implies_true forall_eq imp_self Bool.cond_false_right Bool.cond_true_left beq_true beq_false Bool.not_eq_true' Bool.false_eq_true Nat.zero_add Nat.add_zero Aw.eqCells Aw.stopDraw Aw.skipS Aw.exactCap Aw.revealS Aw.srcEls Aw.srcSz
attribute [local go_sem ↓] Aw.look_nil Aw.look_ite Aw.wpL_nil Aw.wpL_op Aw.wpL_gd Aw.wpQ_nil Aw.wpQ_op Aw.wpQ_gd Aw.wpC_draw Aw.wpC_reg Aw.wpC_skip Aw.wpC_ret Aw.wpC_exit Aw.wpC_seq Aw.wpC_block Aw.wpC_loop Aw.wpC_cond Aw.stopAt_nil Aw.stopAt_cons Aw.wpD_skip Aw.wpD_ret Aw.wpD_exit Aw.wpD_region Aw.wpD_draw Aw.wpM_nil Aw.wpM_op Aw.wpM_gd Aw.wpD_seq Aw.wpD_block Aw.wpD_loop Aw.wpD_cond
/- gridhall/archive.New -/
def a22 : ACode :=
  (.seq (.region false [] [
     ⟨(some 0), none, (.mov (.v (.pointer none)))⟩])
  (.seq (.region false [] [
     ⟨(some 1), none, (.build (.agg #[(.slice none 0 0), (.string ⟨#[]⟩), (.int .u64 0)]) [(2, (1, (.v (.int .u64 14695981039346656037))))])⟩,
     ⟨(some 2), none, (.box 51 (.t 1))⟩,
     ⟨(some 0), none, (.mov (.t 2))⟩])
  .ret))
theorem k22 : FnIs Tryd.prog 22 3 [.t 0] a22 := ⟨_, _, Tryd.func22, rfl, by kernel_rfl, by kernel_rfl, rfl⟩
/- (*gridhall/archive.Archive).Append -/
def a18 : ACode :=
  (.seq (.region false [] [
     ⟨(some 3), none, (.box 30 (.t 1))⟩,
     ⟨(some 4), none, (.mov (.v (.int .i64 0)))⟩,
     ⟨(some 5), none, (.mov (.v (.int .i64 0)))⟩])
  (.seq (.seq (.region false [] [
     ⟨(some 9), none, (.load 4 true (.t 3))⟩,
     ⟨(some 10), none, (.call 32 [(.t 9)])⟩,
     ⟨(some 6), none, (.mov (.t 10))⟩])
  (.seq (.region false [] [
     ⟨(some 11), none, (.mov (.t 6))⟩,
     ⟨(some 12), none, (.bin .neq 36 (.t 11) (.v (.int .i64 0)))⟩])
  (.cond (.t 12)
    (.seq (.region false [] [
       ⟨(some 13), none, (.mov (.t 6))⟩,
       ⟨(some 4), none, (.mov (.v (.int .i64 0)))⟩,
       ⟨(some 5), none, (.mov (.t 13))⟩])
    .ret)
    .skip)))
  (.seq (.region false [] [
     ⟨(some 14), none, (.mov (.t 0))⟩,
     ⟨(some 15), none, (.nilc (.t 14))⟩,
     ⟨(some 16), none, (.fld 0 (.t 15))⟩,
     ⟨(some 17), none, (.load 1 false (.t 16))⟩,
     ⟨(some 18), none, (.len (.t 17))⟩,
     ⟨(some 7), none, (.mov (.t 18))⟩])
  (.seq (.block 0 (.seq (.region true [[], [0], [1], [2], [3, 2], [2], [5, 2], [6, 2], [7, 2], [2], [9, 2], [8, 10, 2], [11, 2], [12, 2], [4, 13, 2], [2, 14], [15, 2]] [
      ⟨(some 20), none, (.mov (.t 7))⟩,
      ⟨(some 21), none, (.bin .gtr 3 (.t 20) (.v (.int .i64 0)))⟩,
      ⟨(some 22), none, (.mov (.t 21))⟩,
      ⟨(some 23), (some (22, true)), (.fld 0 (.t 3))⟩,
      ⟨(some 24), (some (22, true)), (.load 1 false (.t 23))⟩,
      ⟨(some 25), (some (22, true)), (.mov (.t 0))⟩,
      ⟨(some 26), (some (22, true)), (.nilc (.t 25))⟩,
      ⟨(some 27), (some (22, true)), (.fld 0 (.t 26))⟩,
      ⟨(some 28), (some (22, true)), (.load 1 false (.t 27))⟩,
      ⟨(some 29), (some (22, true)), (.mov (.t 7))⟩,
      ⟨(some 30), (some (22, true)), (.bin .sub 3 (.t 29) (.v (.int .i64 1)))⟩,
      ⟨(some 31), (some (22, true)), (.idx 4 (.t 28) (.t 30))⟩,
      ⟨(some 32), (some (22, true)), (.fld 0 (.t 31))⟩,
      ⟨(some 33), (some (22, true)), (.load 1 false (.t 32))⟩,
      ⟨(some 34), (some (22, true)), (.bin .lss 3 (.t 24) (.t 33))⟩,
      ⟨(some 35), none, (.pick (.t 22) (.t 34) (.v (.bool false)))⟩,
      ⟨(some 19), none, (.mov (.t 35))⟩])
   (.cond (.t 19)
     (.seq (.region false [] [
        ⟨(some 4), none, (.mov (.v (.int .i64 0)))⟩,
        ⟨(some 5), none, (.mov (.v (.int .i64 12)))⟩])
     .ret)
     (.seq (.region false [] [
        ⟨(some 37), none, (.mov (.t 7))⟩,
        ⟨(some 38), none, (.bin .eql 3 (.t 37) (.v (.int .i64 300)))⟩,
        ⟨(some 36), none, (.mov (.t 38))⟩])
     (.cond (.t 36)
       (.seq (.region false [] [
          ⟨(some 4), none, (.mov (.v (.int .i64 0)))⟩,
          ⟨(some 5), none, (.mov (.v (.int .i64 9)))⟩])
       .ret)
       .skip)))))
  (.seq (.region false [] [
     ⟨(some 39), none, (.load 4 true (.t 3))⟩,
     ⟨(some 40), none, (.call 31 [(.t 39)])⟩,
     ⟨(some 8), none, (.mov (.t 40))⟩])
  (.seq (.region false [] [
     ⟨(some 41), none, (.mov (.t 0))⟩,
     ⟨(some 42), none, (.mov (.t 0))⟩,
     ⟨(some 43), none, (.nilc (.t 42))⟩,
     ⟨(some 44), none, (.fld 2 (.t 43))⟩,
     ⟨(some 45), none, (.load 1 false (.t 44))⟩,
     ⟨(some 46), none, (.mov (.t 8))⟩,
     ⟨(some 47), none, (.call 30 [(.t 45), (.t 46)])⟩,
     ⟨(some 48), none, (.nilc (.t 41))⟩,
     ⟨(some 49), none, (.fld 2 (.t 48))⟩,
     ⟨none, none, (.store 1 (.t 49) (.t 47))⟩])
  (.seq (.region true [[], [], [1], [2], [3], [], [5], [4, 6], [0, 0, 1, 2, 3, 4, 5, 6, 7], [8, 0, 1, 2, 3, 4, 5, 6, 7], [9, 7, 7, 0, 1, 2, 3, 4, 5, 6, 7]] [
     ⟨(some 50), none, (.mov (.t 0))⟩,
     ⟨(some 51), none, (.mov (.t 0))⟩,
     ⟨(some 52), none, (.nilc (.t 51))⟩,
     ⟨(some 53), none, (.fld 0 (.t 52))⟩,
     ⟨(some 54), none, (.load 1 false (.t 53))⟩,
     ⟨(some 55), none, (.load 4 true (.t 3))⟩,
     ⟨(some 56), none, (.bsl 30 4 1 [(0, (.t 55))])⟩,
     ⟨(some 57), none, (.app 30 4 48 (.agg #[(.int .i64 0), (.string ⟨#[]⟩), (.string ⟨#[]⟩), (.int .i64 0)]) (.t 54) (.t 56))⟩,
     ⟨(some 58), none, (.nilc (.t 50))⟩,
     ⟨(some 59), none, (.fld 0 (.t 58))⟩,
     ⟨none, none, (.store 1 (.t 59) (.t 57))⟩])
  (.seq (.region true [[], [0], [1], [2], [], [4], [], [6], [7], [8], [9], [5, 10], [11], [3, 12], [0, 0, 1, 2, 3, 4, 5, 6, 7, 8, 9, 10, 11, 12, 13], [14, 0, 1, 2, 3, 4, 5, 6, 7, 8, 9, 10, 11, 12, 13], [15, 13, 10, 0, 1, 2, 3, 4, 5, 6, 7, 8, 9, 10, 11, 12, 13]] [
     ⟨(some 60), none, (.mov (.t 0))⟩,
     ⟨(some 61), none, (.nilc (.t 60))⟩,
     ⟨(some 62), none, (.fld 1 (.t 61))⟩,
     ⟨(some 63), none, (.load 1 false (.t 62))⟩,
     ⟨(some 64), none, (.mov (.t 8))⟩,
     ⟨(some 65), none, (.bin .add 9 (.t 64) (.v (.string ⟨#[32]⟩)))⟩,
     ⟨(some 66), none, (.mov (.t 0))⟩,
     ⟨(some 67), none, (.nilc (.t 66))⟩,
     ⟨(some 68), none, (.fld 2 (.t 67))⟩,
     ⟨(some 69), none, (.load 1 false (.t 68))⟩,
     ⟨(some 70), none, (.call 29 [(.t 69), (.v (.int .i64 16))])⟩,
     ⟨(some 71), none, (.bin .add 9 (.t 65) (.t 70))⟩,
     ⟨(some 72), none, (.bin .add 9 (.t 71) (.v (.string ⟨#[10]⟩)))⟩,
     ⟨(some 73), none, (.bin .add 9 (.t 63) (.t 72))⟩,
     ⟨(some 74), none, (.nilc (.t 60))⟩,
     ⟨(some 75), none, (.fld 1 (.t 74))⟩,
     ⟨none, none, (.store 1 (.t 75) (.t 73))⟩])
  (.seq (.region false [] [
     ⟨(some 76), none, (.mov (.t 7))⟩,
     ⟨(some 77), none, (.bin .add 3 (.t 76) (.v (.int .i64 1)))⟩,
     ⟨(some 4), none, (.mov (.t 77))⟩,
     ⟨(some 5), none, (.mov (.v (.int .i64 0)))⟩])
  .ret)))))))))
theorem k18 : FnIs Tryd.prog 18 78 [.t 4, .t 5] a18 := ⟨_, _, Tryd.func18, rfl, by kernel_rfl, by kernel_rfl, rfl⟩

structure Ar where
  list : List Ev
  text : ByteArray
  dig : Nat
def arR (a : Ar) : List Reg := [.box 51 [.hnd 1 0 a.list.length a.list.length false, S a.text, .val (.int .u64 a.dig)], .arr 30 4 (a.list.map ec)]
def begin0 : Nat := 14695981039346656037
theorem s22 : Aw.Spec Tryd.prog 22 [] [] (fun rg v => rg = arR ⟨[], ⟨#[]⟩, begin0⟩ ∧ v = .ptr 0 0 0) := by
  refine Aw.Spec.regsW k22 rfl rfl fun E hn hnp hp => ?_
  unfold a22 arR
  refine AWp.ofD [] [] hn mixed rfl ?_
  simp (config := { maxSteps := 2000000 }) only [go_sem, ↓reduceIte, Int.reduceToNat, Nat.reduceMul, Int.reduceBEq, Int.reduceBNe, Nat.reduceBEq, Nat.reduceAdd, Nat.reduceSub, Nat.reduceLeDiff, Nat.reduceEqDiff, Nat.reduceLT, reduceCtorEq]
  refine Retn.weak (weak_nilbox 0 0 30 4 rfl rfl) _ ?_
  refine Retn.ret (π := [0, 1]) hp hnp ⟨rfl, ?_⟩
  simp (config := { maxSteps := 2000000 }) only [go_sem, ↓reduceIte, Int.reduceToNat, Nat.reduceMul, Int.reduceBEq, Int.reduceBNe, Nat.reduceBEq, Nat.reduceAdd, Nat.reduceSub, Nat.reduceLeDiff, Nat.reduceEqDiff, Nat.reduceLT, reduceCtorEq, Aw.renR, Aw.pos]
  rfl
def lineB (e : Ev) : ByteArray := itoaB e.time ++ ⟨#[32]⟩ ++ e.kind ++ ⟨#[32]⟩ ++ e.name ++ ⟨#[32]⟩ ++ itoaB e.value
def hexB (d : Nat) : ByteArray := ⟨(hexT d).toArray⟩
theorem hexF_len : ∀ (k u : Nat), (hexF k u).length ≤ k + 1
  | 0, u => Nat.le_refl 1
  | k + 1, u => by
    rw [hexF]
    split
    · rw [List.length_singleton]; omega
    · rw [List.length_append, List.length_singleton]
      have := hexF_len k (u / 16)
      omega
theorem hexB_len (d : Nat) : (hexT d).toArray.size ≤ 16 := by rw [List.size_toArray]; exact hexF_len 15 d
def early (a : Ar) (e : Ev) : Bool := decide (0 < a.list.length) && decide (e.time < (a.list.getD (a.list.length - 1) e).time)
def appE (a : Ar) (e : Ev) : Int := if evE e ≠ 0 then evE e else if early a e = true then 12 else if a.list.length = 300 then 9 else 0
def digN (a : Ar) (e : Ev) : Nat := chainF a.dig (lineB e)
def appD (a : Ar) (e : Ev) : Ar := if appE a e = 0 then ⟨a.list ++ [e], a.text ++ (lineB e ++ ⟨#[32]⟩ ++ hexB (digN a e) ++ ⟨#[10]⟩), digN a e⟩ else a
def appN (a : Ar) (e : Ev) : Int := if appE a e = 0 then a.list.length + 1 else 0
set_option maxRecDepth 20000 in
theorem s18 {Γ : List (Nat × Array Value)} (hP : powT ∈ Γ) (hD : debT ∈ Γ) (a : Ar) (e : Ev) (he : EvW e) (ha : a.list.length ≤ 300) (ht : a.text.size ≤ 1000000000) (hd : a.dig < 18446744073709551616) :
    Aw.SpecG Γ Tryd.prog 18 (arR a) [.ptr 0 0 0, ea e] (fun rg v => rg = arR (appD a e) ∧ v = .tup [I (appN a e), I (appE a e)]) := by
  refine Aw.SpecG.regsW (np := 2) k18 rfl rfl fun E hn hnp hp hT => ?_
  unfold a18 arR
  have stay : appE a e ≠ 0 → appD a e = a ∧ appN a e = 0 := fun he => ⟨if_neg he, if_neg he⟩
  refine AWp.ofD [999] [] hn mixed rfl ?_
  simp (config := { maxSteps := 2000000 }) only [go_sem, ↓reduceIte, Int.reduceToNat, Nat.reduceMul, Int.reduceBEq, Int.reduceBNe, Nat.reduceBEq, Nat.reduceAdd, Nat.reduceSub, Nat.reduceLeDiff, Nat.reduceEqDiff, Nat.reduceLT, reduceCtorEq]
  (refine AWpL.calleT (SpecG.at (s32 e he) hT) rfl (by rw [hn]; rfl) (by simp (config := { maxSteps := 2000000 }) only [go_sem, ↓reduceIte, Int.reduceToNat, Nat.reduceMul, Int.reduceBEq, Int.reduceBNe, Nat.reduceBEq, Nat.reduceAdd, Nat.reduceSub, Nat.reduceLeDiff, Nat.reduceEqDiff, Nat.reduceLT, reduceCtorEq]) (AWpL.ofM hn rfl ?_); simp (config := { maxSteps := 2000000 }) only [go_sem, ↓reduceIte, Int.reduceToNat, Nat.reduceMul, Int.reduceBEq, Int.reduceBNe, Nat.reduceBEq, Nat.reduceAdd, Nat.reduceSub, Nat.reduceLeDiff, Nat.reduceEqDiff, Nat.reduceLT, reduceCtorEq])
  have hE : appE a e = if evE e ≠ 0 then evE e else if early a e = true then 12 else if a.list.length = 300 then 9 else 0 := rfl
  refine ⟨fun h1 => ?_, fun h1 => ?_⟩
  · have h1' : evE e ≠ 0 := by simpa using h1
    rw [if_pos h1'] at hE
    obtain ⟨g1, g2⟩ := stay (by rw [hE]; exact h1')
    rw [g1, g2, hE]
    refine Retn.ret (π := [0, 1]) hp hnp ⟨rfl, ?_⟩
    simp (config := { maxSteps := 2000000 }) only [go_sem, ↓reduceIte, Int.reduceToNat, Nat.reduceMul, Int.reduceBEq, Int.reduceBNe, Nat.reduceBEq, Nat.reduceAdd, Nat.reduceSub, Nat.reduceLeDiff, Nat.reduceEqDiff, Nat.reduceLT, reduceCtorEq, Aw.renR, Aw.pos]
  have h1' : evE e = 0 := by simpa using h1
  rw [if_neg (by simp [h1'])] at hE
  have pin : ∀ r, 2 ≤ r → E.pin r = none := fun r hr => hp.none hnp hr
  refine AWp.cut ⟨[(0, .ptr 0 0 0), (3, .ptr 2 0 0), (4, I 0), (5, I 0), (7, I a.list.length), (19, B (early a e))], [.box 51 [.hnd 1 0 a.list.length a.list.length false, S a.text, .val (.int .u64 a.dig)], .arr 30 4 (a.list.map ec), .box 30 (ec e)]⟩ ?_ ?_
  · rcases Nat.eq_zero_or_pos a.list.length with h0 | h0
    · have d0 : decide ((a.list.length : Int) > 0) = false := decide_eq_false (by omega)
      have d1 : early a e = false := by unfold early; rw [decide_eq_false (by omega)]; rfl
      refine AWp.draw mixed ?_
      refine AWpQ.upto hn 3 rfl rfl ?_
      simp (config := { maxSteps := 2000000 }) only [go_sem, ↓reduceIte, Int.reduceToNat, Nat.reduceMul, Int.reduceBEq, Int.reduceBNe, Nat.reduceBEq, Nat.reduceAdd, Nat.reduceSub, Nat.reduceLeDiff, Nat.reduceEqDiff, Nat.reduceLT, reduceCtorEq, d0, d1]
      refine AWpQ.skips hn 22 true 12 (by rfl) rfl ?_
      simp (config := { maxSteps := 2000000 }) only [go_sem, ↓reduceIte, Int.reduceToNat, Nat.reduceMul, Int.reduceBEq, Int.reduceBNe, Nat.reduceBEq, Nat.reduceAdd, Nat.reduceSub, Nat.reduceLeDiff, Nat.reduceEqDiff, Nat.reduceLT, reduceCtorEq]
      refine AWpQ.weak (weak_ent 34 (y := .opt false (B false)) (by rfl) Ent.off) (AWpQ.of hn rfl ?_)
      simp (config := { maxSteps := 2000000 }) only [go_sem, ↓reduceIte, Int.reduceToNat, Nat.reduceMul, Int.reduceBEq, Int.reduceBNe, Nat.reduceBEq, Nat.reduceAdd, Nat.reduceSub, Nat.reduceLeDiff, Nat.reduceEqDiff, Nat.reduceLT, reduceCtorEq]
      exact weak_to [0, 1, 2] hp hnp rfl (by simp (config := { maxSteps := 2000000 }) only [go_sem, ↓reduceIte, Int.reduceToNat, Nat.reduceMul, Int.reduceBEq, Int.reduceBNe, Nat.reduceBEq, Nat.reduceAdd, Nat.reduceSub, Nat.reduceLeDiff, Nat.reduceEqDiff, Nat.reduceLT, reduceCtorEq, Aw.pos] <;> rfl) (by simp (config := { maxSteps := 2000000 }) only [go_sem, ↓reduceIte, Int.reduceToNat, Nat.reduceMul, Int.reduceBEq, Int.reduceBNe, Nat.reduceBEq, Nat.reduceAdd, Nat.reduceSub, Nat.reduceLeDiff, Nat.reduceEqDiff, Nat.reduceLT, reduceCtorEq, Aw.renR, Aw.pos] <;> rfl)
    · refine AWp.plan (.take 0 [false, false, false, false, false, false, false, false, false, false, false, false, false, false, false, false, false] (.take 1 [true, false, false, false, false, false, false, false, false, false, false, false, false, false, false, false, false] (.take 2 [true, true, false, false, false, false, false, false, false, false, false, false, false, false, false, false, false] (.take 3 [true, true, true, false, false, true, true, true, true, true, true, true, true, true, false, false, false] (.take 4 [true, true, true, true, false, true, true, true, true, true, true, true, true, true, false, false, false] (.take 5 [true, true, true, true, true, false, false, false, false, true, true, false, false, false, false, false, false] (.take 6 [true, true, true, true, true, true, false, false, false, true, true, false, false, false, false, false, false] (.take 7 [true, true, true, true, true, true, true, false, false, true, true, false, false, false, false, false, false] (.take 8 [true, true, true, true, true, true, true, true, false, true, true, false, false, false, false, false, false] (.take 9 [true, true, true, true, true, true, true, true, true, false, false, false, false, false, false, false, false] (.take 10 [true, true, true, true, true, true, true, true, true, true, false, false, false, false, false, false, false] (.take 11 [true, true, true, true, true, true, true, true, true, true, true, false, false, false, false, false, false] (.take 12 [true, true, true, true, true, true, true, true, true, true, true, true, false, false, false, false, false] (.take 13 [true, true, true, true, true, true, true, true, true, true, true, true, true, false, false, false, false] (.take 14 [true, true, true, true, true, true, true, true, true, true, true, true, true, true, false, false, false] (.take 15 [true, true, true, true, true, true, true, true, true, true, true, true, true, true, true, false, false] (.take 16 [true, true, true, true, true, true, true, true, true, true, true, true, true, true, true, true, false] .done))))))))))))))))) [true, true, true, true, true, true, true, true, true, true, true, true, true, true, true, true, true] mixed hn rfl rfl ?_
      have d0 : decide ((a.list.length : Int) > 0) = true := decide_eq_true (by omega)
      have hlt : a.list.length - 1 < a.list.length := by omega
      have d2 : IntKind.i64.wrap ((a.list.length : Int) - 1) = ((a.list.length - 1 : Nat) : Int) := by rw [w64 (by omega) (by omega)]; omega
      have d3 := getD_map ec hlt
      have d1 : early a e = decide (e.time < a.list[a.list.length - 1].time) := by
        unfold early
        rw [decide_eq_true h0, List.getD_eq_getElem?_getD, List.getElem?_eq_getElem hlt]
        rfl
      simp (config := { maxSteps := 2000000 }) only [go_sem, ↓reduceIte, Int.reduceToNat, Nat.reduceMul, Int.reduceBEq, Int.reduceBNe, Nat.reduceBEq, Nat.reduceAdd, Nat.reduceSub, Nat.reduceLeDiff, Nat.reduceEqDiff, Nat.reduceLT, reduceCtorEq, d0, d1, d2, d3]
      refine ⟨⟨by omega, by omega⟩, by omega, ?_⟩
      exact weak_to [0, 1, 2] hp hnp rfl (by simp (config := { maxSteps := 2000000 }) only [go_sem, ↓reduceIte, Int.reduceToNat, Nat.reduceMul, Int.reduceBEq, Int.reduceBNe, Nat.reduceBEq, Nat.reduceAdd, Nat.reduceSub, Nat.reduceLeDiff, Nat.reduceEqDiff, Nat.reduceLT, reduceCtorEq, Aw.pos] <;> rfl) (by simp (config := { maxSteps := 2000000 }) only [go_sem, ↓reduceIte, Int.reduceToNat, Nat.reduceMul, Int.reduceBEq, Int.reduceBNe, Nat.reduceBEq, Nat.reduceAdd, Nat.reduceSub, Nat.reduceLeDiff, Nat.reduceEqDiff, Nat.reduceLT, reduceCtorEq, Aw.renR, Aw.pos] <;> rfl)
  simp (config := { maxSteps := 2000000 }) only [go_sem, ↓reduceIte, Int.reduceToNat, Nat.reduceMul, Int.reduceBEq, Int.reduceBNe, Nat.reduceBEq, Nat.reduceAdd, Nat.reduceSub, Nat.reduceLeDiff, Nat.reduceEqDiff, Nat.reduceLT, reduceCtorEq]
  refine ⟨fun h2 => ?_, fun h2 => ⟨fun h3 => ?_, fun h3 => ?_⟩⟩
  · rw [if_pos h2] at hE
    obtain ⟨g1, g2⟩ := stay (by rw [hE]; decide)
    rw [g1, g2, hE]
    refine Retn.ret (π := [0, 1]) hp hnp ⟨rfl, ?_⟩
    simp (config := { maxSteps := 2000000 }) only [go_sem, ↓reduceIte, Int.reduceToNat, Nat.reduceMul, Int.reduceBEq, Int.reduceBNe, Nat.reduceBEq, Nat.reduceAdd, Nat.reduceSub, Nat.reduceLeDiff, Nat.reduceEqDiff, Nat.reduceLT, reduceCtorEq, Aw.renR, Aw.pos]
  · have h3' : a.list.length = 300 := by
      have : (a.list.length : Int) = 300 := by simpa using h3
      omega
    rw [if_neg (by rw [h2]; decide), if_pos h3'] at hE
    obtain ⟨g1, g2⟩ := stay (by rw [hE]; decide)
    rw [g1, g2, hE]
    refine Retn.ret (π := [0, 1]) hp hnp ⟨rfl, ?_⟩
    simp (config := { maxSteps := 2000000 }) only [go_sem, ↓reduceIte, Int.reduceToNat, Nat.reduceMul, Int.reduceBEq, Int.reduceBNe, Nat.reduceBEq, Nat.reduceAdd, Nat.reduceSub, Nat.reduceLeDiff, Nat.reduceEqDiff, Nat.reduceLT, reduceCtorEq, Aw.renR, Aw.pos]
  unfold evE at h1'
  have v1 : ¬(e.time < 0 ∨ e.time > 200000) := fun h => by rw [if_pos h] at h1'; cases h1'
  rw [if_neg v1] at h1'
  have v2 : ¬(kindF e.kind = false ∨ nm 8 e.name = false) := fun h => by rw [if_pos h] at h1'; cases h1'
  rw [if_neg v2] at h1'
  have v3 : ¬(e.value < -1000000 ∨ e.value > 1000000) := fun h => by rw [if_pos h] at h1'; cases h1'
  have k8 : e.kind.size ≤ 8 := by
    have h : kindF e.kind = true := by cases hk : kindF e.kind with
      | true => rfl
      | false => exact absurd (.inl hk) v2
    unfold kindF at h
    simp only [Bool.and_eq_true, decide_eq_true_eq] at h
    omega
  have n8 : e.name.size ≤ 8 := by
    have h : nm 8 e.name = true := by cases hk : nm 8 e.name with
      | true => rfl
      | false => exact absurd (.inr hk) v2
    unfold nm at h
    simp only [Bool.and_eq_true, decide_eq_true_eq] at h
    omega
  (refine AWpL.calleT (SpecG.at (s31 hP e he (by omega) (by omega) k8 n8) hT) rfl (by rw [hn]; rfl) (by simp (config := { maxSteps := 2000000 }) only [go_sem, ↓reduceIte, Int.reduceToNat, Nat.reduceMul, Int.reduceBEq, Int.reduceBNe, Nat.reduceBEq, Nat.reduceAdd, Nat.reduceSub, Nat.reduceLeDiff, Nat.reduceEqDiff, Nat.reduceLT, reduceCtorEq]) (AWpL.ofM hn rfl ?_); simp (config := { maxSteps := 2000000 }) only [go_sem, ↓reduceIte, Int.reduceToNat, Nat.reduceMul, Int.reduceBEq, Int.reduceBNe, Nat.reduceBEq, Nat.reduceAdd, Nat.reduceSub, Nat.reduceLeDiff, Nat.reduceEqDiff, Nat.reduceLT, reduceCtorEq])
  have i1 := itoa_len e.time (by omega) (by omega)
  have i2 := itoa_len e.value (by omega) (by omega)
  have hls : (lineB e).size ≤ 100 := by
    have j1 : (itoaB e.time).size ≤ 21 := i1
    have j2 : (itoaB e.value).size ≤ 21 := i2
    have j3 : (⟨#[32]⟩ : ByteArray).size = 1 := rfl
    unfold lineB
    simp only [ByteArray.size_append]
    omega
  refine AWpL.calle (s30 a.dig (lineB e) hd (by omega)) rfl (by rw [hn]; rfl) (by simp (config := { maxSteps := 2000000 }) only [go_sem, ↓reduceIte, Int.reduceToNat, Nat.reduceMul, Int.reduceBEq, Int.reduceBNe, Nat.reduceBEq, Nat.reduceAdd, Nat.reduceSub, Nat.reduceLeDiff, Nat.reduceEqDiff, Nat.reduceLT, reduceCtorEq]) (AWpL.ofM hn rfl ?_)
  simp (config := { maxSteps := 2000000 }) only [go_sem, ↓reduceIte, Int.reduceToNat, Nat.reduceMul, Int.reduceBEq, Int.reduceBNe, Nat.reduceBEq, Nat.reduceAdd, Nat.reduceSub, Nat.reduceLeDiff, Nat.reduceEqDiff, Nat.reduceLT, reduceCtorEq]
  have hap : a.list.map ec ++ [ec e] = (a.list ++ [e]).map ec := by rw [List.map_append]; rfl
  have hapl : (a.list ++ [e]).length = a.list.length + 1 := by rw [List.length_append]; rfl
  refine AWp.cut ⟨[(0, .ptr 0 0 0), (7, I a.list.length), (8, S (lineB e))], [.box 51 [.hnd 1 0 (a.list.length + 1) (a.list.length + 1) false, S a.text, .val (.int .u64 (digN a e))], .arr 30 4 ((a.list ++ [e]).map ec)]⟩ ?_ ?_
  · refine AWp.plan (.take 1 [true, false, false, false, false, true, true, false, false, false, false] (.take 2 [true, true, false, false, false, true, true, false, false, false, false] (.take 3 [true, true, true, false, false, true, true, false, false, false, false] (.take 4 [true, true, true, true, false, true, true, false, false, false, false] (.take 5 [true, true, true, true, true, false, false, false, false, false, false] (.two 0 (.one 6 (.one 7 (.take 8 [true, true, true, true, true, true, true, true, false, false, false] (.take 9 [true, true, true, true, true, true, true, true, true, false, false] (.one 10 .done))))) 6 (.two 0 (.one 7 (.take 8 [true, true, true, true, true, true, true, true, false, false, false] (.take 9 [true, true, true, true, true, true, true, true, true, false, false] (.one 10 .done)))) 7 (.take 0 [false, true, true, true, true, true, true, true, false, false, false] (.take 8 [true, true, true, true, true, true, true, true, false, false, false] (.take 9 [true, true, true, true, true, true, true, true, true, false, false] (.one 10 .done))))))))))) [true, true, true, true, true, true, true, false, true, true, false] mixed hn rfl rfl ?_
    simp (config := { maxSteps := 2000000 }) only [go_sem, ↓reduceIte, Int.reduceToNat, Nat.reduceMul, Int.reduceBEq, Int.reduceBNe, Nat.reduceBEq, Nat.reduceAdd, Nat.reduceSub, Nat.reduceLeDiff, Nat.reduceEqDiff, Nat.reduceLT, reduceCtorEq]
    repeat' refine And.intro ?_ ?_
    all_goals
      refine AOne.rule (AWpL.app (r := 1) (els := a.list.map ec) (ys := [ec e]) rfl rfl rfl rfl (by rw [hn]; rfl) (by rw [List.length_map]) (hp.arr 1 rfl) (by simp (config := { maxSteps := 2000000 }) only [go_sem, ↓reduceIte, Int.reduceToNat, Nat.reduceMul, Int.reduceBEq, Int.reduceBNe, Nat.reduceBEq, Nat.reduceAdd, Nat.reduceSub, Nat.reduceLeDiff, Nat.reduceEqDiff, Nat.reduceLT, reduceCtorEq, Nat.le_refl]) (fun el hm y hy => by
        rw [List.mem_singleton.1 hm] at hy
        simp only [List.mem_cons, List.not_mem_nil, or_false] at hy
        rcases hy with rfl | rfl | rfl | rfl <;> rfl) (by simp only [List.length_cons, List.length_nil]; omega) (by simp only [List.length_cons, List.length_nil]; omega) (AWpL.ofM hn rfl ?_))
      simp (config := { maxSteps := 2000000 }) only [go_sem, ↓reduceIte, Int.reduceToNat, Nat.reduceMul, Int.reduceBEq, Int.reduceBNe, Nat.reduceBEq, Nat.reduceAdd, Nat.reduceSub, Nat.reduceLeDiff, Nat.reduceEqDiff, Nat.reduceLT, reduceCtorEq, hap]
      exact weak_to [0, 1] hp hnp rfl (by simp (config := { maxSteps := 2000000 }) only [go_sem, ↓reduceIte, Int.reduceToNat, Nat.reduceMul, Int.reduceBEq, Int.reduceBNe, Nat.reduceBEq, Nat.reduceAdd, Nat.reduceSub, Nat.reduceLeDiff, Nat.reduceEqDiff, Nat.reduceLT, reduceCtorEq, Aw.pos] <;> rfl) (by simp (config := { maxSteps := 2000000 }) only [go_sem, ↓reduceIte, Int.reduceToNat, Nat.reduceMul, Int.reduceBEq, Int.reduceBNe, Nat.reduceBEq, Nat.reduceAdd, Nat.reduceSub, Nat.reduceLeDiff, Nat.reduceEqDiff, Nat.reduceLT, reduceCtorEq, Aw.renR, Aw.pos] <;> rfl)
  simp (config := { maxSteps := 2000000 }) only [go_sem, ↓reduceIte, Int.reduceToNat, Nat.reduceMul, Int.reduceBEq, Int.reduceBNe, Nat.reduceBEq, Nat.reduceAdd, Nat.reduceSub, Nat.reduceLeDiff, Nat.reduceEqDiff, Nat.reduceLT, reduceCtorEq]
  have hdg : digN a e < 18446744073709551616 := fnv_lt _ _
  have hxl := hexB_len (digN a e)
  have s1 : (#[32] : Array UInt8).size = 1 := rfl
  have s2 : (#[10] : Array UInt8).size = 1 := rfl
  rw [if_neg (by cases hq : early a e with
    | true => exact absurd hq (by simpa using h2)
    | false => decide), if_neg (by
    have : ¬(a.list.length : Int) = 300 := by simpa using h3
    omega)] at hE
  have hA : appD a e = ⟨a.list ++ [e], a.text ++ (lineB e ++ ⟨#[32]⟩ ++ hexB (digN a e) ++ ⟨#[10]⟩), digN a e⟩ := if_pos hE
  have hN : appN a e = a.list.length + 1 := if_pos hE
  rw [hA, hN, hE, hapl]
  refine AWp.cut ⟨[(7, I a.list.length)], [.box 51 [.hnd 1 0 (a.list.length + 1) (a.list.length + 1) false, S (a.text ++ (lineB e ++ ⟨#[32]⟩ ++ hexB (digN a e) ++ ⟨#[10]⟩)), .val (.int .u64 (digN a e))], .arr 30 4 ((a.list ++ [e]).map ec)]⟩ ?_ ?_
  · refine AWp.plan (.take 0 [false, false, false, false, true, true, true, true, true, true, true, true, true, false, false, false, false] (.take 1 [true, false, false, false, true, true, true, true, true, true, true, true, true, false, false, false, false] (.take 2 [true, true, false, false, true, true, true, true, true, true, true, true, true, false, false, false, false] (.take 3 [true, true, true, false, true, true, true, true, true, true, true, true, true, false, false, false, false] (.take 4 [true, true, true, true, false, false, true, true, true, true, true, false, false, false, false, false, false] (.take 5 [true, true, true, true, true, false, true, true, true, true, true, false, false, false, false, false, false] (.take 6 [true, true, true, true, true, true, false, false, false, false, false, false, false, false, false, false, false] (.take 7 [true, true, true, true, true, true, true, false, false, false, false, false, false, false, false, false, false] (.take 8 [true, true, true, true, true, true, true, true, false, false, false, false, false, false, false, false, false] (.take 9 [true, true, true, true, true, true, true, true, true, false, false, false, false, false, false, false, false] (.one 10 (.take 11 [true, true, true, true, true, true, true, true, true, true, true, false, false, false, false, false, false] (.take 12 [true, true, true, true, true, true, true, true, true, true, true, true, false, false, false, false, false] (.take 13 [true, true, true, true, true, true, true, true, true, true, true, true, true, false, false, false, false] (.take 14 [true, true, true, true, true, true, true, true, true, true, true, true, true, true, false, false, false] (.take 15 [true, true, true, true, true, true, true, true, true, true, true, true, true, true, true, false, false] (.one 16 .done))))))))))))))))) [true, true, true, true, true, true, true, true, true, true, true, true, true, true, true, true, false] mixed hn rfl rfl ?_
    simp (config := { maxSteps := 2000000 }) only [go_sem, ↓reduceIte, Int.reduceToNat, Nat.reduceMul, Int.reduceBEq, Int.reduceBNe, Nat.reduceBEq, Nat.reduceAdd, Nat.reduceSub, Nat.reduceLeDiff, Nat.reduceEqDiff, Nat.reduceLT, reduceCtorEq]
    repeat' first
      | (refine And.intro ?_ ?_)
      | (refine AOne.calleT (SpecG.at (s29 hD (digN a e) hdg) hT) rfl (by rw [hn]; rfl) (by simp (config := { maxSteps := 2000000 }) only [go_sem, ↓reduceIte, Int.reduceToNat, Nat.reduceMul, Int.reduceBEq, Int.reduceBNe, Nat.reduceBEq, Nat.reduceAdd, Nat.reduceSub, Nat.reduceLeDiff, Nat.reduceEqDiff, Nat.reduceLT, reduceCtorEq]) ?_; simp (config := { maxSteps := 2000000 }) only [go_sem, ↓reduceIte, Int.reduceToNat, Nat.reduceMul, Int.reduceBEq, Int.reduceBNe, Nat.reduceBEq, Nat.reduceAdd, Nat.reduceSub, Nat.reduceLeDiff, Nat.reduceEqDiff, Nat.reduceLT, reduceCtorEq])
    all_goals first
      | (simp only [s1, s2]; omega)
      | exact weak_to [0, 1] hp hnp rfl (by simp (config := { maxSteps := 2000000 }) only [go_sem, ↓reduceIte, Int.reduceToNat, Nat.reduceMul, Int.reduceBEq, Int.reduceBNe, Nat.reduceBEq, Nat.reduceAdd, Nat.reduceSub, Nat.reduceLeDiff, Nat.reduceEqDiff, Nat.reduceLT, reduceCtorEq, Aw.pos] <;> rfl) (by simp (config := { maxSteps := 2000000 }) only [go_sem, ↓reduceIte, Int.reduceToNat, Nat.reduceMul, Int.reduceBEq, Int.reduceBNe, Nat.reduceBEq, Nat.reduceAdd, Nat.reduceSub, Nat.reduceLeDiff, Nat.reduceEqDiff, Nat.reduceLT, reduceCtorEq, Aw.renR, Aw.pos] <;> rfl)
  have e1 : IntKind.i64.wrap ((a.list.length : Int) + 1) = (a.list.length : Int) + 1 := w64 (by omega) (by omega)
  simp (config := { maxSteps := 2000000 }) only [go_sem, ↓reduceIte, Int.reduceToNat, Nat.reduceMul, Int.reduceBEq, Int.reduceBNe, Nat.reduceBEq, Nat.reduceAdd, Nat.reduceSub, Nat.reduceLeDiff, Nat.reduceEqDiff, Nat.reduceLT, reduceCtorEq, e1]
  refine Retn.ret (π := [0, 1]) hp hnp ⟨rfl, ?_⟩
  simp (config := { maxSteps := 2000000 }) only [go_sem, ↓reduceIte, Int.reduceToNat, Nat.reduceMul, Int.reduceBEq, Int.reduceBNe, Nat.reduceBEq, Nat.reduceAdd, Nat.reduceSub, Nat.reduceLeDiff, Nat.reduceEqDiff, Nat.reduceLT, reduceCtorEq, Aw.renR, Aw.pos]
end Go.Proofs.YtemgclhenkbikaaDoor
