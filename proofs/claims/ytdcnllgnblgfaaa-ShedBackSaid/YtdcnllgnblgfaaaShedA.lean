/- What shed.Check computes. -/
import Derived.Test.YtdcnllgnblgfaaaAwZf
import Derived.Test.YtdcnllgnblgfaaaLibB
set_option linter.unusedVariables false
set_option linter.unusedSimpArgs false
namespace Go.Proofs.Ytdcnllgnblgfaaa
open Go.Proofs.Ytdcnllgnblgfaaa.Aw
attribute [local go_sem] Int.natCast_zero Int.natCast_one bne_self_eq_false beq_self_eq_true Bool.not_true Bool.not_false Option.isSome_none Option.isSome_some Aw.bkM_nil Option.getD_some Option.getD_none Nat.sub_zero Int.toNat_zero Aw.frzS Aw.frzT Aw.frzA Aw.frzL Aw.frzR Aw.frzO Aw.frzOL Aw.frzOT Aw.frzOR Aw.killS Aw.mapT Aw.mapR Aw.killM Aw.resAVs Aw.resAV Aw.quietOps Aw.wpP Aw.wpT Aw.wpS Aw.AOp.mild List.getElem?_cons_zero List.getElem?_cons_succ Bool.and_false Bool.and_self Bool.false_and Aw.opOb Aw.gdB Aw.Rnd Aw.subTm List.length_map Int.toNat_natCast and_self Aw.SeqC Aw.stops Aw.Ends Aw.looks Aw.renA Aw.renL Aw.renT Aw.renS Aw.wpO Aw.aop Aw.putTm Aw.St.ev Aw.St.put Aw.St.putO Aw.binAV Aw.intBin Aw.strBin Aw.pickAV Aw.optInt Aw.AV.strip Aw.AV.guard Aw.AV.cells Aw.gdOb Aw.AOp.opds Aw.AOp.still Aw.ptrCells Aw.St.reg Aw.fillAV Aw.fillOb Aw.elsOb Aw.splice Aw.firm Aw.cellish Aw.AV.shut Aw.shutAll Aw.Seq Aw.Blk Aw.retS_nil Aw.mapA Aw.mapL Aw.borA Aw.borOb Aw.allOb Aw.tupOf Aw.params Aw.Opd.of Array.toList Value.cells List.map_cons List.map_nil List.getD_cons_zero List.getD_cons_succ List.getD_nil List.length_cons List.length_nil List.take_succ_cons List.take_zero List.take_nil List.drop_zero List.drop_succ_cons List.drop_nil List.set_cons_zero List.set_cons_succ List.append_nil List.nil_append List.cons_append List.all_cons List.all_nil cond_false cond_true if_true if_false true_and and_true Bool.and_true Bool.true_and Option.map_some Option.map_none false_implies forall_const implies_true forall_eq imp_self Bool.cond_false_right Bool.cond_true_left beq_true beq_false Bool.not_eq_true' Bool.false_eq_true Nat.zero_add Nat.add_zero Aw.eqCells Aw.exactCap Aw.overEls Aw.revealS Aw.srcEls Aw.srcSz
attribute [local go_sem ↓] Aw.look_nil Aw.look_ite Aw.wpL_nil Aw.wpL_op Aw.wpL_gd Aw.wpQ_nil Aw.wpQ_op Aw.wpQ_gd Aw.wpC_draw Aw.wpC_reg Aw.wpC_skip Aw.wpC_ret Aw.wpC_exit Aw.wpC_seq Aw.wpC_block Aw.wpC_loop Aw.wpC_cond Aw.stopAt_nil Aw.stopAt_cons Aw.wpD_skip Aw.wpD_ret Aw.wpD_exit Aw.wpD_region Aw.wpD_draw Aw.wpM_nil Aw.wpM_op Aw.wpM_gd Aw.wpD_seq Aw.wpD_block Aw.wpD_loop Aw.wpD_cond
/- gridhall/shed.Check -/
def a11 : ACode :=
  (.seq (.region false [] [
     ⟨(some 2), none, (.mov (.v (.int .i64 0)))⟩])
  (.seq (.seq (.region false [] [
     ⟨(some 8), none, (.mov (.t 0))⟩,
     ⟨(some 9), none, (.len (.t 8))⟩,
     ⟨(some 10), none, (.bin .gtr 3 (.t 9) (.v (.int .i64 8)))⟩])
  (.cond (.t 10)
    (.seq (.region false [] [
       ⟨(some 2), none, (.mov (.v (.int .i64 2)))⟩])
    .ret)
    .skip))
  (.seq (.region false [] [
     ⟨(some 3), none, (.mov (.v (.slice none 0 0)))⟩])
  (.seq (.seq (.region false [] [
     ⟨(some 11), none, (.mov (.t 0))⟩,
     ⟨(some 12), none, (.len (.t 11))⟩,
     ⟨(some 13), none, (.mov (.v (.int .i64 0)))⟩])
  (.block 0 (.loop (.seq (.region false [] [
       ⟨(some 14), none, (.bin .lss 3 (.t 13) (.t 12))⟩])
    (.seq (.cond (.t 14)
      .skip
      (.exit 0))
    (.seq (.block 1 (.seq (.region false [] [
        ⟨(some 15), none, (.mov (.t 13))⟩,
        ⟨(some 16), none, (.idx 3 (.t 11) (.t 13))⟩,
        ⟨(some 17), none, (.load 3 true (.t 16))⟩,
        ⟨(some 5), none, (.alloc 34 (.agg #[(.int .i64 0), (.int .i64 0), (.slice none 0 0)]))⟩,
        ⟨(some 4), none, (.mov (.t 15))⟩,
        ⟨none, none, (.store 3 (.t 5) (.t 17))⟩])
     (.seq (.block 2 (.seq (.region false [] [
         ⟨(some 19), none, (.fld 0 (.t 5))⟩,
         ⟨(some 20), none, (.load 1 false (.t 19))⟩,
         ⟨(some 21), none, (.bin .lss 3 (.t 20) (.v (.int .i64 (-10000))))⟩,
         ⟨(some 22), none, (.mov (.t 21))⟩,
         ⟨(some 23), (some (22, false)), (.fld 0 (.t 5))⟩,
         ⟨(some 24), (some (22, false)), (.load 1 false (.t 23))⟩,
         ⟨(some 25), (some (22, false)), (.bin .gtr 3 (.t 24) (.v (.int .i64 (-1))))⟩,
         ⟨(some 26), none, (.pick (.t 22) (.v (.bool true)) (.t 25))⟩,
         ⟨(some 27), none, (.mov (.t 26))⟩,
         ⟨(some 28), (some (27, false)), (.fld 1 (.t 5))⟩,
         ⟨(some 29), (some (27, false)), (.load 1 false (.t 28))⟩,
         ⟨(some 30), (some (27, false)), (.bin .lss 3 (.t 29) (.v (.int .i64 1)))⟩,
         ⟨(some 31), none, (.pick (.t 27) (.v (.bool true)) (.t 30))⟩,
         ⟨(some 32), none, (.mov (.t 31))⟩,
         ⟨(some 33), (some (32, false)), (.fld 1 (.t 5))⟩,
         ⟨(some 34), (some (32, false)), (.load 1 false (.t 33))⟩,
         ⟨(some 35), (some (32, false)), (.bin .gtr 3 (.t 34) (.v (.int .i64 60)))⟩,
         ⟨(some 36), none, (.pick (.t 32) (.v (.bool true)) (.t 35))⟩,
         ⟨(some 18), none, (.mov (.t 36))⟩])
      (.cond (.t 18)
        (.seq (.region false [] [
           ⟨(some 2), none, (.mov (.v (.int .i64 4)))⟩])
        .ret)
        (.seq (.region true [[], [0], [1], [2], [3, 2], [2], [2], [6, 2], [5, 7, 2], [8, 2], [9, 2], [4, 10, 2], [2, 11], [12, 2]] [
           ⟨(some 38), none, (.mov (.t 4))⟩,
           ⟨(some 39), none, (.bin .gtr 3 (.t 38) (.v (.int .i64 0)))⟩,
           ⟨(some 40), none, (.mov (.t 39))⟩,
           ⟨(some 41), (some (40, true)), (.fld 0 (.t 5))⟩,
           ⟨(some 42), (some (40, true)), (.load 1 false (.t 41))⟩,
           ⟨(some 43), (some (40, true)), (.mov (.t 0))⟩,
           ⟨(some 44), (some (40, true)), (.mov (.t 4))⟩,
           ⟨(some 45), (some (40, true)), (.bin .sub 3 (.t 44) (.v (.int .i64 1)))⟩,
           ⟨(some 46), (some (40, true)), (.idx 3 (.t 43) (.t 45))⟩,
           ⟨(some 47), (some (40, true)), (.fld 0 (.t 46))⟩,
           ⟨(some 48), (some (40, true)), (.load 1 false (.t 47))⟩,
           ⟨(some 49), (some (40, true)), (.bin .geq 3 (.t 42) (.t 48))⟩,
           ⟨(some 50), none, (.pick (.t 40) (.t 49) (.v (.bool false)))⟩,
           ⟨(some 37), none, (.mov (.t 50))⟩])
        (.cond (.t 37)
          (.seq (.region false [] [
             ⟨(some 2), none, (.mov (.v (.int .i64 3)))⟩])
          .ret)
          (.seq (.region false [] [
             ⟨(some 52), none, (.fld 2 (.t 5))⟩,
             ⟨(some 53), none, (.load 1 false (.t 52))⟩,
             ⟨(some 54), none, (.len (.t 53))⟩,
             ⟨(some 55), none, (.bin .gtr 3 (.t 54) (.v (.int .i64 12)))⟩,
             ⟨(some 51), none, (.mov (.t 55))⟩])
          (.cond (.t 51)
            (.seq (.region false [] [
               ⟨(some 2), none, (.mov (.v (.int .i64 2)))⟩])
            .ret)
            .skip)))))))
     (.seq (.region false [] [
        ⟨(some 56), none, (.fld 2 (.t 5))⟩,
        ⟨(some 57), none, (.load 1 false (.t 56))⟩,
        ⟨(some 58), none, (.len (.t 57))⟩,
        ⟨(some 59), none, (.mov (.v (.int .i64 0)))⟩])
     (.block 3 (.loop (.seq (.region false [] [
          ⟨(some 60), none, (.bin .lss 3 (.t 59) (.t 58))⟩])
       (.seq (.cond (.t 60)
         .skip
         (.exit 3))
       (.seq (.block 4 (.seq (.region false [] [
           ⟨(some 61), none, (.idx 1 (.t 57) (.t 59))⟩,
           ⟨(some 62), none, (.load 1 false (.t 61))⟩,
           ⟨(some 7), none, (.mov (.t 62))⟩])
        (.seq (.block 5 (.seq (.region false [] [
            ⟨(some 64), none, (.mov (.t 7))⟩,
            ⟨(some 65), none, (.call 17 [(.t 64)])⟩,
            ⟨(some 66), none, (.un .not (.t 65))⟩,
            ⟨(some 63), none, (.mov (.t 66))⟩])
         (.cond (.t 63)
           (.seq (.region false [] [
              ⟨(some 2), none, (.mov (.v (.int .i64 6)))⟩])
           .ret)
           (.seq (.region false [] [
              ⟨(some 68), none, (.mov (.t 3))⟩,
              ⟨(some 69), none, (.mov (.t 7))⟩,
              ⟨(some 70), none, (.call 10 [(.t 68), (.t 69)])⟩,
              ⟨(some 67), none, (.mov (.t 70))⟩])
           (.cond (.t 67)
             (.seq (.region false [] [
                ⟨(some 2), none, (.mov (.v (.int .i64 7)))⟩])
             .ret)
             .skip)))))
        (.region false [] [
           ⟨(some 71), none, (.mov (.t 3))⟩,
           ⟨(some 72), none, (.mov (.t 7))⟩,
           ⟨(some 73), none, (.bsl 9 1 1 [(0, (.t 72))])⟩,
           ⟨(some 74), none, (.app 9 1 16 (.string ⟨#[]⟩) (.t 71) (.t 73))⟩,
           ⟨(some 3), none, (.mov (.t 74))⟩]))))
       (.region false [] [
          ⟨(some 75), none, (.bin .add 3 (.t 59) (.v (.int .i64 1)))⟩,
          ⟨(some 59), none, (.mov (.t 75))⟩]))))))))))
    (.region false [] [
       ⟨(some 76), none, (.bin .add 3 (.t 13) (.v (.int .i64 1)))⟩,
       ⟨(some 13), none, (.mov (.t 76))⟩])))))))
  (.seq (.region false [] [
     ⟨(some 2), none, (.mov (.v (.int .i64 0)))⟩])
  .ret)))))
theorem k11 : FnIs Try.prog 11 77 [.t 2] a11 := ⟨_, _, Try.func11, rfl, by kernel_rfl, by kernel_rfl, rfl⟩

structure Stage where
  below : Int
  wait : Int
  nil : Option Bool
  full : Bool
  loads : List ByteArray
abbrev gs (s : Stage) : List AV := [I s.below, I s.wait, ss s.nil s.full s.loads]
abbrev gss (nil : Option Bool) (full : Bool) (l : List Stage) : AV := .imm nil full 3 (l.map gs)
/-- The names of a stage, and all names so far. -/
def chkN : List ByteArray → List ByteArray → Int × List ByteArray
  | all, [] => (0, all)
  | all, x :: l => if nm 8 x = false then (6, all) else if all.any (seq x) = true then (7, all) else chkN (all ++ [x]) l
def badS (s : Stage) : Bool := decide (s.below < -10000) || decide (-1 < s.below) || decide (s.wait < 1) || decide (60 < s.wait)
/-- The stages from number i on. -/
def chkS (l : List Stage) : Nat → List ByteArray → List Stage → Int
  | _, _, [] => 0
  | i, all, s :: r => if badS s then 4 else if 0 < i ∧ (l.map Stage.below).getD (i - 1) 0 ≤ s.below then 3 else if 12 < s.loads.length then 2 else
      if (chkN all s.loads).1 ≠ 0 then (chkN all s.loads).1 else chkS l (i + 1) (chkN all s.loads).2 r
def shedChk (l : List Stage) : Int := if 8 < l.length then 2 else chkS l 0 [] l
theorem chkN_drop {all l : List ByteArray} {j : Nat} (h : j < l.length) : chkN all (l.drop j) = if nm 8 l[j] = false then (6, all) else if all.any (seq l[j]) = true then (7, all) else chkN (all ++ [l[j]]) (l.drop (j + 1)) := by
  rw [List.drop_eq_getElem_cons h]; rfl
theorem chkS_drop {l : List Stage} {all : List ByteArray} {i : Nat} (h : i < l.length) : chkS l i all (l.drop i) = if badS l[i] then 4 else if 0 < i ∧ (l.map Stage.below).getD (i - 1) 0 ≤ l[i].below then 3 else if 12 < l[i].loads.length then 2 else
      if (chkN all l[i].loads).1 ≠ 0 then (chkN all l[i].loads).1 else chkS l (i + 1) (chkN all l[i].loads).2 (l.drop (i + 1)) := by
  rw [List.drop_eq_getElem_cons h]; rfl
def okSizes (l : List Stage) : Prop := ∀ s ∈ l, ∀ x ∈ s.loads, x.size ≤ 9223372036854775807
set_option maxRecDepth 20000 in
set_option maxHeartbeats 1000000 in
theorem s11 (nil full) (l : List Stage) (hs : okSizes l) : Aw.Spec Try.prog 11 [] [gss nil full l] (Gives (· = I (shedChk l))) := by
  refine Aw.Spec.givesD k11 mixed rfl rfl rfl fun E hn hnp hp => ?_
  unfold a11
  simp (config := { maxSteps := 2000000 }) only [go_sem, ↓reduceIte, Int.reduceBEq, Int.reduceBNe, Nat.reduceBEq, Nat.reduceAdd, Nat.reduceSub, Nat.reduceLeDiff, Nat.reduceEqDiff, Nat.reduceLT, reduceCtorEq]
  simp only [decide_eq_true_eq, decide_eq_false_iff_not]
  refine ⟨fun h => ?_, fun h => ?_⟩
  · unfold shedChk; rw [if_pos (by omega)]
  have hl : l.length ≤ 8 := by omega
  have hE : shedChk l = chkS l 0 [] l := by unfold shedChk; rw [if_neg (by omega)]
  rw [hE]
  refine AWp.weak (weak_nil 3 9 1 rfl) ?_
  simp (config := { maxSteps := 2000000 }) only [go_sem, ↓reduceIte, Int.reduceBEq, Int.reduceBNe, Nat.reduceBEq, Nat.reduceAdd, Nat.reduceSub, Nat.reduceLeDiff, Nat.reduceEqDiff, Nat.reduceLT, reduceCtorEq]
  refine AWp.loop (fun k s => ∃ (i : Nat) (all : List ByteArray) (kk : Nat) (ex : Bool), i + k = l.length ∧ all.length ≤ 12 * i ∧ chkS l 0 [] l = chkS l i all (l.drop i) ∧
      Weak E s ⟨[(0, gss nil full l), (3, .hnd 0 0 all.length kk ex), (11, gss nil full l), (12, I l.length), (13, I i)], [.arr 9 1 (all.map sc)]⟩) (n := l.length)
    ⟨0, [], 0, false, by omega, by simp, rfl, weak_to [0] hp hnp rfl (by simp (config := { maxSteps := 2000000 }) only [go_sem, ↓reduceIte, Int.reduceBEq, Int.reduceBNe, Nat.reduceBEq, Nat.reduceAdd, Nat.reduceSub, Nat.reduceLeDiff, Nat.reduceEqDiff, Nat.reduceLT, reduceCtorEq, Int.natCast_zero, Aw.pos]) rfl⟩ ?_
  rintro k s ⟨i, all, kk, ex, hi, hall, hc, hw⟩
  refine AWp.weak hw (AWp.ofD [] [] hn mixed rfl ?_)
  rcases Nat.lt_or_ge i l.length with hlt | hge
  · have e0 : decide ((i : Int) < (l.length : Int)) = true := by simp; omega
    have e1 := getD_map gs hlt
    have e2 : IntKind.i64.wrap ((i : Int) + 1) = ((i + 1 : Nat) : Int) := by rw [w64 (by omega) (by omega)]; omega
    rw [chkS_drop hlt] at hc
    have e3 : (l.map gs).getD (IntKind.i64.wrap ((i : Int) - 1)).toNat [] = gs (l[i - 1]'(by omega)) := by
      rw [w64 (by omega) (by omega), show ((i : Int) - 1).toNat = i - 1 by omega]
      exact getD_map gs (by omega)
    have e4 : (l.map Stage.below).getD (i - 1) 0 = (l[i - 1]'(by omega)).below := by
      rw [List.getD_eq_getElem?_getD, List.getElem?_map, List.getElem?_eq_getElem (by omega)]; rfl
    rw [e4] at hc
    simp (config := { maxSteps := 2000000 }) only [go_sem, ↓reduceIte, Int.reduceBEq, Int.reduceBNe, Nat.reduceBEq, Nat.reduceAdd, Nat.reduceSub, Nat.reduceLeDiff, Nat.reduceEqDiff, Nat.reduceLT, reduceCtorEq, e0, e1, e3]
    have ew : IntKind.i64.wrap ((i : Int) - 1) = (i : Int) - 1 := w64 (by omega) (by omega)
    rw [ew]
    have eb : (decide (l[i].below < -10000) || decide (l[i].below > -1) || decide (l[i].wait < 1) || decide (l[i].wait > 60)) = badS l[i] := rfl
    rw [eb]
    have ei : ∀ c : Bool, (decide ((i : Int) > 0) && c) = (decide (0 < i) && c) := fun c => by congr 1; simp
    rw [ei]
    simp only [decide_eq_true_eq]
    refine ⟨⟨by omega, by omega⟩, fun hb => ?_, fun hb => ⟨fun h0 => by omega, fun h1 => ?_, fun h1 => ⟨fun h2 => ?_, fun h2 => ?_⟩⟩⟩
    · rw [hc, if_pos hb]
    · simp only [Bool.and_eq_true, decide_eq_true_eq] at h1
      rw [hc, if_neg (by simp [hb]), if_pos ⟨h1.1, h1.2⟩]
    · simp only [Bool.and_eq_false_iff, decide_eq_false_iff_not] at h1
      rw [hc, if_neg (by simp [hb]), if_neg (by omega), if_pos (by omega)]
    simp only [Bool.and_eq_false_iff, decide_eq_false_iff_not] at h1 h2
    rw [if_neg (by simp [hb]), if_neg (by omega), if_neg (by omega)] at hc
    have hsz := hs l[i] (List.getElem_mem hlt)
    have hlo : l[i].loads.length ≤ 12 := by omega
    generalize hL : l[i].loads = L at *
    generalize l[i].nil = Ln at *
    generalize l[i].full = Lf at *
    refine AWp.loop (fun k s => ∃ (j : Nat) (al : List ByteArray) (kk : Nat) (ex : Bool), j + k = L.length ∧ al.length ≤ 12 * i + j ∧ chkN all L = chkN al (L.drop j) ∧
        Weak E s ⟨[(0, gss nil full l), (3, .hnd 0 0 al.length kk ex), (11, gss nil full l), (12, I l.length), (13, I i), (57, ss Ln Lf L), (58, I L.length), (59, I j)], [.arr 9 1 (al.map sc)]⟩) (n := L.length)
      ⟨0, all, kk, ex, by omega, by omega, rfl, weak_to [0] hp hnp rfl (by simp (config := { maxSteps := 2000000 }) only [go_sem, ↓reduceIte, Int.reduceBEq, Int.reduceBNe, Nat.reduceBEq, Nat.reduceAdd, Nat.reduceSub, Nat.reduceLeDiff, Nat.reduceEqDiff, Nat.reduceLT, reduceCtorEq, Int.natCast_zero, Aw.pos]) rfl⟩ ?_
    rintro k2 s2 ⟨j, al, k3, ex3, hj, hal, hcn, hw2⟩
    refine AWp.weak hw2 (AWp.ofD [] [] hn mixed rfl ?_)
    rcases Nat.lt_or_ge j L.length with hjl | hjg
    · have f0 : decide ((j : Int) < (L.length : Int)) = true := by simp; omega
      have f1 := getD_map sc hjl
      have f2 : IntKind.i64.wrap ((j : Int) + 1) = ((j + 1 : Nat) : Int) := by rw [w64 (by omega) (by omega)]; omega
      rw [chkN_drop hjl] at hcn
      have hx := hsz _ (List.getElem_mem hjl)
      generalize hxe : L[j] = x at *
      simp (config := { maxSteps := 2000000 }) only [go_sem, ↓reduceIte, Int.reduceBEq, Int.reduceBNe, Nat.reduceBEq, Nat.reduceAdd, Nat.reduceSub, Nat.reduceLeDiff, Nat.reduceEqDiff, Nat.reduceLT, reduceCtorEq, f0, f1]
      refine ⟨⟨by omega, by omega⟩, AWpL.calle (s17 x hx) rfl (by rw [hn]; rfl) (by simp (config := { maxSteps := 2000000 }) only [go_sem, ↓reduceIte, Int.reduceBEq, Int.reduceBNe, Nat.reduceBEq, Nat.reduceAdd, Nat.reduceSub, Nat.reduceLeDiff, Nat.reduceEqDiff, Nat.reduceLT, reduceCtorEq]) (AWpL.ofM hn rfl ?_)⟩
      simp (config := { maxSteps := 2000000 }) only [go_sem, ↓reduceIte, Int.reduceBEq, Int.reduceBNe, Nat.reduceBEq, Nat.reduceAdd, Nat.reduceSub, Nat.reduceLeDiff, Nat.reduceEqDiff, Nat.reduceLT, reduceCtorEq]
      refine ⟨fun h3 => ?_, fun h3 => ?_⟩
      · rw [if_pos (by simpa using h3)] at hcn
        rw [hc, hcn]; rfl
      have h3' : nm 8 x = true := by simpa using h3
      rw [if_neg (by simp [h3'])] at hcn
      refine AWpL.calleA (s10 none false al x (by omega)) (by simp (config := { maxSteps := 2000000 }) only [go_sem, ↓reduceIte, Int.reduceBEq, Int.reduceBNe, Nat.reduceBEq, Nat.reduceAdd, Nat.reduceSub, Nat.reduceLeDiff, Nat.reduceEqDiff, Nat.reduceLT, reduceCtorEq, List.take_length]; rw [List.take_of_length_le (by simp)]) rfl (by rw [hn]; rfl) (by simp (config := { maxSteps := 2000000 }) only [go_sem, ↓reduceIte, Int.reduceBEq, Int.reduceBNe, Nat.reduceBEq, Nat.reduceAdd, Nat.reduceSub, Nat.reduceLeDiff, Nat.reduceEqDiff, Nat.reduceLT, reduceCtorEq]; simp) (AWpL.ofM hn rfl ?_)
      simp (config := { maxSteps := 2000000 }) only [go_sem, ↓reduceIte, Int.reduceBEq, Int.reduceBNe, Nat.reduceBEq, Nat.reduceAdd, Nat.reduceSub, Nat.reduceLeDiff, Nat.reduceEqDiff, Nat.reduceLT, reduceCtorEq]
      refine ⟨fun h4 => ?_, fun h4 => ?_⟩
      · rw [if_pos h4] at hcn
        rw [hc, hcn]; rfl
      rw [if_neg (by simp [h4])] at hcn
      refine AWpL.app (r := 0) (els := al.map sc) (ys := [[S x]]) rfl rfl rfl rfl (by rw [hn]; rfl) (by simp) (hp.none hnp (Nat.zero_le _)) (Nat.le_refl 1) (fun el hm y hy => ?_) (by simp only [List.length_cons, List.length_nil]; omega) (by simp only [List.length_cons, List.length_nil]; omega) (AWpL.ofM hn rfl ?_)
      · rw [List.mem_singleton.1 hm] at hy
        rw [List.mem_singleton.1 hy]; rfl
      simp (config := { maxSteps := 2000000 }) only [go_sem, ↓reduceIte, Int.reduceBEq, Int.reduceBNe, Nat.reduceBEq, Nat.reduceAdd, Nat.reduceSub, Nat.reduceLeDiff, Nat.reduceEqDiff, Nat.reduceLT, reduceCtorEq, f2]
      refine ⟨k2 - 1, by omega, j + 1, al ++ [x], al.length + 1, false, by omega, by simp only [List.length_append, List.length_cons, List.length_nil]; omega, hcn, weak_to [0] hp hnp rfl ?_ ?_⟩
      · simp (config := { maxSteps := 2000000 }) only [go_sem, ↓reduceIte, Int.reduceBEq, Int.reduceBNe, Nat.reduceBEq, Nat.reduceAdd, Nat.reduceSub, Nat.reduceLeDiff, Nat.reduceEqDiff, Nat.reduceLT, reduceCtorEq, Aw.pos, List.length_append]
      · simp (config := { maxSteps := 2000000 }) only [go_sem, ↓reduceIte, Int.reduceBEq, Int.reduceBNe, Nat.reduceBEq, Nat.reduceAdd, Nat.reduceSub, Nat.reduceLeDiff, Nat.reduceEqDiff, Nat.reduceLT, reduceCtorEq, List.map_append]
        rfl
    · have f0 : decide ((j : Int) < (L.length : Int)) = false := by simp; omega
      have e6 : chkN all L = (0, al) := by rw [hcn, List.drop_of_length_le hjg]; rfl
      rw [e6] at hc
      simp (config := { maxSteps := 2000000 }) only [go_sem, ↓reduceIte, Int.reduceBEq, Int.reduceBNe, Nat.reduceBEq, Nat.reduceAdd, Nat.reduceSub, Nat.reduceLeDiff, Nat.reduceEqDiff, Nat.reduceLT, reduceCtorEq, f0, e2]
      exact ⟨k - 1, by omega, i + 1, al, k3, ex3, by omega, by omega, by rw [hc]; simp, weak_to [0] hp hnp rfl (by simp (config := { maxSteps := 2000000 }) only [go_sem, ↓reduceIte, Int.reduceBEq, Int.reduceBNe, Nat.reduceBEq, Nat.reduceAdd, Nat.reduceSub, Nat.reduceLeDiff, Nat.reduceEqDiff, Nat.reduceLT, reduceCtorEq, Aw.pos]) rfl⟩
  · have e0 : decide ((i : Int) < (l.length : Int)) = false := by simp; omega
    simp (config := { maxSteps := 2000000 }) only [go_sem, ↓reduceIte, Int.reduceBEq, Int.reduceBNe, Nat.reduceBEq, Nat.reduceAdd, Nat.reduceSub, Nat.reduceLeDiff, Nat.reduceEqDiff, Nat.reduceLT, reduceCtorEq, e0]
    rw [hc, List.drop_of_length_le hge]
    rfl
end Go.Proofs.Ytdcnllgnblgfaaa
