/- Telemetry: Value and List. -/
import Derived.Test.YtfbddidlipeegaaAwZg
import Derived.Test.YtfbddidlipeegaaTemH
set_option linter.unusedVariables false
set_option linter.unusedSimpArgs false
namespace Go.Proofs.Ytfbddidlipeegaa
open Go.Proofs.Ytfbddidlipeegaa.Aw
attribute [local go_sem] Int.natCast_zero Int.natCast_one bne_self_eq_false beq_self_eq_true Bool.not_true Bool.not_false Option.isSome_none Option.isSome_some Aw.bkM_nil Option.getD_some Option.getD_none Nat.sub_zero Int.toNat_zero Aw.frzS Aw.frzT Aw.frzA Aw.frzL Aw.frzR Aw.frzO Aw.frzOL Aw.frzOT Aw.frzOR Aw.killS Aw.mapT Aw.mapR Aw.killM Aw.resAVs Aw.resAV Aw.quietOps Aw.wpP Aw.wpT Aw.wpS Aw.AOp.mild List.getElem?_cons_zero List.getElem?_cons_succ Bool.and_false Bool.and_self Bool.false_and Aw.opOb Aw.gdB Aw.Rnd Aw.subTm List.length_map Int.toNat_natCast and_self Aw.SeqC Aw.stops Aw.Ends Aw.looks Aw.renA Aw.renL Aw.renT Aw.renS Aw.wpO Aw.aop Aw.putTm Aw.St.ev Aw.St.put Aw.St.putO Aw.binAV Aw.intBin Aw.strBin Aw.pickAV Aw.optInt Aw.AV.strip Aw.AV.guard Aw.AV.cells Aw.gdOb Aw.AOp.opds Aw.AOp.still Aw.ptrCells Aw.St.reg Aw.fillAV Aw.fillOb Aw.elsOb Aw.splice Aw.firm Aw.cellish Aw.AV.shut Aw.shutAll Aw.Seq Aw.Blk Aw.retS_nil Aw.mapA Aw.mapL Aw.borA Aw.borOb Aw.allOb Aw.tupOf Aw.params Aw.Opd.of Array.toList Value.cells List.map_cons List.map_nil List.getD_cons_zero List.getD_cons_succ List.getD_nil List.length_cons List.length_nil List.take_succ_cons List.take_zero List.take_nil List.drop_zero List.drop_succ_cons List.drop_nil List.set_cons_zero List.set_cons_succ List.append_nil List.nil_append List.cons_append List.all_cons List.all_nil cond_false cond_true if_true if_false true_and and_true Bool.and_true Bool.true_and Option.map_some Option.map_none false_implies forall_const implies_true forall_eq imp_self Bool.cond_false_right Bool.cond_true_left beq_true beq_false Bool.not_eq_true' Bool.false_eq_true Nat.zero_add Nat.add_zero Aw.eqCells Aw.exactCap Aw.revealS Aw.srcEls Aw.srcSz
attribute [local go_sem ↓] Aw.look_nil Aw.look_ite Aw.wpL_nil Aw.wpL_op Aw.wpL_gd Aw.wpQ_nil Aw.wpQ_op Aw.wpQ_gd Aw.wpC_draw Aw.wpC_reg Aw.wpC_skip Aw.wpC_ret Aw.wpC_exit Aw.wpC_seq Aw.wpC_block Aw.wpC_loop Aw.wpC_cond Aw.stopAt_nil Aw.stopAt_cons Aw.wpD_skip Aw.wpD_ret Aw.wpD_exit Aw.wpD_region Aw.wpD_draw Aw.wpM_nil Aw.wpM_op Aw.wpM_gd Aw.wpD_seq Aw.wpD_block Aw.wpD_loop Aw.wpD_cond

/- (*gridhall/telemetry.Points).Value -/
def a10 : ACode :=
  (.seq (.region false [] [
     ⟨(some 6), none, (.mov (.v (.int .i64 0)))⟩,
     ⟨(some 7), none, (.mov (.v (.int .i64 0)))⟩,
     ⟨(some 8), none, (.mov (.v (.int .i64 0)))⟩])
  (.seq (.seq (.region false [] [
     ⟨(some 11), none, (.mov (.t 2))⟩,
     ⟨(some 12), none, (.bin .lss 3 (.t 11) (.v (.int .i64 0)))⟩,
     ⟨(some 13), none, (.mov (.t 12))⟩,
     ⟨(some 14), (some (13, false)), (.mov (.t 2))⟩,
     ⟨(some 15), (some (13, false)), (.bin .gtr 3 (.t 14) (.v (.int .i64 200000)))⟩,
     ⟨(some 16), none, (.pick (.t 13) (.v (.bool true)) (.t 15))⟩])
  (.cond (.t 16)
    (.seq (.region false [] [
       ⟨(some 6), none, (.mov (.v (.int .i64 0)))⟩,
       ⟨(some 7), none, (.mov (.v (.int .i64 0)))⟩,
       ⟨(some 8), none, (.mov (.v (.int .i64 12)))⟩])
    .ret)
    .skip))
  (.seq (.region false [] [
     ⟨(some 18), none, (.mov (.t 0))⟩,
     ⟨(some 19), none, (.mov (.t 1))⟩,
     ⟨(some 20), none, (.call 14 [(.t 18), (.t 19)])⟩,
     ⟨(some 17), none, (.mov (.t 20))⟩,
     ⟨(some 21), none, (.ext 0 (.t 17))⟩,
     ⟨(some 22), none, (.ext 1 (.t 17))⟩,
     ⟨(some 9), none, (.mov (.t 21))⟩,
     ⟨(some 10), none, (.mov (.t 22))⟩])
  (.seq (.block 0 (.seq (.region false [] [
      ⟨(some 24), none, (.mov (.t 10))⟩,
      ⟨(some 25), none, (.un .not (.t 24))⟩,
      ⟨(some 23), none, (.mov (.t 25))⟩])
   (.cond (.t 23)
     (.seq (.region false [] [
        ⟨(some 6), none, (.mov (.v (.int .i64 0)))⟩,
        ⟨(some 7), none, (.mov (.v (.int .i64 2)))⟩,
        ⟨(some 8), none, (.mov (.v (.int .i64 0)))⟩])
     .ret)
     (.seq (.region false [] [
        ⟨(some 27), none, (.mov (.t 2))⟩,
        ⟨(some 28), none, (.mov (.t 0))⟩,
        ⟨(some 29), none, (.nilc (.t 28))⟩,
        ⟨(some 30), none, (.fld 1 (.t 29))⟩,
        ⟨(some 31), none, (.load 1 false (.t 30))⟩,
        ⟨(some 32), none, (.mov (.t 9))⟩,
        ⟨(some 33), none, (.idx 4 (.t 31) (.t 32))⟩,
        ⟨(some 34), none, (.fld 2 (.t 33))⟩,
        ⟨(some 35), none, (.load 1 false (.t 34))⟩,
        ⟨(some 36), none, (.bin .lss 3 (.t 27) (.t 35))⟩,
        ⟨(some 26), none, (.mov (.t 36))⟩])
     (.cond (.t 26)
       (.seq (.region false [] [
          ⟨(some 6), none, (.mov (.v (.int .i64 0)))⟩,
          ⟨(some 7), none, (.mov (.v (.int .i64 0)))⟩,
          ⟨(some 8), none, (.mov (.v (.int .i64 12)))⟩])
       .ret)
       (.seq (.region true [[], [], [1], [2], [3], [], [4, 5], [6], [7], [0, 8], [], [10], [11], [12], [9, 13], [14]] [
          ⟨(some 38), none, (.mov (.t 2))⟩,
          ⟨(some 39), none, (.mov (.t 0))⟩,
          ⟨(some 40), none, (.nilc (.t 39))⟩,
          ⟨(some 41), none, (.fld 1 (.t 40))⟩,
          ⟨(some 42), none, (.load 1 false (.t 41))⟩,
          ⟨(some 43), none, (.mov (.t 9))⟩,
          ⟨(some 44), none, (.idx 4 (.t 42) (.t 43))⟩,
          ⟨(some 45), none, (.fld 2 (.t 44))⟩,
          ⟨(some 46), none, (.load 1 false (.t 45))⟩,
          ⟨(some 47), none, (.bin .sub 3 (.t 38) (.t 46))⟩,
          ⟨(some 48), none, (.mov (.t 0))⟩,
          ⟨(some 49), none, (.nilc (.t 48))⟩,
          ⟨(some 50), none, (.fld 0 (.t 49))⟩,
          ⟨(some 51), none, (.load 1 false (.t 50))⟩,
          ⟨(some 52), none, (.bin .gtr 3 (.t 47) (.t 51))⟩,
          ⟨(some 37), none, (.mov (.t 52))⟩])
       (.cond (.t 37)
         (.seq (.region false [] [
            ⟨(some 53), none, (.mov (.t 0))⟩,
            ⟨(some 54), none, (.nilc (.t 53))⟩,
            ⟨(some 55), none, (.fld 1 (.t 54))⟩,
            ⟨(some 56), none, (.load 1 false (.t 55))⟩,
            ⟨(some 57), none, (.mov (.t 9))⟩,
            ⟨(some 58), none, (.idx 4 (.t 56) (.t 57))⟩,
            ⟨(some 59), none, (.fld 3 (.t 58))⟩,
            ⟨(some 60), none, (.load 1 false (.t 59))⟩,
            ⟨(some 6), none, (.mov (.t 60))⟩,
            ⟨(some 7), none, (.mov (.v (.int .i64 1)))⟩,
            ⟨(some 8), none, (.mov (.v (.int .i64 0)))⟩])
         .ret)
         .skip)))))))
  (.seq (.region false [] [
     ⟨(some 61), none, (.mov (.t 0))⟩,
     ⟨(some 62), none, (.nilc (.t 61))⟩,
     ⟨(some 63), none, (.fld 1 (.t 62))⟩,
     ⟨(some 64), none, (.load 1 false (.t 63))⟩,
     ⟨(some 65), none, (.mov (.t 9))⟩,
     ⟨(some 66), none, (.idx 4 (.t 64) (.t 65))⟩,
     ⟨(some 67), none, (.fld 3 (.t 66))⟩,
     ⟨(some 68), none, (.load 1 false (.t 67))⟩,
     ⟨(some 6), none, (.mov (.t 68))⟩,
     ⟨(some 7), none, (.mov (.v (.int .i64 0)))⟩,
     ⟨(some 8), none, (.mov (.v (.int .i64 0)))⟩])
  .ret)))))
theorem k10 : FnIs Try.prog 10 69 [.t 6, .t 7, .t 8] a10 := ⟨_, _, Try.func10, rfl, by kernel_rfl, by kernel_rfl, rfl⟩
/- (*gridhall/telemetry.Points).List -/
def a9 : ACode :=
  (.seq (.region false [] [
     ⟨(some 2), none, (.mov (.v (.slice none 0 0)))⟩])
  (.seq (.region false [] [
     ⟨(some 3), none, (.mov (.t 0))⟩,
     ⟨(some 4), none, (.nilc (.t 3))⟩,
     ⟨(some 5), none, (.fld 1 (.t 4))⟩,
     ⟨(some 6), none, (.load 1 false (.t 5))⟩,
     ⟨(some 7), none, (.call 11 [(.t 6)])⟩,
     ⟨(some 2), none, (.mov (.t 7))⟩])
  .ret))
theorem k9 : FnIs Try.prog 9 8 [.t 2] a9 := ⟨_, _, Try.func9, rfl, by kernel_rfl, by kernel_rfl, rfl⟩
/- slices.Clone[[]gridhall/api.TelemetryMsg,gridhall/api.TelemetryMsg] -/
def a11 : ACode :=
  (.seq (.region false [] [
     ⟨(some 2), none, (.mov (.v (.slice none 0 0)))⟩])
  (.seq (.seq (.region false [] [
     ⟨(some 3), none, (.mov (.t 0))⟩,
     ⟨(some 4), none, (.nilS false (.t 3))⟩])
  (.cond (.t 4)
    (.seq (.region false [] [
       ⟨(some 2), none, (.mov (.v (.slice none 0 0)))⟩])
    .ret)
    .skip))
  (.seq (.region false [] [
     ⟨(some 5), none, (.bsl 29 4 0 [])⟩,
     ⟨(some 6), none, (.mov (.t 0))⟩,
     ⟨(some 7), none, (.app 29 4 40 (.agg #[(.string ⟨#[]⟩), (.int .i64 0), (.int .i64 0), (.int .i64 0)]) (.t 5) (.t 6))⟩,
     ⟨(some 2), none, (.mov (.t 7))⟩])
  .ret)))
theorem k11 : FnIs Try.prog 11 8 [.t 2] a11 := ⟨_, _, Try.func11, rfl, by kernel_rfl, by kernel_rfl, rfl⟩

theorem s11 (nl full) (l : List (Msg)) (hl : l.length ≤ 1000000) : Aw.Spec Try.prog 11 [] [.imm nl full 4 (l.map mc)] (fun rg x => rg = [] ∧ x = .imm none false 4 (l.map mc)) := by
  refine Aw.Spec.nil1 fun b _ hb => ?_
  refine Aw.Spec.regsD k11 mixed rfl rfl rfl fun E hn hnp hp => ?_
  unfold a11
  simp (config := { maxSteps := 2000000 }) only [go_sem, ↓reduceIte, Int.reduceToNat, Nat.reduceMul, Int.reduceBEq, Int.reduceBNe, Nat.reduceBEq, Nat.reduceAdd, Nat.reduceSub, Nat.reduceLeDiff, Nat.reduceEqDiff, Nat.reduceLT, reduceCtorEq]
  refine ⟨fun h => ?_, fun h => ?_⟩
  · have hl0 : l = [] := by simpa using hb h
    subst hl0
    refine Retn.weak (weak_ent 2 (by rfl) (Ent.ofnil0 4)) _ (Retn.ret (π := []) hp hnp ⟨rfl, ?_⟩)
    simp (config := { maxSteps := 2000000 }) only [go_sem, ↓reduceIte, Int.reduceToNat, Nat.reduceMul, Int.reduceBEq, Int.reduceBNe, Nat.reduceBEq, Nat.reduceAdd, Nat.reduceSub, Nat.reduceLeDiff, Nat.reduceEqDiff, Nat.reduceLT, reduceCtorEq, Aw.resAVs, Aw.resAV]
    all_goals (try exact ⟨rfl, rfl⟩)
  · refine AWpL.app (r := 0) (els := []) rfl rfl rfl rfl (by rw [hn]; rfl) rfl (hp.none hnp (Nat.zero_le _)) trivial (fun el hm x hx => ?_) (by simp; omega) (by simp; omega) (AWpL.ofM hn rfl ?_)
    · obtain ⟨y, _, rfl⟩ := List.mem_map.1 hm
      simp only [List.mem_cons, List.not_mem_nil, or_false] at hx
      first | (subst hx; rfl) | (rcases hx with rfl | rfl; all_goals rfl) | (rcases hx with rfl | rfl | rfl; all_goals rfl) | (rcases hx with rfl | rfl | rfl | rfl; all_goals rfl) | (rcases hx with rfl | rfl | rfl | rfl | rfl; all_goals rfl) | (rcases hx with rfl | rfl | rfl | rfl | rfl | rfl; all_goals rfl)
    simp (config := { maxSteps := 2000000 }) only [go_sem, ↓reduceIte, Int.reduceToNat, Nat.reduceMul, Int.reduceBEq, Int.reduceBNe, Nat.reduceBEq, Nat.reduceAdd, Nat.reduceSub, Nat.reduceLeDiff, Nat.reduceEqDiff, Nat.reduceLT, reduceCtorEq, Aw.killS, Aw.mapT, Aw.mapR, Aw.killM]
    refine Retn.weak (weak_freeze 0 rfl (hp.none hnp (Nat.zero_le _)) ?_) _ ?_
    · simp (config := { maxSteps := 2000000 }) only [go_sem, ↓reduceIte, Int.reduceToNat, Nat.reduceMul, Int.reduceBEq, Int.reduceBNe, Nat.reduceBEq, Nat.reduceAdd, Nat.reduceSub, Nat.reduceLeDiff, Nat.reduceEqDiff, Nat.reduceLT, reduceCtorEq, Nat.le_refl]
    refine Retn.weak (weak_ent 2 (by rfl) (Ent.plain _ _ _ _)) _ (Retn.ret (π := []) hp hnp ⟨rfl, ?_⟩)
    simp (config := { maxSteps := 2000000 }) only [go_sem, ↓reduceIte, Int.reduceToNat, Nat.reduceMul, Int.reduceBEq, Int.reduceBNe, Nat.reduceBEq, Nat.reduceAdd, Nat.reduceSub, Nat.reduceLeDiff, Nat.reduceEqDiff, Nat.reduceLT, reduceCtorEq]
    first | (exact ⟨rfl, by rw [List.take_of_length_le (by simp)]⟩) | (rw [List.take_of_length_le (by simp)])

theorem o11 (nl full) (l : List (Msg)) (hl : l.length ≤ 1000000) : Aw.Spec Try.prog 11 [] [.imm nl full 4 (l.map mc)] (fun rg x => rg = [.arr 29 4 (l.map mc)] ∧ x = .hnd 0 0 l.length l.length false) := by
  refine Aw.Spec.nil1 fun b _ hb => ?_
  refine Aw.Spec.regsD k11 mixed rfl rfl rfl fun E hn hnp hp => ?_
  unfold a11
  simp (config := { maxSteps := 2000000 }) only [go_sem, ↓reduceIte, Int.reduceToNat, Nat.reduceMul, Int.reduceBEq, Int.reduceBNe, Nat.reduceBEq, Nat.reduceAdd, Nat.reduceSub, Nat.reduceLeDiff, Nat.reduceEqDiff, Nat.reduceLT, reduceCtorEq]
  refine ⟨fun h => ?_, fun h => ?_⟩
  · have hl0 : l = [] := by simpa using hb h
    subst hl0
    refine Retn.weak (weak_nil 2 29 4 (by rfl)) _ (Retn.ret (π := [0]) hp hnp ⟨rfl, ?_⟩)
    simp (config := { maxSteps := 2000000 }) only [go_sem, ↓reduceIte, Int.reduceToNat, Nat.reduceMul, Int.reduceBEq, Int.reduceBNe, Nat.reduceBEq, Nat.reduceAdd, Nat.reduceSub, Nat.reduceLeDiff, Nat.reduceEqDiff, Nat.reduceLT, reduceCtorEq, Aw.resAVs, Aw.resAV, Aw.renR, Aw.pos]
    all_goals (try exact ⟨rfl, rfl⟩)
  · refine AWpL.app (r := 0) (els := []) rfl rfl rfl rfl (by rw [hn]; rfl) rfl (hp.none hnp (Nat.zero_le _)) trivial (fun el hm x hx => ?_) (by simp; omega) (by simp; omega) (AWpL.ofM hn rfl ?_)
    · obtain ⟨y, _, rfl⟩ := List.mem_map.1 hm
      simp only [List.mem_cons, List.not_mem_nil, or_false] at hx
      first | (subst hx; rfl) | (rcases hx with rfl | rfl; all_goals rfl) | (rcases hx with rfl | rfl | rfl; all_goals rfl) | (rcases hx with rfl | rfl | rfl | rfl; all_goals rfl) | (rcases hx with rfl | rfl | rfl | rfl | rfl; all_goals rfl) | (rcases hx with rfl | rfl | rfl | rfl | rfl | rfl; all_goals rfl)
    simp (config := { maxSteps := 2000000 }) only [go_sem, ↓reduceIte, Int.reduceToNat, Nat.reduceMul, Int.reduceBEq, Int.reduceBNe, Nat.reduceBEq, Nat.reduceAdd, Nat.reduceSub, Nat.reduceLeDiff, Nat.reduceEqDiff, Nat.reduceLT, reduceCtorEq, Aw.killS, Aw.mapT, Aw.mapR, Aw.killM]
    refine Retn.ret (π := [0]) hp hnp ⟨rfl, ?_⟩
    simp (config := { maxSteps := 2000000 }) only [go_sem, ↓reduceIte, Int.reduceToNat, Nat.reduceMul, Int.reduceBEq, Int.reduceBNe, Nat.reduceBEq, Nat.reduceAdd, Nat.reduceSub, Nat.reduceLeDiff, Nat.reduceEqDiff, Nat.reduceLT, reduceCtorEq, Aw.resAVs, Aw.resAV, Aw.renR, Aw.pos]
    all_goals (try exact ⟨rfl, rfl⟩)

theorem niM (l : List Msg) : NIR (.arr 29 4 (l.map mc)) := by
  unfold NIR
  intro el hm
  obtain ⟨z, _, rfl⟩ := List.mem_map.1 hm
  simp only [NIL, NI, and_self]
/-- What Value answers. -/
def valF (age : Int) (ps : List Msg) (x : ByteArray) (now : Int) : Int × Int × Int :=
  if now < 0 ∨ 200000 < now then (0, 0, 12) else if fdS ps x = false then (0, 2, 0) else if now < (ps.getD (lbS ps x) default).time then (0, 0, 12)
  else if age < now - (ps.getD (lbS ps x) default).time then ((ps.getD (lbS ps x) default).val, 1, 0) else ((ps.getD (lbS ps x) default).val, 0, 0)
set_option maxRecDepth 20000 in
theorem s10 (age : Int) (nl fl) (ps : List Msg) (sk : AV) (x : ByteArray) (now : Int) (hl : ps.length ≤ 1000) (hs : Sorted ps) (ht : ∀ m ∈ ps, 0 ≤ m.time ∧ m.time ≤ 200000) :
    Aw.Spec Try.prog 10 [] [.pim [I age, .imm nl fl 4 (ps.map mc), sk], S x, I now] (Gives (· = .tup [I (valF age ps x now).1, I (valF age ps x now).2.1, I (valF age ps x now).2.2])) := by
  refine Aw.Spec.givesD k10 mixed rfl rfl rfl fun E hn hnp hp => ?_
  unfold a10
  have hV : valF age ps x now = if now < 0 ∨ 200000 < now then (0, 0, 12) else if fdS ps x = false then (0, 2, 0) else if now < (ps.getD (lbS ps x) default).time then (0, 0, 12)
    else if age < now - (ps.getD (lbS ps x) default).time then ((ps.getD (lbS ps x) default).val, 1, 0) else ((ps.getD (lbS ps x) default).val, 0, 0) := rfl
  simp (config := { maxSteps := 2000000 }) only [go_sem, ↓reduceIte, Int.reduceToNat, Nat.reduceMul, Int.reduceBEq, Int.reduceBNe, Nat.reduceBEq, Nat.reduceAdd, Nat.reduceSub, Nat.reduceLeDiff, Nat.reduceEqDiff, Nat.reduceLT, reduceCtorEq]
  simp only [Bool.or_eq_true, Bool.or_eq_false_iff, decide_eq_true_eq, decide_eq_false_iff_not]
  refine ⟨fun h => ?_, fun h => ?_⟩
  · rw [hV, if_pos (by omega)]
  rw [if_neg (by omega)] at hV
  refine AWpL.calleA (s14 age nl fl ps sk x hl hs) (by simp (config := { maxSteps := 2000000 }) only [go_sem, ↓reduceIte, Int.reduceToNat, Nat.reduceMul, Int.reduceBEq, Int.reduceBNe, Nat.reduceBEq, Nat.reduceAdd, Nat.reduceSub, Nat.reduceLeDiff, Nat.reduceEqDiff, Nat.reduceLT, reduceCtorEq]) rfl (by rw [hn]; rfl) (by simp (config := { maxSteps := 2000000 }) only [go_sem, ↓reduceIte, Int.reduceToNat, Nat.reduceMul, Int.reduceBEq, Int.reduceBNe, Nat.reduceBEq, Nat.reduceAdd, Nat.reduceSub, Nat.reduceLeDiff, Nat.reduceEqDiff, Nat.reduceLT, reduceCtorEq]) (AWpL.ofM hn rfl ?_)
  have hkl : fdS ps x = true → lbS ps x < ps.length := fun h => by
    unfold fdS at h
    simp only [Bool.and_eq_true, decide_eq_true_eq] at h
    exact h.1
  generalize lbS ps x = k at *
  cases hf : fdS ps x
  · rw [if_pos hf] at hV
    rw [hV]
    simp (config := { maxSteps := 2000000 }) only [go_sem, ↓reduceIte, Int.reduceToNat, Nat.reduceMul, Int.reduceBEq, Int.reduceBNe, Nat.reduceBEq, Nat.reduceAdd, Nat.reduceSub, Nat.reduceLeDiff, Nat.reduceEqDiff, Nat.reduceLT, reduceCtorEq]
  rw [if_neg (by rw [hf]; decide)] at hV
  have hk := hkl hf
  have e1 := getD_mapD default mc hk
  have hq := ht (ps.getD k default) (by rw [List.getD_eq_getElem?_getD, List.getElem?_eq_getElem hk]; exact List.getElem_mem hk)
  generalize ps.getD k default = q at *
  have e2 : IntKind.i64.wrap (now - q.time) = now - q.time := w64 (by omega) (by omega)
  simp (config := { maxSteps := 2000000 }) only [go_sem, ↓reduceIte, Int.reduceToNat, Nat.reduceMul, Int.reduceBEq, Int.reduceBNe, Nat.reduceBEq, Nat.reduceAdd, Nat.reduceSub, Nat.reduceLeDiff, Nat.reduceEqDiff, Nat.reduceLT, reduceCtorEq, e1, e2]
  (repeat (refine And.intro (by first | omega | (refine ⟨by omega, by omega⟩) | (refine ⟨by omega, by omega, by omega⟩) | (simp only [List.length_map, List.length_range, List.length_append, List.length_cons, List.length_nil, List.length_replicate, List.length_set]; omega) | (simp; omega) | (intro hgd; cases hgd) | (intro hgd; refine ⟨hgd, ?_⟩; first | omega | (refine ⟨by omega, by omega⟩) | (simp; omega))) ?_))
  simp only [decide_eq_true_eq, decide_eq_false_iff_not]
  refine ⟨fun h2 => ?_, fun h2 => ⟨by omega, fun h3 => ⟨by omega, ?_⟩, fun h3 => ⟨by omega, ?_⟩⟩⟩
  · rw [hV, if_pos h2]
  · rw [hV, if_neg h2, if_pos (by omega)]
  · rw [hV, if_neg h2, if_neg (by omega)]
set_option maxRecDepth 20000 in
theorem s9 (d : Tk) (hd : d.ps.length ≤ 24) : Aw.Spec Try.prog 9 (tkR d) [.ptr 0 0 0] (fun rg v => rg = tkR d ∧ v = .imm none false 4 (d.ps.map mc)) := by
  refine Aw.Spec.regsD k9 mixed rfl rfl rfl fun E hn hnp hp => ?_
  unfold a9
  have htk : (d.ps.map mc).take d.ps.length = d.ps.map mc := List.take_of_length_le (by simp)
  simp (config := { maxSteps := 2000000 }) only [go_sem, ↓reduceIte, Int.reduceToNat, Nat.reduceMul, Int.reduceBEq, Int.reduceBNe, Nat.reduceBEq, Nat.reduceAdd, Nat.reduceSub, Nat.reduceLeDiff, Nat.reduceEqDiff, Nat.reduceLT, reduceCtorEq, tkR]
  refine AWpL.calleB (o11 none false d.ps (by omega)) (by simp (config := { maxSteps := 2000000 }) only [go_sem, ↓reduceIte, Int.reduceToNat, Nat.reduceMul, Int.reduceBEq, Int.reduceBNe, Nat.reduceBEq, Nat.reduceAdd, Nat.reduceSub, Nat.reduceLeDiff, Nat.reduceEqDiff, Nat.reduceLT, reduceCtorEq, htk]) (by rw [hn]; rfl) (by simp (config := { maxSteps := 2000000 }) only [go_sem, ↓reduceIte, Int.reduceToNat, Nat.reduceMul, Int.reduceBEq, Int.reduceBNe, Nat.reduceBEq, Nat.reduceAdd, Nat.reduceSub, Nat.reduceLeDiff, Nat.reduceEqDiff, Nat.reduceLT, reduceCtorEq, List.length_map, Nat.le_refl]) fun rg v hv => ?_
  obtain ⟨rfl, rfl⟩ := hv
  refine ⟨⟨by unfold NI; trivial, fun g hg => ?_⟩, AWpL.ofM hn rfl ?_⟩
  · rw [List.mem_singleton.1 hg]
    refine niM d.ps
  simp (config := { maxSteps := 2000000 }) only [go_sem, ↓reduceIte, Int.reduceToNat, Nat.reduceMul, Int.reduceBEq, Int.reduceBNe, Nat.reduceBEq, Nat.reduceAdd, Nat.reduceSub, Nat.reduceLeDiff, Nat.reduceEqDiff, Nat.reduceLT, reduceCtorEq, Aw.retS, Aw.retRg, Aw.kpM, Aw.bkM, Aw.pos, Aw.isBox, List.getElem?_nil]
  refine Retn.weak (weak_freeze 3 rfl (hp.none hnp (Nat.le_refl 3)) (by simp (config := { maxSteps := 2000000 }) only [go_sem, ↓reduceIte, Int.reduceToNat, Nat.reduceMul, Int.reduceBEq, Int.reduceBNe, Nat.reduceBEq, Nat.reduceAdd, Nat.reduceSub, Nat.reduceLeDiff, Nat.reduceEqDiff, Nat.reduceLT, reduceCtorEq, Nat.le_refl])) _ ?_
  refine Retn.weak (weak_ent 2 (by rfl) (Ent.plain _ _ _ _)) _ (Retn.ret (π := [0, 1, 2]) hp hnp ⟨rfl, ?_⟩)
  simp (config := { maxSteps := 2000000 }) only [go_sem, ↓reduceIte, Int.reduceToNat, Nat.reduceMul, Int.reduceBEq, Int.reduceBNe, Nat.reduceBEq, Nat.reduceAdd, Nat.reduceSub, Nat.reduceLeDiff, Nat.reduceEqDiff, Nat.reduceLT, reduceCtorEq, Aw.renR, Aw.pos, htk]
end Go.Proofs.Ytfbddidlipeegaa
