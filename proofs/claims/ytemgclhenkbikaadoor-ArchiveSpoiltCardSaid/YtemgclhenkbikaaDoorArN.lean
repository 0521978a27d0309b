/- Archives: Recover. -/
import Derived.Test.YtemgclhenkbikaaDoorAwZl
import Derived.Test.YtemgclhenkbikaaDoorArM
set_option linter.unusedVariables false
set_option linter.unusedSimpArgs false
namespace Go.Proofs.YtemgclhenkbikaaDoor
open Go.Proofs.YtemgclhenkbikaaDoor.Aw
attribute [local go_sem] Int.natCast_zero Int.natCast_one bne_self_eq_false beq_self_eq_true Bool.not_true Bool.not_false Option.isSome_none Option.isSome_some Aw.bkM_nil Option.getD_some Option.getD_none Nat.sub_zero Int.toNat_zero Aw.frzS Aw.frzT Aw.frzA Aw.frzL Aw.frzR Aw.frzO Aw.frzOL Aw.frzOT Aw.frzOR Aw.killS Aw.mapT Aw.mapR Aw.killM Aw.resAVs Aw.resAV Aw.quietOps Aw.wpP Aw.wpT Aw.wpS Aw.AOp.mild List.getElem?_cons_zero List.getElem?_cons_succ Bool.and_false Bool.and_self Bool.false_and Aw.opOb Aw.gdB Aw.Rnd Aw.subTm List.length_map Int.toNat_natCast and_self Aw.SeqC Aw.stops Aw.Ends Aw.looks Aw.renA Aw.renL Aw.renT Aw.renS Aw.wpO Aw.aop Aw.putTm Aw.St.ev Aw.St.put Aw.St.putO Aw.binAV Aw.intBin Aw.strBin Aw.pickAV Aw.optInt Aw.AV.strip Aw.AV.guard Aw.AV.cells Aw.gdOb Aw.AOp.opds Aw.AOp.still Aw.ptrCells Aw.St.reg Aw.fillAV Aw.fillOb Aw.elsOb Aw.splice Aw.firm Aw.cellish Aw.AV.shut Aw.shutAll Aw.Seq Aw.Blk Aw.retS_nil Aw.mapA Aw.mapL Aw.borA Aw.borOb Aw.allOb Aw.tupOf Aw.params Aw.Opd.of Array.toList Value.cells List.map_cons List.map_nil List.getD_cons_zero List.getD_cons_succ List.getD_nil List.length_cons List.length_nil List.take_succ_cons List.take_zero List.take_nil List.drop_zero List.drop_succ_cons List.drop_nil List.set_cons_zero List.set_cons_succ List.append_nil List.nil_append List.cons_append List.all_cons List.all_nil cond_false cond_true if_true if_false true_and and_true Bool.and_true Bool.true_and Option.map_some Option.map_none false_implies forall_const implies_true forall_eq imp_self Bool.cond_false_right Bool.cond_true_left beq_true beq_false Bool.not_eq_true' Bool.false_eq_true Nat.zero_add Nat.add_zero Aw.eqCells Aw.stopDraw Aw.skipS Aw.exactCap Aw.revealS Aw.srcEls Aw.srcSz
attribute [local go_sem ↓] Aw.look_nil Aw.look_ite Aw.wpL_nil Aw.wpL_op Aw.wpL_gd Aw.wpQ_nil Aw.wpQ_op Aw.wpQ_gd Aw.wpC_draw Aw.wpC_reg Aw.wpC_skip Aw.wpC_ret Aw.wpC_exit Aw.wpC_seq Aw.wpC_block Aw.wpC_loop Aw.wpC_cond Aw.stopAt_nil Aw.stopAt_cons Aw.wpD_skip Aw.wpD_ret Aw.wpD_exit Aw.wpD_region Aw.wpD_draw Aw.wpM_nil Aw.wpM_op Aw.wpM_gd Aw.wpD_seq Aw.wpD_block Aw.wpD_loop Aw.wpD_cond
/- gridhall/archive.Recover -/
def a16 : ACode :=
  (.seq (.region false [] [
     ⟨(some 2), none, (.mov (.v (.pointer none)))⟩,
     ⟨(some 3), none, (.mov (.v (.int .i64 0)))⟩,
     ⟨(some 4), none, (.mov (.v (.int .i64 0)))⟩])
  (.seq (.seq (.region false [] [
     ⟨(some 15), none, (.mov (.t 0))⟩,
     ⟨(some 16), none, (.lens (.t 15))⟩,
     ⟨(some 17), none, (.bin .gtr 3 (.t 16) (.v (.int .i64 65536)))⟩])
  (.cond (.t 17)
    (.seq (.region false [] [
       ⟨(some 2), none, (.mov (.v (.pointer none)))⟩,
       ⟨(some 3), none, (.mov (.v (.int .i64 0)))⟩,
       ⟨(some 4), none, (.mov (.v (.int .i64 2)))⟩])
    .ret)
    .skip))
  (.seq (.region false [] [
     ⟨(some 18), none, (.call 22 [])⟩,
     ⟨(some 5), none, (.mov (.t 18))⟩])
  (.seq (.region false [] [
     ⟨(some 19), none, (.mov (.t 0))⟩,
     ⟨(some 6), none, (.mov (.t 19))⟩])
  (.seq (.block 0 (.loop (.block 1 (.seq (.region false [] [
        ⟨(some 21), none, (.mov (.t 6))⟩,
        ⟨(some 22), none, (.call 27 [(.t 21), (.v (.string ⟨#[10]⟩))])⟩,
        ⟨(some 20), none, (.mov (.t 22))⟩,
        ⟨(some 23), none, (.ext 0 (.t 20))⟩,
        ⟨(some 24), none, (.ext 1 (.t 20))⟩,
        ⟨(some 25), none, (.ext 2 (.t 20))⟩,
        ⟨(some 7), none, (.mov (.t 23))⟩,
        ⟨(some 8), none, (.mov (.t 24))⟩,
        ⟨(some 9), none, (.mov (.t 25))⟩])
     (.seq (.seq (.region false [] [
        ⟨(some 26), none, (.mov (.t 9))⟩,
        ⟨(some 27), none, (.un .not (.t 26))⟩])
     (.cond (.t 27)
       (.exit 0)
       .skip))
     (.seq (.region false [] [
        ⟨(some 29), none, (.mov (.t 7))⟩,
        ⟨(some 30), none, (.call 28 [(.t 29)])⟩,
        ⟨(some 28), none, (.mov (.t 30))⟩,
        ⟨(some 31), none, (.ext 0 (.t 28))⟩,
        ⟨(some 32), none, (.ext 1 (.t 28))⟩,
        ⟨(some 33), none, (.ext 2 (.t 28))⟩,
        ⟨(some 10), none, (.alloc 30 (.agg #[(.int .i64 0), (.string ⟨#[]⟩), (.string ⟨#[]⟩), (.int .i64 0)]))⟩,
        ⟨none, none, (.store 4 (.t 10) (.t 31))⟩,
        ⟨(some 11), none, (.mov (.t 32))⟩,
        ⟨(some 12), none, (.mov (.t 33))⟩])
     (.seq (.seq (.region true [[], [0], [1], [2], [3, 2], [4, 2], [5, 2], [2], [7, 2, 2], [6, 8, 8, 2], [9, 9, 2], [2], [10, 11, 2], [2, 12]] [
        ⟨(some 34), none, (.mov (.t 12))⟩,
        ⟨(some 35), none, (.un .not (.t 34))⟩,
        ⟨(some 36), none, (.mov (.t 35))⟩,
        ⟨(some 37), (some (36, false)), (.mov (.t 5))⟩,
        ⟨(some 38), (some (36, false)), (.nilc (.t 37))⟩,
        ⟨(some 39), (some (36, false)), (.fld 2 (.t 38))⟩,
        ⟨(some 40), (some (36, false)), (.load 1 false (.t 39))⟩,
        ⟨(some 41), (some (36, false)), (.load 4 true (.t 10))⟩,
        ⟨(some 42), (some (36, false)), (.call 31 [(.t 41)])⟩,
        ⟨(some 43), (some (36, false)), (.call 30 [(.t 40), (.t 42)])⟩,
        ⟨(some 44), (some (36, false)), (.call 29 [(.t 43), (.v (.int .i64 16))])⟩,
        ⟨(some 45), (some (36, false)), (.mov (.t 11))⟩,
        ⟨(some 46), (some (36, false)), (.bin .neq 9 (.t 44) (.t 45))⟩,
        ⟨(some 47), none, (.pick (.t 36) (.v (.bool true)) (.t 46))⟩])
     (.cond (.t 47)
       (.exit 0)
       .skip))
     (.seq (.seq (.region false [] [
        ⟨(some 49), none, (.mov (.t 5))⟩,
        ⟨(some 50), none, (.load 4 true (.t 10))⟩,
        ⟨(some 51), none, (.call 18 [(.t 49), (.t 50)])⟩,
        ⟨(some 48), none, (.mov (.t 51))⟩,
        ⟨(some 52), none, (.ext 0 (.t 48))⟩,
        ⟨(some 53), none, (.ext 1 (.t 48))⟩,
        ⟨(some 13), none, (.mov (.t 52))⟩,
        ⟨(some 14), none, (.mov (.t 53))⟩])
     (.seq (.region false [] [
        ⟨(some 54), none, (.mov (.t 14))⟩,
        ⟨(some 55), none, (.bin .neq 36 (.t 54) (.v (.int .i64 0)))⟩])
     (.cond (.t 55)
       (.exit 0)
       .skip)))
     (.region false [] [
        ⟨(some 56), none, (.mov (.t 8))⟩,
        ⟨(some 6), none, (.mov (.t 56))⟩])))))))))
  (.seq (.region true [[], [], [1], [2], [3], [4], [0, 0], [5, 6, 0, 1, 2, 3, 4, 5, 6], [7, 0, 1, 2, 3, 4, 5, 6, 7]] [
     ⟨(some 57), none, (.mov (.t 5))⟩,
     ⟨(some 58), none, (.mov (.t 5))⟩,
     ⟨(some 59), none, (.nilc (.t 58))⟩,
     ⟨(some 60), none, (.fld 1 (.t 59))⟩,
     ⟨(some 61), none, (.load 1 false (.t 60))⟩,
     ⟨(some 62), none, (.lens (.t 61))⟩,
     ⟨(some 2), none, (.mov (.t 57))⟩,
     ⟨(some 3), none, (.mov (.t 62))⟩,
     ⟨(some 4), none, (.mov (.v (.int .i64 0)))⟩])
  .ret))))))
theorem k16 : FnIs Tryd.prog 16 63 [.t 2, .t 3, .t 4] a16 := ⟨_, _, Tryd.func16, rfl, by kernel_rfl, by kernel_rfl, rfl⟩

theorem ent_nl (b : Ar) (e : Ev) (z : ByteArray) : (10 : UInt8) ∈ lst (ent b e ++ z) := by
  unfold ent
  rw [lst_app, lst_app]
  exact List.mem_append_left _ (List.mem_append_right _ (List.mem_singleton_self _))
set_option maxRecDepth 20000 in
set_option maxHeartbeats 1000000 in
theorem s16 {Γ : List (Nat × Array Value)} {e1 e2 : Value} (hP : powT ∈ Γ) (hD : debT ∈ Γ) (hE : Errs Γ e1 e2) (s : ByteArray) (hs : s.size ≤ 65536) :
    Aw.SpecG Γ Tryd.prog 16 [] [S s] (fun rg v => ∃ b rest, RecOut s b rest ∧ rg = arR b ∧ v = .tup [.ptr 0 0 0, I b.text.size, I 0]) := by
  refine Aw.SpecG.regsW k16 rfl rfl fun E hn hnp hp hT => ?_
  unfold a16
  have pin : ∀ r, E.pin r = none := fun r => hp.none hnp (Nat.zero_le _)
  have e0 : decide ((s.size : Int) > 65536) = false := decide_eq_false (by omega)
  refine AWp.ofD [0, 1, 999] [] hn mixed rfl ?_
  simp (config := { maxSteps := 2000000 }) only [go_sem, ↓reduceIte, Int.reduceToNat, Nat.reduceMul, Int.reduceBEq, Int.reduceBNe, Nat.reduceBEq, Nat.reduceAdd, Nat.reduceSub, Nat.reduceLeDiff, Nat.reduceEqDiff, Nat.reduceLT, reduceCtorEq, e0]
  refine AWpL.callA [] s22 rfl rfl (by rw [hn]; rfl) rfl (fun r hr => .inr (pin r)) fun rg v hv => ?_
  obtain ⟨rfl, rfl⟩ := hv
  refine ⟨Nat.zero_le _, ?_⟩
  rw [retS_new]
  refine AWpL.ofM hn rfl ?_
  simp (config := { maxSteps := 2000000 }) only [go_sem, ↓reduceIte, Int.reduceToNat, Nat.reduceMul, Int.reduceBEq, Int.reduceBNe, Nat.reduceBEq, Nat.reduceAdd, Nat.reduceSub, Nat.reduceLeDiff, Nat.reduceEqDiff, Nat.reduceLT, reduceCtorEq, Aw.pos, arR]
  refine AWp.cutP (fun s0 => ∃ b rest, RecOut s b rest ∧ s0 = ⟨[(5, .ptr 0 0 0)], arR b⟩) (AWp.block ?_) ?_
  · refine AWp.loop (fun k st => ∃ (b : Ar) (rest : ByteArray), Good b ∧ b.text ++ rest = s ∧ rest.size = k ∧ Weak E st ⟨[(5, .ptr 0 0 0), (6, S rest)], arR b⟩) (n := s.size)
      ⟨Ar0, s, .zero, ByteArray.empty_append, rfl, weak_to [0, 1] hp hnp rfl (by simp (config := { maxSteps := 2000000 }) only [go_sem, ↓reduceIte, Int.reduceToNat, Nat.reduceMul, Int.reduceBEq, Int.reduceBNe, Nat.reduceBEq, Nat.reduceAdd, Nat.reduceSub, Nat.reduceLeDiff, Nat.reduceEqDiff, Nat.reduceLT, reduceCtorEq, Aw.pos] <;> rfl) (by simp (config := { maxSteps := 2000000 }) only [go_sem, ↓reduceIte, Int.reduceToNat, Nat.reduceMul, Int.reduceBEq, Int.reduceBNe, Nat.reduceBEq, Nat.reduceAdd, Nat.reduceSub, Nat.reduceLeDiff, Nat.reduceEqDiff, Nat.reduceLT, reduceCtorEq, Aw.renR, Aw.pos] <;> rfl)⟩ ?_
    rintro k st ⟨b, rest, hg, htx, hk, hw⟩
    unfold arR at hw
    refine AWp.weak hw (AWp.block ?_)
    obtain ⟨hbl, hbd⟩ := good_len hg
    have hrs : b.text.size + rest.size = s.size := by rw [← htx, ByteArray.size_append]
    refine AWp.ofD [999] [] hn mixed rfl ?_
    by_cases h10 : (10 : UInt8) ∈ lst rest
    · obtain ⟨l, aft, rfl, hl⟩ := txt_split h10
      have hcut := cut_hit (r := aft) hl
      have hc := s27 (l ++ ⟨#[10]⟩ ++ aft) 10 (by omega)
      rw [hcut] at hc
      simp (config := { maxSteps := 2000000 }) only [go_sem, ↓reduceIte, Int.reduceToNat, Nat.reduceMul, Int.reduceBEq, Int.reduceBNe, Nat.reduceBEq, Nat.reduceAdd, Nat.reduceSub, Nat.reduceLeDiff, Nat.reduceEqDiff, Nat.reduceLT, reduceCtorEq]
      (refine AWpL.calle (hc) rfl (by rw [hn]; rfl) (by simp (config := { maxSteps := 2000000 }) only [go_sem, ↓reduceIte, Int.reduceToNat, Nat.reduceMul, Int.reduceBEq, Int.reduceBNe, Nat.reduceBEq, Nat.reduceAdd, Nat.reduceSub, Nat.reduceLeDiff, Nat.reduceEqDiff, Nat.reduceLT, reduceCtorEq]) (AWpL.ofM hn rfl ?_); simp (config := { maxSteps := 2000000 }) only [go_sem, ↓reduceIte, Int.reduceToNat, Nat.reduceMul, Int.reduceBEq, Int.reduceBNe, Nat.reduceBEq, Nat.reduceAdd, Nat.reduceSub, Nat.reduceLeDiff, Nat.reduceEqDiff, Nat.reduceLT, reduceCtorEq])
      (refine AWpL.calleT (SpecG.at (s28 hP hE l (by rw [ByteArray.size_append, ByteArray.size_append] at hrs; omega)) hT) rfl (by rw [hn]; rfl) (by simp (config := { maxSteps := 2000000 }) only [go_sem, ↓reduceIte, Int.reduceToNat, Nat.reduceMul, Int.reduceBEq, Int.reduceBNe, Nat.reduceBEq, Nat.reduceAdd, Nat.reduceSub, Nat.reduceLeDiff, Nat.reduceEqDiff, Nat.reduceLT, reduceCtorEq]) (AWpL.ofM hn rfl ?_); simp (config := { maxSteps := 2000000 }) only [go_sem, ↓reduceIte, Int.reduceToNat, Nat.reduceMul, Int.reduceBEq, Int.reduceBNe, Nat.reduceBEq, Nat.reduceAdd, Nat.reduceSub, Nat.reduceLeDiff, Nat.reduceEqDiff, Nat.reduceLT, reduceCtorEq])
      have hcan := read_can (l := l)
      have hrd : ∀ e d, evE e = 0 → (32 : UInt8) ∉ lst d → l = lineB e ++ ⟨#[32]⟩ ++ d → readF l = (e, d, true) := fun e d h1 h2 h3 => by rw [h3]; exact read_ok h1 h2
      have hlz : l.size ≤ s.size := by rw [ByteArray.size_append, ByteArray.size_append] at hrs; omega
      generalize readF l = R at *
      obtain ⟨e, d, ok⟩ := R
      dsimp only at hcan ⊢
      have hstop : ¬ (ok = true ∧ hexB (digN b e) = d ∧ appE b e = 0) → ∀ e' z, appE b e' = 0 → l ++ ⟨#[10]⟩ ++ aft ≠ ent b e' ++ z := fun hno e' z he' heq => by
        obtain ⟨h1, h2⟩ := ent_cut he' hl heq
        have h3 := hrd e' (hexB (digN b e')) (appE_ev he') (hexB_no sp_sep _) h1
        simp only [Prod.mk.injEq] at h3
        obtain ⟨rfl, rfl, rfl⟩ := h3
        exact hno ⟨rfl, rfl, he'⟩
      cases ok with
      | false =>
        refine AWp.draw mixed (AWpQ.upto hn 3 rfl rfl ?_)
        simp (config := { maxSteps := 2000000 }) only [go_sem, ↓reduceIte, Int.reduceToNat, Nat.reduceMul, Int.reduceBEq, Int.reduceBNe, Nat.reduceBEq, Nat.reduceAdd, Nat.reduceSub, Nat.reduceLeDiff, Nat.reduceEqDiff, Nat.reduceLT, reduceCtorEq]
        refine AWpQ.skips hn 36 false 10 (by rfl) rfl ?_
        simp (config := { maxSteps := 2000000 }) only [go_sem, ↓reduceIte, Int.reduceToNat, Nat.reduceMul, Int.reduceBEq, Int.reduceBNe, Nat.reduceBEq, Nat.reduceAdd, Nat.reduceSub, Nat.reduceLeDiff, Nat.reduceEqDiff, Nat.reduceLT, reduceCtorEq]
        refine AWpQ.weak (weak_ent 46 (y := .opt false (B false)) (by rfl) Ent.off) (AWpQ.of hn rfl ?_)
        simp (config := { maxSteps := 2000000 }) only [go_sem, ↓reduceIte, Int.reduceToNat, Nat.reduceMul, Int.reduceBEq, Int.reduceBNe, Nat.reduceBEq, Nat.reduceAdd, Nat.reduceSub, Nat.reduceLeDiff, Nat.reduceEqDiff, Nat.reduceLT, reduceCtorEq]
        refine ⟨_, ⟨b, _, ⟨hg, htx, hstop fun h => by cases h.1⟩, rfl⟩, ?_⟩
        exact weak_to [0, 1] hp hnp rfl (by simp (config := { maxSteps := 2000000 }) only [go_sem, ↓reduceIte, Int.reduceToNat, Nat.reduceMul, Int.reduceBEq, Int.reduceBNe, Nat.reduceBEq, Nat.reduceAdd, Nat.reduceSub, Nat.reduceLeDiff, Nat.reduceEqDiff, Nat.reduceLT, reduceCtorEq, Aw.pos] <;> rfl) (by simp (config := { maxSteps := 2000000 }) only [go_sem, ↓reduceIte, Int.reduceToNat, Nat.reduceMul, Int.reduceBEq, Int.reduceBNe, Nat.reduceBEq, Nat.reduceAdd, Nat.reduceSub, Nat.reduceLeDiff, Nat.reduceEqDiff, Nat.reduceLT, reduceCtorEq, Aw.renR, Aw.pos, arR] <;> rfl)
      | true =>
        obtain ⟨hl2, hev⟩ := hcan rfl
        obtain ⟨v1, ⟨v2, v3⟩, v4⟩ := evE_of hev
        have hk8 := kind_size v2
        have hn8 := nm_size v3
        have hew : EvW e := ⟨by omega, by omega⟩
        have hlb := line_size hev
        have hln : Aw.SpecG Γ Tryd.prog 31 [] [ea e] (Gives (· = S (lineB e))) := s31 hP e hew (by omega) (by omega) hk8 hn8
        have hch : Aw.SpecG Γ Tryd.prog 30 [] [.val (.int .u64 b.dig), S (lineB e)] (Gives (· = .val (.int .u64 (digN b e)))) := Spec.g (s30 b.dig (lineB e) hbd (by omega))
        have hfm : Aw.SpecG Γ Tryd.prog 29 [] [.val (.int .u64 (digN b e)), I 16] (Gives (· = S (hexB (digN b e)))) := s29 hD (digN b e) (fnv_lt _ _)
        obtain ⟨H, hH⟩ : ∃ H, H = hexB (digN b e) := ⟨_, rfl⟩
        rw [← hH] at hfm
        refine AWp.draw mixed (AWpQ.upto hn 8 rfl rfl ?_)
        simp (config := { maxSteps := 2000000 }) only [go_sem, ↓reduceIte, Int.reduceToNat, Nat.reduceMul, Int.reduceBEq, Int.reduceBNe, Nat.reduceBEq, Nat.reduceAdd, Nat.reduceSub, Nat.reduceLeDiff, Nat.reduceEqDiff, Nat.reduceLT, reduceCtorEq]
        refine AWpQ.gcalleT (b := true) (y := .string (lineB e)) (by rfl) (fun _ => by simp (config := { maxSteps := 2000000 }) only [go_sem, ↓reduceIte, Int.reduceToNat, Nat.reduceMul, Int.reduceBEq, Int.reduceBNe, Nat.reduceBEq, Nat.reduceAdd, Nat.reduceSub, Nat.reduceLeDiff, Nat.reduceEqDiff, Nat.reduceLT, reduceCtorEq]; exact SpecG.at hln hT) (by rw [hn]; rfl) (fun _ => by simp (config := { maxSteps := 2000000 }) only [go_sem, ↓reduceIte, Int.reduceToNat, Nat.reduceMul, Int.reduceBEq, Int.reduceBNe, Nat.reduceBEq, Nat.reduceAdd, Nat.reduceSub, Nat.reduceLeDiff, Nat.reduceEqDiff, Nat.reduceLT, reduceCtorEq]) ?_
        simp (config := { maxSteps := 2000000 }) only [go_sem, ↓reduceIte, Int.reduceToNat, Nat.reduceMul, Int.reduceBEq, Int.reduceBNe, Nat.reduceBEq, Nat.reduceAdd, Nat.reduceSub, Nat.reduceLeDiff, Nat.reduceEqDiff, Nat.reduceLT, reduceCtorEq]
        refine AWpQ.gcalleT (b := true) (y := .int .u64 (digN b e)) (by rfl) (fun _ => by simp (config := { maxSteps := 2000000 }) only [go_sem, ↓reduceIte, Int.reduceToNat, Nat.reduceMul, Int.reduceBEq, Int.reduceBNe, Nat.reduceBEq, Nat.reduceAdd, Nat.reduceSub, Nat.reduceLeDiff, Nat.reduceEqDiff, Nat.reduceLT, reduceCtorEq]; exact SpecG.at hch hT) (by rw [hn]; rfl) (fun _ => by simp (config := { maxSteps := 2000000 }) only [go_sem, ↓reduceIte, Int.reduceToNat, Nat.reduceMul, Int.reduceBEq, Int.reduceBNe, Nat.reduceBEq, Nat.reduceAdd, Nat.reduceSub, Nat.reduceLeDiff, Nat.reduceEqDiff, Nat.reduceLT, reduceCtorEq]) ?_
        simp (config := { maxSteps := 2000000 }) only [go_sem, ↓reduceIte, Int.reduceToNat, Nat.reduceMul, Int.reduceBEq, Int.reduceBNe, Nat.reduceBEq, Nat.reduceAdd, Nat.reduceSub, Nat.reduceLeDiff, Nat.reduceEqDiff, Nat.reduceLT, reduceCtorEq]
        refine AWpQ.gcalleT (b := true) (y := .string H) (by rfl) (fun _ => by simp (config := { maxSteps := 2000000 }) only [go_sem, ↓reduceIte, Int.reduceToNat, Nat.reduceMul, Int.reduceBEq, Int.reduceBNe, Nat.reduceBEq, Nat.reduceAdd, Nat.reduceSub, Nat.reduceLeDiff, Nat.reduceEqDiff, Nat.reduceLT, reduceCtorEq]; exact SpecG.at hfm hT) (by rw [hn]; rfl) (fun _ => by simp (config := { maxSteps := 2000000 }) only [go_sem, ↓reduceIte, Int.reduceToNat, Nat.reduceMul, Int.reduceBEq, Int.reduceBNe, Nat.reduceBEq, Nat.reduceAdd, Nat.reduceSub, Nat.reduceLeDiff, Nat.reduceEqDiff, Nat.reduceLT, reduceCtorEq]) ?_
        simp (config := { maxSteps := 2000000 }) only [go_sem, ↓reduceIte, Int.reduceToNat, Nat.reduceMul, Int.reduceBEq, Int.reduceBNe, Nat.reduceBEq, Nat.reduceAdd, Nat.reduceSub, Nat.reduceLeDiff, Nat.reduceEqDiff, Nat.reduceLT, reduceCtorEq]
        refine AWpQ.of hn rfl ?_
        simp (config := { maxSteps := 2000000 }) only [go_sem, ↓reduceIte, Int.reduceToNat, Nat.reduceMul, Int.reduceBEq, Int.reduceBNe, Nat.reduceBEq, Nat.reduceAdd, Nat.reduceSub, Nat.reduceLeDiff, Nat.reduceEqDiff, Nat.reduceLT, reduceCtorEq]
        refine ⟨fun hne => ?_, fun heq => ?_⟩
        · refine ⟨_, ⟨b, _, ⟨hg, htx, hstop fun h => ?_⟩, rfl⟩, ?_⟩
          · rw [hH, h.2.1] at hne
            simp at hne
          · exact weak_to [0, 1] hp hnp rfl (by simp (config := { maxSteps := 2000000 }) only [go_sem, ↓reduceIte, Int.reduceToNat, Nat.reduceMul, Int.reduceBEq, Int.reduceBNe, Nat.reduceBEq, Nat.reduceAdd, Nat.reduceSub, Nat.reduceLeDiff, Nat.reduceEqDiff, Nat.reduceLT, reduceCtorEq, Aw.pos] <;> rfl) (by simp (config := { maxSteps := 2000000 }) only [go_sem, ↓reduceIte, Int.reduceToNat, Nat.reduceMul, Int.reduceBEq, Int.reduceBNe, Nat.reduceBEq, Nat.reduceAdd, Nat.reduceSub, Nat.reduceLeDiff, Nat.reduceEqDiff, Nat.reduceLT, reduceCtorEq, Aw.renR, Aw.pos, arR] <;> rfl)
        have hd : hexB (digN b e) = d := by
          simp only [Bool.not_eq_false', beq_iff_eq] at heq
          rw [Lib.toList_data, Lib.toList_data] at heq
          rw [← hH]
          exact lst_inj heq
        refine AWpL.callAT [0, 1] (SpecG.at (s18 hP hD b e hew hbl (by omega) hbd) hT) rfl rfl (by rw [hn]; rfl) rfl (fun r hr => .inr (pin r)) fun rg v' hv => ?_
        obtain ⟨rfl, rfl⟩ := hv
        refine ⟨Nat.le_refl _, AWpL.ofM hn rfl ?_⟩
        by_cases happ : appE b e = 0
        · have hgn : Good (appD b e) := .step hg happ
          have htn : (appD b e).text ++ aft = s := by
            rw [appD_of happ, ← htx, hl2, ← hd]
            show b.text ++ ent b e ++ aft = _
            unfold ent
            rw [ByteArray.append_assoc]
          rw [happ]
          generalize appD b e = b' at *
          have hlk : aft.size < k := by
            rw [ByteArray.size_append, ByteArray.size_append] at hk
            have h1 : (⟨#[10]⟩ : ByteArray).size = 1 := rfl
            omega
          simp (config := { maxSteps := 2000000 }) only [go_sem, ↓reduceIte, Int.reduceToNat, Nat.reduceMul, Int.reduceBEq, Int.reduceBNe, Nat.reduceBEq, Nat.reduceAdd, Nat.reduceSub, Nat.reduceLeDiff, Nat.reduceEqDiff, Nat.reduceLT, reduceCtorEq, Aw.retS, Aw.retRg, Aw.kpM, Aw.bkM, Aw.pos, Aw.isBox, arR]
          exact ⟨aft.size, hlk, b', aft, hgn, htn, rfl, weak_to [0, 1] hp hnp rfl (by simp (config := { maxSteps := 2000000 }) only [go_sem, ↓reduceIte, Int.reduceToNat, Nat.reduceMul, Int.reduceBEq, Int.reduceBNe, Nat.reduceBEq, Nat.reduceAdd, Nat.reduceSub, Nat.reduceLeDiff, Nat.reduceEqDiff, Nat.reduceLT, reduceCtorEq, Aw.pos] <;> rfl) (by simp (config := { maxSteps := 2000000 }) only [go_sem, ↓reduceIte, Int.reduceToNat, Nat.reduceMul, Int.reduceBEq, Int.reduceBNe, Nat.reduceBEq, Nat.reduceAdd, Nat.reduceSub, Nat.reduceLeDiff, Nat.reduceEqDiff, Nat.reduceLT, reduceCtorEq, Aw.renR, Aw.pos, arR] <;> rfl)⟩
        · have hne0 : (appE b e != 0) = true := by rw [bne_iff_ne]; exact happ
          rw [appD_not happ]
          simp (config := { maxSteps := 2000000 }) only [go_sem, ↓reduceIte, Int.reduceToNat, Nat.reduceMul, Int.reduceBEq, Int.reduceBNe, Nat.reduceBEq, Nat.reduceAdd, Nat.reduceSub, Nat.reduceLeDiff, Nat.reduceEqDiff, Nat.reduceLT, reduceCtorEq, Aw.retS, Aw.retRg, Aw.kpM, Aw.bkM, Aw.pos, Aw.isBox, arR, hne0]
          refine ⟨_, ⟨b, _, ⟨hg, htx, hstop fun h => happ h.2.2⟩, rfl⟩, ?_⟩
          exact weak_to [0, 1] hp hnp rfl (by simp (config := { maxSteps := 2000000 }) only [go_sem, ↓reduceIte, Int.reduceToNat, Nat.reduceMul, Int.reduceBEq, Int.reduceBNe, Nat.reduceBEq, Nat.reduceAdd, Nat.reduceSub, Nat.reduceLeDiff, Nat.reduceEqDiff, Nat.reduceLT, reduceCtorEq, Aw.pos] <;> rfl) (by simp (config := { maxSteps := 2000000 }) only [go_sem, ↓reduceIte, Int.reduceToNat, Nat.reduceMul, Int.reduceBEq, Int.reduceBNe, Nat.reduceBEq, Nat.reduceAdd, Nat.reduceSub, Nat.reduceLeDiff, Nat.reduceEqDiff, Nat.reduceLT, reduceCtorEq, Aw.renR, Aw.pos, arR] <;> rfl)
    · have hcut := cut_miss h10
      have hc := s27 rest 10 (by omega)
      rw [hcut] at hc
      simp (config := { maxSteps := 2000000 }) only [go_sem, ↓reduceIte, Int.reduceToNat, Nat.reduceMul, Int.reduceBEq, Int.reduceBNe, Nat.reduceBEq, Nat.reduceAdd, Nat.reduceSub, Nat.reduceLeDiff, Nat.reduceEqDiff, Nat.reduceLT, reduceCtorEq]
      (refine AWpL.calle (hc) rfl (by rw [hn]; rfl) (by simp (config := { maxSteps := 2000000 }) only [go_sem, ↓reduceIte, Int.reduceToNat, Nat.reduceMul, Int.reduceBEq, Int.reduceBNe, Nat.reduceBEq, Nat.reduceAdd, Nat.reduceSub, Nat.reduceLeDiff, Nat.reduceEqDiff, Nat.reduceLT, reduceCtorEq]) (AWpL.ofM hn rfl ?_); simp (config := { maxSteps := 2000000 }) only [go_sem, ↓reduceIte, Int.reduceToNat, Nat.reduceMul, Int.reduceBEq, Int.reduceBNe, Nat.reduceBEq, Nat.reduceAdd, Nat.reduceSub, Nat.reduceLeDiff, Nat.reduceEqDiff, Nat.reduceLT, reduceCtorEq])
      refine ⟨_, ⟨b, rest, ⟨hg, htx, fun e z he hr => h10 (by rw [hr]; exact ent_nl b e z)⟩, rfl⟩, ?_⟩
      exact weak_to [0, 1] hp hnp rfl (by simp (config := { maxSteps := 2000000 }) only [go_sem, ↓reduceIte, Int.reduceToNat, Nat.reduceMul, Int.reduceBEq, Int.reduceBNe, Nat.reduceBEq, Nat.reduceAdd, Nat.reduceSub, Nat.reduceLeDiff, Nat.reduceEqDiff, Nat.reduceLT, reduceCtorEq, Aw.pos] <;> rfl) (by simp (config := { maxSteps := 2000000 }) only [go_sem, ↓reduceIte, Int.reduceToNat, Nat.reduceMul, Int.reduceBEq, Int.reduceBNe, Nat.reduceBEq, Nat.reduceAdd, Nat.reduceSub, Nat.reduceLeDiff, Nat.reduceEqDiff, Nat.reduceLT, reduceCtorEq, Aw.renR, Aw.pos, arR] <;> rfl)
  · rintro s0 ⟨b, rest, hb, rfl⟩
    obtain ⟨hbl, hbd⟩ := good_len hb.good
    refine AWp.ofD [0, 1, 999] [] hn mixed rfl ?_
    simp (config := { maxSteps := 2000000 }) only [go_sem, ↓reduceIte, Int.reduceToNat, Nat.reduceMul, Int.reduceBEq, Int.reduceBNe, Nat.reduceBEq, Nat.reduceAdd, Nat.reduceSub, Nat.reduceLeDiff, Nat.reduceEqDiff, Nat.reduceLT, reduceCtorEq, arR]
    refine AWp.draw mixed (AWpQ.of hn rfl ?_)
    simp (config := { maxSteps := 2000000 }) only [go_sem, ↓reduceIte, Int.reduceToNat, Nat.reduceMul, Int.reduceBEq, Int.reduceBNe, Nat.reduceBEq, Nat.reduceAdd, Nat.reduceSub, Nat.reduceLeDiff, Nat.reduceEqDiff, Nat.reduceLT, reduceCtorEq]
    refine Retn.ret (π := [0, 1]) hp hnp ⟨rfl, ?_⟩
    simp (config := { maxSteps := 2000000 }) only [go_sem, ↓reduceIte, Int.reduceToNat, Nat.reduceMul, Int.reduceBEq, Int.reduceBNe, Nat.reduceBEq, Nat.reduceAdd, Nat.reduceSub, Nat.reduceLeDiff, Nat.reduceEqDiff, Nat.reduceLT, reduceCtorEq, Aw.renR, Aw.pos, arR]
    exact ⟨b, rest, hb, rfl, rfl⟩
end Go.Proofs.YtemgclhenkbikaaDoor
