/- Forecasts: sums, the line of least squares. -/
import Derived.Test.YtjaakbkneeojnaaDoorAwZl
import Derived.Test.YtjaakbkneeojnaaDoorRatG
set_option linter.unusedVariables false
set_option linter.unusedSimpArgs false
namespace Go.Proofs.YtjaakbkneeojnaaDoor
open Go.Proofs.YtjaakbkneeojnaaDoor.Aw
attribute [local go_sem] Int.natCast_zero Int.natCast_one bne_self_eq_false beq_self_eq_true Bool.not_true Bool.not_false Option.isSome_none Option.isSome_some Aw.bkM_nil Option.getD_some Option.getD_none Nat.sub_zero Int.toNat_zero Aw.frzS Aw.frzT Aw.frzA Aw.frzL Aw.frzR Aw.frzO Aw.frzOL Aw.frzOT Aw.frzOR Aw.killS Aw.mapT Aw.mapR Aw.killM Aw.resAVs Aw.resAV Aw.quietOps Aw.wpP Aw.wpT Aw.wpS Aw.AOp.mild List.getElem?_cons_zero List.getElem?_cons_succ Bool.and_false Bool.and_self Bool.false_and Aw.opOb Aw.gdB Aw.Rnd Aw.subTm List.length_map Int.toNat_natCast and_self Aw.SeqC Aw.stops Aw.Ends Aw.looks Aw.renA Aw.renL Aw.renT Aw.renS Aw.wpO Aw.aop Aw.putTm Aw.St.ev Aw.St.put Aw.St.putO Aw.binAV Aw.intBin Aw.strBin Aw.pickAV Aw.optInt Aw.AV.strip Aw.AV.guard Aw.AV.cells Aw.gdOb Aw.AOp.opds Aw.AOp.still Aw.ptrCells Aw.St.reg Aw.fillAV Aw.fillOb Aw.elsOb Aw.splice Aw.firm Aw.cellish Aw.AV.shut Aw.shutAll Aw.Seq Aw.Blk Aw.retS_nil Aw.mapA Aw.mapL Aw.borA Aw.borOb Aw.allOb Aw.tupOf Aw.params Aw.Opd.of Array.toList Value.cells List.map_cons List.map_nil List.getD_cons_zero List.getD_cons_succ List.getD_nil List.length_cons List.length_nil List.take_succ_cons List.take_zero List.take_nil List.drop_zero List.drop_succ_cons List.drop_nil List.set_cons_zero List.set_cons_succ List.append_nil List.nil_append List.cons_append List.all_cons List.all_nil cond_false cond_true if_true if_false true_and and_true Bool.and_true Bool.true_and Option.map_some Option.map_none false_implies forall_const implies_true forall_eq imp_self Bool.cond_false_right Bool.cond_true_left beq_true beq_false Bool.not_eq_true' Bool.false_eq_true Nat.zero_add Nat.add_zero Aw.eqCells Aw.stopDraw Aw.skipS Aw.exactCap Aw.revealS Aw.srcEls Aw.srcSz
attribute [local go_sem ↓] Aw.look_nil Aw.look_ite Aw.wpL_nil Aw.wpL_op Aw.wpL_gd Aw.wpQ_nil Aw.wpQ_op Aw.wpQ_gd Aw.wpC_draw Aw.wpC_reg Aw.wpC_skip Aw.wpC_ret Aw.wpC_exit Aw.wpC_seq Aw.wpC_block Aw.wpC_loop Aw.wpC_cond Aw.stopAt_nil Aw.stopAt_cons Aw.wpD_skip Aw.wpD_ret Aw.wpD_exit Aw.wpD_region Aw.wpD_draw Aw.wpM_nil Aw.wpM_op Aw.wpM_gd Aw.wpD_seq Aw.wpD_block Aw.wpD_loop Aw.wpD_cond
/- gridhall/forecast.Check -/
def a59 : ACode :=
  (.seq (.region false [] [
     ⟨(some 2), none, (.mov (.v (.int .i64 0)))⟩])
  (.seq (.seq (.region false [] [
     ⟨(some 5), none, (.mov (.t 0))⟩,
     ⟨(some 6), none, (.len (.t 5))⟩,
     ⟨(some 7), none, (.bin .gtr 3 (.t 6) (.v (.int .i64 48)))⟩])
  (.cond (.t 7)
    (.seq (.region false [] [
       ⟨(some 2), none, (.mov (.v (.int .i64 2)))⟩])
    .ret)
    .skip))
  (.seq (.seq (.region false [] [
     ⟨(some 8), none, (.mov (.t 0))⟩,
     ⟨(some 9), none, (.len (.t 8))⟩,
     ⟨(some 10), none, (.mov (.v (.int .i64 0)))⟩])
  (.block 0 (.loop (.seq (.region false [] [
       ⟨(some 11), none, (.bin .lss 3 (.t 10) (.t 9))⟩])
    (.seq (.cond (.t 11)
      .skip
      (.exit 0))
    (.seq (.block 1 (.seq (.region false [] [
        ⟨(some 12), none, (.idx 1 (.t 8) (.t 10))⟩,
        ⟨(some 13), none, (.load 1 false (.t 12))⟩,
        ⟨(some 4), none, (.mov (.t 13))⟩])
     (.seq (.region false [] [
        ⟨(some 14), none, (.mov (.t 4))⟩,
        ⟨(some 15), none, (.bin .lss 3 (.t 14) (.v (.int .i64 (-100000))))⟩,
        ⟨(some 16), none, (.mov (.t 15))⟩,
        ⟨(some 17), (some (16, false)), (.mov (.t 4))⟩,
        ⟨(some 18), (some (16, false)), (.bin .gtr 3 (.t 17) (.v (.int .i64 100000)))⟩,
        ⟨(some 19), none, (.pick (.t 16) (.v (.bool true)) (.t 18))⟩])
     (.cond (.t 19)
       (.seq (.region false [] [
          ⟨(some 2), none, (.mov (.v (.int .i64 4)))⟩])
       .ret)
       .skip))))
    (.region false [] [
       ⟨(some 20), none, (.bin .add 3 (.t 10) (.v (.int .i64 1)))⟩,
       ⟨(some 10), none, (.mov (.t 20))⟩])))))))
  (.seq (.region false [] [
     ⟨(some 2), none, (.mov (.v (.int .i64 0)))⟩])
  .ret))))
theorem k59 : FnIs Tryd.prog 59 21 [.t 2] a59 := ⟨_, _, Tryd.func59, rfl, by kernel_rfl, by kernel_rfl, rfl⟩
/- gridhall/forecast.total -/
def a60 : ACode :=
  (.seq (.region false [] [
     ⟨(some 2), none, (.mov (.v (.int .i64 0)))⟩])
  (.seq (.region false [] [
     ⟨(some 3), none, (.mov (.v (.int .i64 0)))⟩])
  (.seq (.seq (.region false [] [
     ⟨(some 6), none, (.mov (.t 0))⟩,
     ⟨(some 7), none, (.len (.t 6))⟩,
     ⟨(some 8), none, (.mov (.v (.int .i64 0)))⟩])
  (.block 0 (.loop (.seq (.region false [] [
       ⟨(some 9), none, (.bin .lss 3 (.t 8) (.t 7))⟩])
    (.seq (.cond (.t 9)
      .skip
      (.exit 0))
    (.seq (.block 1 (.seq (.region false [] [
        ⟨(some 10), none, (.idx 1 (.t 6) (.t 8))⟩,
        ⟨(some 11), none, (.load 1 false (.t 10))⟩,
        ⟨(some 5), none, (.mov (.t 11))⟩])
     (.region false [] [
        ⟨(some 12), none, (.mov (.t 3))⟩,
        ⟨(some 13), none, (.mov (.t 5))⟩,
        ⟨(some 14), none, (.bin .add 3 (.t 12) (.t 13))⟩,
        ⟨(some 3), none, (.mov (.t 14))⟩])))
    (.region false [] [
       ⟨(some 15), none, (.bin .add 3 (.t 8) (.v (.int .i64 1)))⟩,
       ⟨(some 8), none, (.mov (.t 15))⟩])))))))
  (.seq (.region false [] [
     ⟨(some 16), none, (.mov (.t 3))⟩,
     ⟨(some 2), none, (.mov (.t 16))⟩])
  .ret))))
theorem k60 : FnIs Tryd.prog 60 17 [.t 2] a60 := ⟨_, _, Tryd.func60, rfl, by kernel_rfl, by kernel_rfl, rfl⟩
/- gridhall/forecast.Mean -/
def a31 : ACode :=
  (.seq (.region false [] [
     ⟨(some 4), none, (.mov (.v (.string ⟨#[]⟩)))⟩,
     ⟨(some 5), none, (.mov (.v (.int .i64 0)))⟩])
  (.seq (.seq (.region false [] [
     ⟨(some 7), none, (.mov (.t 0))⟩,
     ⟨(some 8), none, (.call 59 [(.t 7)])⟩,
     ⟨(some 6), none, (.mov (.t 8))⟩])
  (.seq (.region false [] [
     ⟨(some 9), none, (.mov (.t 6))⟩,
     ⟨(some 10), none, (.bin .neq 25 (.t 9) (.v (.int .i64 0)))⟩])
  (.cond (.t 10)
    (.seq (.region false [] [
       ⟨(some 11), none, (.mov (.t 6))⟩,
       ⟨(some 4), none, (.mov (.v (.string ⟨#[]⟩)))⟩,
       ⟨(some 5), none, (.mov (.t 11))⟩])
    .ret)
    .skip)))
  (.seq (.seq (.region false [] [
     ⟨(some 12), none, (.mov (.t 1))⟩,
     ⟨(some 13), none, (.bin .lss 3 (.t 12) (.v (.int .i64 1)))⟩,
     ⟨(some 14), none, (.mov (.t 13))⟩,
     ⟨(some 15), (some (14, false)), (.mov (.t 1))⟩,
     ⟨(some 16), (some (14, false)), (.mov (.t 0))⟩,
     ⟨(some 17), (some (14, false)), (.len (.t 16))⟩,
     ⟨(some 18), (some (14, false)), (.bin .gtr 3 (.t 15) (.t 17))⟩,
     ⟨(some 19), none, (.pick (.t 14) (.v (.bool true)) (.t 18))⟩])
  (.cond (.t 19)
    (.seq (.region false [] [
       ⟨(some 4), none, (.mov (.v (.string ⟨#[]⟩)))⟩,
       ⟨(some 5), none, (.mov (.v (.int .i64 1)))⟩])
    .ret)
    .skip))
  (.seq (.region false [] [
     ⟨(some 20), none, (.mov (.t 0))⟩,
     ⟨(some 21), none, (.mov (.t 0))⟩,
     ⟨(some 22), none, (.len (.t 21))⟩,
     ⟨(some 23), none, (.mov (.t 1))⟩,
     ⟨(some 24), none, (.bin .sub 3 (.t 22) (.t 23))⟩,
     ⟨(some 25), none, (.slc 1 (.t 20) (some (.t 24)) none none)⟩,
     ⟨(some 26), none, (.call 60 [(.t 25)])⟩,
     ⟨(some 27), none, (.mov (.t 1))⟩,
     ⟨(some 28), none, (.call 20 [(.t 26), (.t 27)])⟩,
     ⟨(some 29), none, (.ext 0 (.t 28))⟩,
     ⟨(some 30), none, (.ext 1 (.t 28))⟩,
     ⟨(some 4), none, (.mov (.t 29))⟩,
     ⟨(some 5), none, (.mov (.t 30))⟩])
  .ret))))
theorem k31 : FnIs Tryd.prog 31 31 [.t 4, .t 5] a31 := ⟨_, _, Tryd.func31, rfl, by kernel_rfl, by kernel_rfl, rfl⟩
/- gridhall/forecast.line -/
def a54 : ACode :=
  (.seq (.region false [] [
     ⟨(some 2), none, (.alloc 62 (.agg #[(.bool false), (.slice none 0 0), (.slice none 0 0)]))⟩,
     ⟨(some 3), none, (.alloc 62 (.agg #[(.bool false), (.slice none 0 0), (.slice none 0 0)]))⟩])
  (.seq (.region false [] [
     ⟨(some 12), none, (.mov (.t 0))⟩,
     ⟨(some 13), none, (.len (.t 12))⟩,
     ⟨(some 14), none, (.mov (.t 0))⟩,
     ⟨(some 15), none, (.call 60 [(.t 14)])⟩,
     ⟨(some 4), none, (.mov (.t 13))⟩,
     ⟨(some 5), none, (.mov (.t 15))⟩,
     ⟨(some 6), none, (.mov (.v (.int .i64 0)))⟩,
     ⟨(some 7), none, (.mov (.v (.int .i64 0)))⟩])
  (.seq (.region false [] [
     ⟨(some 16), none, (.mov (.t 4))⟩,
     ⟨(some 17), none, (.mov (.t 4))⟩,
     ⟨(some 18), none, (.bin .sub 3 (.t 17) (.v (.int .i64 1)))⟩,
     ⟨(some 19), none, (.bin .mul 3 (.t 16) (.t 18))⟩,
     ⟨(some 20), none, (.bin .quo 3 (.t 19) (.v (.int .i64 2)))⟩,
     ⟨(some 8), none, (.mov (.t 20))⟩])
  (.seq (.seq (.region false [] [
     ⟨(some 21), none, (.mov (.t 0))⟩,
     ⟨(some 22), none, (.len (.t 21))⟩,
     ⟨(some 23), none, (.mov (.v (.int .i64 0)))⟩])
  (.block 0 (.loop (.seq (.region false [] [
       ⟨(some 24), none, (.bin .lss 3 (.t 23) (.t 22))⟩])
    (.seq (.cond (.t 24)
      .skip
      (.exit 0))
    (.seq (.block 1 (.seq (.region false [] [
        ⟨(some 25), none, (.mov (.t 23))⟩,
        ⟨(some 26), none, (.idx 1 (.t 21) (.t 23))⟩,
        ⟨(some 27), none, (.load 1 false (.t 26))⟩,
        ⟨(some 9), none, (.mov (.t 25))⟩,
        ⟨(some 10), none, (.mov (.t 27))⟩])
     (.seq (.region false [] [
        ⟨(some 28), none, (.mov (.t 6))⟩,
        ⟨(some 29), none, (.mov (.t 9))⟩,
        ⟨(some 30), none, (.mov (.t 9))⟩,
        ⟨(some 31), none, (.bin .mul 3 (.t 29) (.t 30))⟩,
        ⟨(some 32), none, (.bin .add 3 (.t 28) (.t 31))⟩,
        ⟨(some 6), none, (.mov (.t 32))⟩])
     (.region false [] [
        ⟨(some 33), none, (.mov (.t 7))⟩,
        ⟨(some 34), none, (.mov (.t 9))⟩,
        ⟨(some 35), none, (.mov (.t 10))⟩,
        ⟨(some 36), none, (.bin .mul 3 (.t 34) (.t 35))⟩,
        ⟨(some 37), none, (.bin .add 3 (.t 33) (.t 36))⟩,
        ⟨(some 7), none, (.mov (.t 37))⟩]))))
    (.region false [] [
       ⟨(some 38), none, (.bin .add 3 (.t 23) (.v (.int .i64 1)))⟩,
       ⟨(some 23), none, (.mov (.t 38))⟩])))))))
  (.seq (.region false [] [
     ⟨(some 39), none, (.mov (.t 4))⟩,
     ⟨(some 40), none, (.mov (.t 7))⟩,
     ⟨(some 41), none, (.bin .mul 3 (.t 39) (.t 40))⟩,
     ⟨(some 42), none, (.mov (.t 8))⟩,
     ⟨(some 43), none, (.mov (.t 5))⟩,
     ⟨(some 44), none, (.bin .mul 3 (.t 42) (.t 43))⟩,
     ⟨(some 45), none, (.bin .sub 3 (.t 41) (.t 44))⟩,
     ⟨(some 46), none, (.call 42 [(.t 45)])⟩,
     ⟨(some 47), none, (.mov (.t 4))⟩,
     ⟨(some 48), none, (.mov (.t 6))⟩,
     ⟨(some 49), none, (.bin .mul 3 (.t 47) (.t 48))⟩,
     ⟨(some 50), none, (.mov (.t 8))⟩,
     ⟨(some 51), none, (.mov (.t 8))⟩,
     ⟨(some 52), none, (.bin .mul 3 (.t 50) (.t 51))⟩,
     ⟨(some 53), none, (.bin .sub 3 (.t 49) (.t 52))⟩,
     ⟨(some 54), none, (.call 42 [(.t 53)])⟩,
     ⟨(some 55), none, (.call 52 [(.t 46), (.t 54)])⟩,
     ⟨(some 11), none, (.alloc 62 (.agg #[(.bool false), (.slice none 0 0), (.slice none 0 0)]))⟩,
     ⟨none, none, (.store 3 (.t 11) (.t 55))⟩])
  (.seq (.region true [[], [], [1], [], [], [4, 2], [3, 5, 5], [2, 6, 6], [], [8, 7], [7, 9, 9], [0, 10, 0], [10, 11, 0, 1, 2, 3, 4, 5, 6, 7, 8, 9, 10, 11]] [
     ⟨(some 56), none, (.load 3 true (.t 11))⟩,
     ⟨(some 57), none, (.mov (.t 5))⟩,
     ⟨(some 58), none, (.call 42 [(.t 57)])⟩,
     ⟨(some 59), none, (.load 3 true (.t 11))⟩,
     ⟨(some 60), none, (.mov (.t 8))⟩,
     ⟨(some 61), none, (.call 42 [(.t 60)])⟩,
     ⟨(some 62), none, (.call 43 [(.t 59), (.t 61)])⟩,
     ⟨(some 63), none, (.call 48 [(.t 58), (.t 62)])⟩,
     ⟨(some 64), none, (.mov (.t 4))⟩,
     ⟨(some 65), none, (.call 42 [(.t 64)])⟩,
     ⟨(some 66), none, (.call 52 [(.t 63), (.t 65)])⟩,
     ⟨none, none, (.store 3 (.t 2) (.t 56))⟩,
     ⟨none, none, (.store 3 (.t 3) (.t 66))⟩])
  .ret))))))
theorem k54 : FnIs Tryd.prog 54 67 [.c 2 3 true, .c 3 3 true] a54 := ⟨_, _, Tryd.func54, rfl, by kernel_rfl, by kernel_rfl, rfl⟩

abbrev icn (n : Int) : List AV := [I n]
abbrev ints (nl' : Option Bool) (fl : Bool) (l : List Int) : AV := .imm nl' fl 1 (l.map icn)
/-- Values in order. -/
def valsOk (l : List Int) : Prop := ∀ v ∈ l, -100000 ≤ v ∧ v ≤ 100000
instance (l : List Int) : Decidable (valsOk l) := by unfold valsOk; infer_instance
def checkV (l : List Int) : Int := if l.length > 48 then 2 else if valsOk l then 0 else 4
theorem checkV_ok {l : List Int} (h : checkV l = 0) : l.length ≤ 48 ∧ valsOk l := by
  unfold checkV at h
  split at h
  · cases h
  · split at h
    · exact ⟨by omega, by assumption⟩
    · cases h
theorem s59 (nl' fl) (l : List Int) (hl : l.length ≤ 9223372036854775807) : Aw.Spec Tryd.prog 59 [] [ints nl' fl l] (Gives (· = I (checkV l))) := by
  refine Aw.Spec.givesD k59 mixed rfl rfl rfl fun E hn hnp hp => ?_
  unfold a59
  simp (config := { maxSteps := 2000000 }) only [go_sem, ↓reduceIte, Int.reduceToNat, Nat.reduceMul, Int.reduceBEq, Int.reduceBNe, Nat.reduceBEq, Nat.reduceAdd, Nat.reduceSub, Nat.reduceLeDiff, Nat.reduceEqDiff, Nat.reduceLT, reduceCtorEq]
  unfold checkV
  refine ⟨fun h => ?_, fun h => ?_⟩
  · rw [if_pos (by have := of_decide_eq_true h; omega)]
  have h48 : l.length ≤ 48 := by have := of_decide_eq_false h; omega
  rw [if_neg (by omega)]
  refine AWp.loop (fun k s => ∃ i : Nat, i + k = l.length ∧ valsOk (l.take i) ∧ Weak E s ⟨[(8, ints nl' fl l), (9, I l.length), (10, I i)], []⟩) (n := l.length)
    ⟨0, by omega, fun v hv => (by cases hv), weak_to [] hp hnp rfl (by simp (config := { maxSteps := 2000000 }) only [go_sem, ↓reduceIte, Int.reduceToNat, Nat.reduceMul, Int.reduceBEq, Int.reduceBNe, Nat.reduceBEq, Nat.reduceAdd, Nat.reduceSub, Nat.reduceLeDiff, Nat.reduceEqDiff, Nat.reduceLT, reduceCtorEq] <;> exact ⟨rfl, rfl⟩) rfl⟩ ?_
  rintro k s ⟨i, hi, hok, hw⟩
  refine AWp.weak hw (AWp.ofD [] [] hn mixed rfl ?_)
  rcases Nat.lt_or_ge i l.length with hlt | hge
  · have e0 : decide ((i : Int) < (l.length : Int)) = true := decide_eq_true (by omega)
    have e1 := getD_map icn hlt
    have e2 : IntKind.i64.wrap ((i : Int) + 1) = ((i + 1 : Nat) : Int) := by rw [w64 (by omega) (by omega)]; rfl
    simp (config := { maxSteps := 2000000 }) only [go_sem, ↓reduceIte, Int.reduceToNat, Nat.reduceMul, Int.reduceBEq, Int.reduceBNe, Nat.reduceBEq, Nat.reduceAdd, Nat.reduceSub, Nat.reduceLeDiff, Nat.reduceEqDiff, Nat.reduceLT, reduceCtorEq, e0, e1, e2]
    (repeat (refine And.intro (by first | omega | (refine ⟨by omega, by omega⟩) | (refine ⟨by omega, by omega, by omega⟩) | (simp only [List.length_map, List.length_range, List.length_append, List.length_cons, List.length_nil, List.length_replicate, List.length_set]; omega) | (simp; omega) | (intro hgd; cases hgd) | (intro hgd; refine ⟨hgd, ?_⟩; first | omega | (refine ⟨by omega, by omega⟩) | (simp; omega))) ?_))
    refine ⟨fun h2 => ?_, fun h2 => ?_⟩
    · simp only [Bool.or_eq_true, decide_eq_true_eq] at h2
      rw [if_neg]
      intro h3
      have := h3 l[i] (List.getElem_mem hlt)
      omega
    · simp only [Bool.or_eq_false_iff, decide_eq_false_iff_not] at h2
      refine ⟨k - 1, by omega, i + 1, by omega, fun v hv => ?_, weak_to [] hp hnp rfl (by simp (config := { maxSteps := 2000000 }) only [go_sem, ↓reduceIte, Int.reduceToNat, Nat.reduceMul, Int.reduceBEq, Int.reduceBNe, Nat.reduceBEq, Nat.reduceAdd, Nat.reduceSub, Nat.reduceLeDiff, Nat.reduceEqDiff, Nat.reduceLT, reduceCtorEq, e2]) rfl⟩
      rw [take_get hlt] at hv
      rcases List.mem_append.1 hv with hv | hv
      · exact hok v hv
      · rw [List.mem_singleton.1 hv]; omega
  · have e0 : decide ((i : Int) < (l.length : Int)) = false := decide_eq_false (by omega)
    simp (config := { maxSteps := 2000000 }) only [go_sem, ↓reduceIte, Int.reduceToNat, Nat.reduceMul, Int.reduceBEq, Int.reduceBNe, Nat.reduceBEq, Nat.reduceAdd, Nat.reduceSub, Nat.reduceLeDiff, Nat.reduceEqDiff, Nat.reduceLT, reduceCtorEq, e0]
    rw [List.take_of_length_le hge] at hok
    rw [if_pos hok]
/-- The sum of values. -/
def tot : List Int → Int
  | [] => 0
  | v :: l => v + tot l
theorem tot_append (l m : List Int) : tot (l ++ m) = tot l + tot m := by
  induction l with
  | nil => simp [tot]
  | cons v l ih => rw [List.cons_append, tot, ih, tot]; omega
theorem tot_take {l : List Int} {i : Nat} (h : i < l.length) : tot (l.take (i + 1)) = tot (l.take i) + l[i] := by
  rw [take_get h, tot_append]; simp [tot]
theorem tot_bound {l : List Int} (h : valsOk l) : -(l.length * 100000 : Int) ≤ tot l ∧ tot l ≤ (l.length * 100000 : Int) := by
  induction l with
  | nil => exact ⟨Int.le_refl _, Int.le_refl _⟩
  | cons v l ih =>
    have h1 := ih fun x hx => h x (List.mem_cons_of_mem _ hx)
    have h2 := h v List.mem_cons_self
    rw [tot, List.length_cons]
    omega
theorem valsOk.take {l : List Int} (h : valsOk l) (n : Nat) : valsOk (l.take n) := fun v hv => h v (List.mem_of_mem_take hv)
theorem valsOk.drop {l : List Int} (h : valsOk l) (n : Nat) : valsOk (l.drop n) := fun v hv => h v (List.mem_of_mem_drop hv)
theorem take_len {α : Type} (l : List α) {i : Nat} (h : i ≤ l.length) : (l.take i).length = i := by rw [List.length_take]; omega
theorem s60 (nl' fl) (l : List Int) (hl : l.length ≤ 1000000) (hv : valsOk l) : Aw.Spec Tryd.prog 60 [] [ints nl' fl l] (Gives (· = I (tot l))) := by
  refine Aw.Spec.givesD k60 mixed rfl rfl rfl fun E hn hnp hp => ?_
  unfold a60
  simp (config := { maxSteps := 2000000 }) only [go_sem, ↓reduceIte, Int.reduceToNat, Nat.reduceMul, Int.reduceBEq, Int.reduceBNe, Nat.reduceBEq, Nat.reduceAdd, Nat.reduceSub, Nat.reduceLeDiff, Nat.reduceEqDiff, Nat.reduceLT, reduceCtorEq]
  refine AWp.loop (fun k s => ∃ i : Nat, i + k = l.length ∧ Weak E s ⟨[(3, I (tot (l.take i))), (6, ints nl' fl l), (7, I l.length), (8, I i)], []⟩) (n := l.length)
    ⟨0, by omega, weak_to [] hp hnp rfl (by simp (config := { maxSteps := 2000000 }) only [go_sem, ↓reduceIte, Int.reduceToNat, Nat.reduceMul, Int.reduceBEq, Int.reduceBNe, Nat.reduceBEq, Nat.reduceAdd, Nat.reduceSub, Nat.reduceLeDiff, Nat.reduceEqDiff, Nat.reduceLT, reduceCtorEq] <;> first | rfl | exact ⟨rfl, rfl⟩ | exact ⟨rfl, rfl, rfl⟩) rfl⟩ ?_
  rintro k s ⟨i, hi, hw⟩
  refine AWp.weak hw (AWp.ofD [] [] hn mixed rfl ?_)
  rcases Nat.lt_or_ge i l.length with hlt | hge
  · have e0 : decide ((i : Int) < (l.length : Int)) = true := decide_eq_true (by omega)
    have e1 := getD_map icn hlt
    have e2 : IntKind.i64.wrap ((i : Int) + 1) = ((i + 1 : Nat) : Int) := by rw [w64 (by omega) (by omega)]; rfl
    have hb := tot_bound (hv.take i)
    have hb2 := hv l[i] (List.getElem_mem hlt)
    rw [take_len l (by omega)] at hb
    have e3 : IntKind.i64.wrap (tot (l.take i) + l[i]) = tot (l.take (i + 1)) := by rw [tot_take hlt, w64 (by omega) (by omega)]
    simp (config := { maxSteps := 2000000 }) only [go_sem, ↓reduceIte, Int.reduceToNat, Nat.reduceMul, Int.reduceBEq, Int.reduceBNe, Nat.reduceBEq, Nat.reduceAdd, Nat.reduceSub, Nat.reduceLeDiff, Nat.reduceEqDiff, Nat.reduceLT, reduceCtorEq, e0, e1, e2, e3]
    (repeat (refine And.intro (by first | omega | (refine ⟨by omega, by omega⟩) | (refine ⟨by omega, by omega, by omega⟩) | (simp only [List.length_map, List.length_range, List.length_append, List.length_cons, List.length_nil, List.length_replicate, List.length_set]; omega) | (simp; omega) | (intro hgd; cases hgd) | (intro hgd; refine ⟨hgd, ?_⟩; first | omega | (refine ⟨by omega, by omega⟩) | (simp; omega))) ?_))
    exact ⟨k - 1, by omega, i + 1, by omega, weak_to [] hp hnp rfl (by simp (config := { maxSteps := 2000000 }) only [go_sem, ↓reduceIte, Int.reduceToNat, Nat.reduceMul, Int.reduceBEq, Int.reduceBNe, Nat.reduceBEq, Nat.reduceAdd, Nat.reduceSub, Nat.reduceLeDiff, Nat.reduceEqDiff, Nat.reduceLT, reduceCtorEq, e2, e3]) rfl⟩
  · have e0 : decide ((i : Int) < (l.length : Int)) = false := decide_eq_false (by omega)
    simp (config := { maxSteps := 2000000 }) only [go_sem, ↓reduceIte, Int.reduceToNat, Nat.reduceMul, Int.reduceBEq, Int.reduceBNe, Nat.reduceBEq, Nat.reduceAdd, Nat.reduceSub, Nat.reduceLeDiff, Nat.reduceEqDiff, Nat.reduceLT, reduceCtorEq, e0]
    rw [List.take_of_length_le hge]
def meanR (l : List Int) (k : Int) : Rat := ((tot (l.drop (l.length - k.toNat)) : Int) : Rat) / (k : Rat)
def meanS (l : List Int) (k : Int) : List UInt8 × Int := if checkV l ≠ 0 then ([], checkV l) else if k < 1 ∨ k > l.length then ([], 1) else toldR (meanR l k)
theorem s31 (nl' fl) (l : List Int) (k : Int) (hl : l.length ≤ 9223372036854775807) : Aw.Spec Tryd.prog 31 [] [ints nl' fl l, I k] (Gives (· = .tup [S (bA (meanS l k).1), I (meanS l k).2])) := by
  refine Aw.Spec.givesD k31 mixed rfl rfl rfl fun E hn hnp hp => ?_
  unfold a31
  simp (config := { maxSteps := 2000000 }) only [go_sem, ↓reduceIte, Int.reduceToNat, Nat.reduceMul, Int.reduceBEq, Int.reduceBNe, Nat.reduceBEq, Nat.reduceAdd, Nat.reduceSub, Nat.reduceLeDiff, Nat.reduceEqDiff, Nat.reduceLT, reduceCtorEq]
  (refine AWpL.calle (s59 nl' fl l hl) rfl (by rw [hn]; rfl) (by simp (config := { maxSteps := 2000000 }) only [go_sem, ↓reduceIte, Int.reduceToNat, Nat.reduceMul, Int.reduceBEq, Int.reduceBNe, Nat.reduceBEq, Nat.reduceAdd, Nat.reduceSub, Nat.reduceLeDiff, Nat.reduceEqDiff, Nat.reduceLT, reduceCtorEq]) (AWpL.ofM hn rfl ?_); simp (config := { maxSteps := 2000000 }) only [go_sem, ↓reduceIte, Int.reduceToNat, Nat.reduceMul, Int.reduceBEq, Int.reduceBNe, Nat.reduceBEq, Nat.reduceAdd, Nat.reduceSub, Nat.reduceLeDiff, Nat.reduceEqDiff, Nat.reduceLT, reduceCtorEq])
  unfold meanS
  refine ⟨fun h => ?_, fun h => ⟨fun h2 => ?_, fun h2 => ?_⟩⟩
  · rw [if_pos (by simpa using h)]
    rfl
  · have h0 : checkV l = 0 := by simpa using h
    simp only [Bool.or_eq_true, decide_eq_true_eq] at h2
    rw [if_neg (by simp [h0]), if_pos (by omega)]
    rfl
  · have h0 : checkV l = 0 := by simpa using h
    simp only [Bool.or_eq_false_iff, decide_eq_false_iff_not] at h2
    obtain ⟨h48, hv⟩ := checkV_ok h0
    rw [if_neg (by simp [h0]), if_neg (by omega)]
    have e1 : IntKind.i64.wrap ((l.length : Int) - k) = ((l.length - k.toNat : Nat) : Int) := by rw [w64 (by omega) (by omega)]; omega
    rw [e1]
    have e2 : ((l.map icn).take l.length).drop (l.length - k.toNat) = (l.drop (l.length - k.toNat)).map icn := by
      rw [List.take_of_length_le (by rw [List.length_map]; exact Nat.le_refl _), List.map_drop]
    simp (config := { maxSteps := 2000000 }) only [go_sem, ↓reduceIte, Int.reduceToNat, Nat.reduceMul, Int.reduceBEq, Int.reduceBNe, Nat.reduceBEq, Nat.reduceAdd, Nat.reduceSub, Nat.reduceLeDiff, Nat.reduceEqDiff, Nat.reduceLT, reduceCtorEq, e2]
    (repeat (refine And.intro (by first | omega | (refine ⟨by omega, by omega⟩) | (refine ⟨by omega, by omega, by omega⟩) | (simp only [List.length_map, List.length_range, List.length_append, List.length_cons, List.length_nil, List.length_replicate, List.length_set]; omega) | (simp; omega) | (intro hgd; cases hgd) | (intro hgd; refine ⟨hgd, ?_⟩; first | omega | (refine ⟨by omega, by omega⟩) | (simp; omega))) ?_))
    have hvd := hv.drop (l.length - k.toNat)
    have hdl : (l.drop (l.length - k.toNat)).length = k.toNat := by rw [List.length_drop]; omega
    have hb := tot_bound hvd
    refine AWpL.calle (s60 nl' false (l.drop (l.length - k.toNat)) (by omega) hvd) rfl (by rw [hn]; rfl) (by simp (config := { maxSteps := 2000000 }) only [go_sem, ↓reduceIte, Int.reduceToNat, Nat.reduceMul, Int.reduceBEq, Int.reduceBNe, Nat.reduceBEq, Nat.reduceAdd, Nat.reduceSub, Nat.reduceLeDiff, Nat.reduceEqDiff, Nat.reduceLT, reduceCtorEq]) (AWpL.ofM hn rfl ?_)
    simp (config := { maxSteps := 2000000 }) only [go_sem, ↓reduceIte, Int.reduceToNat, Nat.reduceMul, Int.reduceBEq, Int.reduceBNe, Nat.reduceBEq, Nat.reduceAdd, Nat.reduceSub, Nat.reduceLeDiff, Nat.reduceEqDiff, Nat.reduceLT, reduceCtorEq]
    (refine AWpL.calle (s20 (tot (l.drop (l.length - k.toNat))) k (by omega) (by omega) (by omega) (by omega)) rfl (by rw [hn]; rfl) (by simp (config := { maxSteps := 2000000 }) only [go_sem, ↓reduceIte, Int.reduceToNat, Nat.reduceMul, Int.reduceBEq, Int.reduceBNe, Nat.reduceBEq, Nat.reduceAdd, Nat.reduceSub, Nat.reduceLeDiff, Nat.reduceEqDiff, Nat.reduceLT, reduceCtorEq]) (AWpL.ofM hn rfl ?_); simp (config := { maxSteps := 2000000 }) only [go_sem, ↓reduceIte, Int.reduceToNat, Nat.reduceMul, Int.reduceBEq, Int.reduceBNe, Nat.reduceBEq, Nat.reduceAdd, Nat.reduceSub, Nat.reduceLeDiff, Nat.reduceEqDiff, Nat.reduceLT, reduceCtorEq])
    have : ofQ (tot (l.drop (l.length - k.toNat))) k = toldR (meanR l k) := by rw [ofQ_r, if_neg (by omega)]; rfl
    rw [this]
/-- Each value times its place, from the place k on. -/
def wt : Nat → List Int → Int
  | _, [] => 0
  | k, v :: l => (k : Int) * v + wt (k + 1) l
theorem wt_append (k : Nat) (l m : List Int) : wt k (l ++ m) = wt k l + wt (k + l.length) m := by
  induction l generalizing k with
  | nil => simp [wt]
  | cons v l ih =>
    rw [List.cons_append, wt, ih, wt, List.length_cons, show k + 1 + l.length = k + (l.length + 1) by omega]; omega
theorem wt_take {l : List Int} {i : Nat} (h : i < l.length) : wt 0 (l.take (i + 1)) = wt 0 (l.take i) + (i : Int) * l[i] := by
  rw [take_get h, wt_append, take_len l (by omega), Nat.zero_add]; simp [wt]
/-- The sum of the squares of the places. -/
def sq : Nat → Int
  | 0 => 0
  | n + 1 => sq n + (n : Int) * n
/-- The sum of the places. -/
def tri (n : Nat) : Int := (n : Int) * (n - 1) / 2
theorem mul_bound {i v a b : Int} (h0 : 0 ≤ i) (h1 : i ≤ a) (h2 : -b ≤ v) (h3 : v ≤ b) (hb : 0 ≤ b) : -(a * b) ≤ i * v ∧ i * v ≤ a * b := by
  have g1 : i * b ≤ a * b := Int.mul_le_mul_of_nonneg_right h1 hb
  have g2 : i * v ≤ i * b := Int.mul_le_mul_of_nonneg_left h3 h0
  have g3 : i * (-b) ≤ i * v := Int.mul_le_mul_of_nonneg_left h2 h0
  rw [Int.mul_neg] at g3
  omega
theorem wt_bound {l : List Int} (h : valsOk l) (h48 : l.length ≤ 48) : ∀ i, i ≤ l.length → -(i * 4800000 : Int) ≤ wt 0 (l.take i) ∧ wt 0 (l.take i) ≤ (i * 4800000 : Int)
  | 0, _ => by rw [List.take_zero]; exact ⟨Int.le_refl _, Int.le_refl _⟩
  | i + 1, hi => by
    have ih := wt_bound h h48 i (by omega)
    have hv := h l[i] (List.getElem_mem (by omega))
    rw [wt_take (by omega)]
    have := mul_bound (i := (i : Int)) (v := l[i]) (a := 48) (b := 100000) (by omega) (by omega) hv.1 hv.2 (by decide)
    omega
theorem sq_bound : ∀ i : Nat, i ≤ 48 → 0 ≤ sq i ∧ sq i ≤ (i * 2304 : Int)
  | 0, _ => ⟨Int.le_refl _, Int.le_refl _⟩
  | i + 1, hi => by
    have ih := sq_bound i (by omega)
    rw [sq]
    have := mul_bound (i := (i : Int)) (v := i) (a := 48) (b := 48) (by omega) (by omega) (by omega) (by omega) (by decide)
    have : 0 ≤ (i : Int) * i := Int.mul_nonneg (by omega) (by omega)
    omega
theorem tri_bound (n : Nat) (h : n ≤ 48) : 0 ≤ tri n ∧ tri n ≤ 1128 := by
  have : ∀ n, n < 49 → 0 ≤ tri n ∧ tri n ≤ 1128 := by decide
  exact this n (by omega)
/-- What divides. -/
def divD (n : Nat) : Int := n * sq n - tri n * tri n
def numN (l : List Int) : Int := l.length * wt 0 l - tri l.length * tot l
theorem divD_pos {n : Nat} (h : 2 ≤ n) (h48 : n ≤ 48) : 0 < divD n ∧ divD n ≤ 5308416 := by
  have : ∀ n, n < 49 → 2 ≤ n → 0 < divD n ∧ divD n ≤ 5308416 := by decide
  exact this n (by omega) h
def slopeQ (l : List Int) : QQ := quoQ (intQ (numN l)) (intQ (divD l.length))
def heightQ (l : List Int) : QQ := quoQ (subQ (intQ (tot l)) (mulQ (slopeQ l) (intQ (tri l.length)))) (intQ l.length)
theorem num_bound {l : List Int} (h : valsOk l) (h48 : l.length ≤ 48) : -20000000000 ≤ numN l ∧ numN l ≤ 20000000000 := by
  have h1 := wt_bound h h48 l.length (Nat.le_refl _)
  rw [List.take_of_length_le (Nat.le_refl _)] at h1
  have h2 := tot_bound h
  have h3 := tri_bound l.length h48
  have g1 := mul_bound (i := (l.length : Int)) (v := wt 0 l) (a := 48) (b := 230400000) (by omega) (by omega) (by omega) (by omega) (by decide)
  have g2 := mul_bound (i := tri l.length) (v := tot l) (a := 1128) (b := 4800000) (by omega) (by omega) (by omega) (by omega) (by decide)
  unfold numN
  omega
theorem slope_QB {l : List Int} (h : valsOk l) (h48 : l.length ≤ 48) (h2 : 2 ≤ l.length) : QB 6 (slopeQ l) := by
  have g1 := num_bound h h48
  have g2 := divD_pos h2 h48
  exact quoQ_QB (k := 3) (intQ_QB (by omega) (by omega)) (intQ_QB (by omega) (by omega)) (by decide)
theorem height_QB {l : List Int} (h : valsOk l) (h48 : l.length ≤ 48) (h2 : 2 ≤ l.length) : QB 50 (heightQ l) := by
  have g1 := slope_QB h h48 h2
  have g2 := tot_bound h
  have g3 := tri_bound l.length h48
  exact quoQ_QB (k := 25) (subQ_QB (k := 12) ((intQ_QB (by omega) (by omega)).mono (by decide)) (mulQ_QB (k := 6) g1 ((intQ_QB (by omega) (by omega)).mono (by decide)) (by decide)) (by decide)) ((intQ_QB (by omega) (by omega)).mono (by decide)) (by decide)
theorem tri_eq {n : Nat} (h : n ≤ 48) : Int.tdiv ((n : Int) * (n - 1)) 2 = tri n := by
  have : ∀ n : Nat, n < 49 → Int.tdiv ((n : Int) * (n - 1)) 2 = tri n := by decide
  exact this n (by omega)
abbrev zq : List AV := [B false, .val (.slice none 0 0), .val (.slice none 0 0)]
set_option maxRecDepth 20000 in
set_option maxHeartbeats 1000000 in
theorem s54 (nl' fl) (l : List Int) (hv : valsOk l) (h48 : l.length ≤ 48) (h2 : 2 ≤ l.length) : Aw.Spec Tryd.prog 54 [] [ints nl' fl l] (fun rg v => rg = [] ∧ v = .tup [qv (slopeQ l), qv (heightQ l)]) := by
  refine Spec.shut (Post := fun rg v => v = .tup [qv (slopeQ l), qv (heightQ l)]) ?_ fun rg v h => by subst h; exact ⟨rfl, rfl, rfl⟩
  refine Aw.Spec.regsW k54 rfl rfl fun E hn hnp hp => ?_
  unfold a54
  have pin : ∀ r, E.pin r = none := fun r => hp.none hnp (Nat.zero_le _)
  have hb := tot_bound hv
  have ht := tri_bound l.length h48
  have hsl := slope_QB hv h48 h2
  have e0 : IntKind.i64.wrap ((l.length : Int) - 1) = l.length - 1 := w64 (by omega) (by omega)
  have m0 := mul_bound (i := (l.length : Int)) (v := (l.length : Int) - 1) (a := 48) (b := 48) (by omega) (by omega) (by omega) (by omega) (by decide)
  have e1 : IntKind.i64.wrap ((l.length : Int) * (l.length - 1)) = (l.length : Int) * (l.length - 1) := w64 (by omega) (by omega)
  have e2 := tri_eq h48
  have e3 : IntKind.i64.wrap (tri l.length) = tri l.length := w64 (by omega) (by omega)
  refine AWp.ofD [999] [] hn mixed rfl ?_
  simp (config := { maxSteps := 2000000 }) only [go_sem, ↓reduceIte, Int.reduceToNat, Nat.reduceMul, Int.reduceBEq, Int.reduceBNe, Nat.reduceBEq, Nat.reduceAdd, Nat.reduceSub, Nat.reduceLeDiff, Nat.reduceEqDiff, Nat.reduceLT, reduceCtorEq]
  (refine AWpL.calle (s60 nl' fl l (by omega) hv) rfl (by rw [hn]; rfl) (by simp (config := { maxSteps := 2000000 }) only [go_sem, ↓reduceIte, Int.reduceToNat, Nat.reduceMul, Int.reduceBEq, Int.reduceBNe, Nat.reduceBEq, Nat.reduceAdd, Nat.reduceSub, Nat.reduceLeDiff, Nat.reduceEqDiff, Nat.reduceLT, reduceCtorEq]) (AWpL.ofM hn rfl ?_); simp (config := { maxSteps := 2000000 }) only [go_sem, ↓reduceIte, Int.reduceToNat, Nat.reduceMul, Int.reduceBEq, Int.reduceBNe, Nat.reduceBEq, Nat.reduceAdd, Nat.reduceSub, Nat.reduceLeDiff, Nat.reduceEqDiff, Nat.reduceLT, reduceCtorEq])
  simp (config := { maxSteps := 2000000 }) only [go_sem, ↓reduceIte, Int.reduceToNat, Nat.reduceMul, Int.reduceBEq, Int.reduceBNe, Nat.reduceBEq, Nat.reduceAdd, Nat.reduceSub, Nat.reduceLeDiff, Nat.reduceEqDiff, Nat.reduceLT, reduceCtorEq, e0, e1, e2, e3]
  (repeat (refine And.intro (by first | omega | (refine ⟨by omega, by omega⟩) | (refine ⟨by omega, by omega, by omega⟩) | (simp only [List.length_map, List.length_range, List.length_append, List.length_cons, List.length_nil, List.length_replicate, List.length_set]; omega) | (simp; omega) | (intro hgd; cases hgd) | (intro hgd; refine ⟨hgd, ?_⟩; first | omega | (refine ⟨by omega, by omega⟩) | (simp; omega))) ?_))
  refine AWp.loop (fun k s => ∃ i : Nat, i + k = l.length ∧ Weak E s ⟨[(2, .ptr 0 0 0), (3, .ptr 1 0 0), (4, I l.length), (5, I (tot l)), (6, I (sq i)), (7, I (wt 0 (l.take i))), (8, I (tri l.length)), (21, ints nl' fl l), (22, I l.length), (23, I i)], [.box 62 zq, .box 62 zq]⟩) (n := l.length)
    ⟨0, by omega, weak_to [0, 1] hp hnp rfl (by simp (config := { maxSteps := 2000000 }) only [go_sem, ↓reduceIte, Int.reduceToNat, Nat.reduceMul, Int.reduceBEq, Int.reduceBNe, Nat.reduceBEq, Nat.reduceAdd, Nat.reduceSub, Nat.reduceLeDiff, Nat.reduceEqDiff, Nat.reduceLT, reduceCtorEq, Aw.pos] <;> exact ⟨rfl, rfl⟩) (by simp (config := { maxSteps := 2000000 }) only [go_sem, ↓reduceIte, Int.reduceToNat, Nat.reduceMul, Int.reduceBEq, Int.reduceBNe, Nat.reduceBEq, Nat.reduceAdd, Nat.reduceSub, Nat.reduceLeDiff, Nat.reduceEqDiff, Nat.reduceLT, reduceCtorEq, Aw.renR, Aw.pos])⟩ ?_
  rintro k s ⟨i, hi, hw⟩
  refine AWp.weak hw (AWp.ofD [999] [] hn mixed rfl ?_)
  have hwb := wt_bound hv h48 i (by omega)
  have hsb := sq_bound i (by omega)
  rcases Nat.lt_or_ge i l.length with hlt | hge
  · have d0 : decide ((i : Int) < (l.length : Int)) = true := decide_eq_true (by omega)
    have d1 := getD_map icn hlt
    have d2 : IntKind.i64.wrap ((i : Int) + 1) = ((i + 1 : Nat) : Int) := by rw [w64 (by omega) (by omega)]; rfl
    have hvi := hv l[i] (List.getElem_mem hlt)
    have b1 := mul_bound (i := (i : Int)) (v := i) (a := 48) (b := 48) (by omega) (by omega) (by omega) (by omega) (by decide)
    have b2 := mul_bound (i := (i : Int)) (v := l[i]) (a := 48) (b := 100000) (by omega) (by omega) hvi.1 hvi.2 (by decide)
    have d3 : IntKind.i64.wrap ((i : Int) * i) = (i : Int) * i := w64 (by omega) (by omega)
    have d4 : IntKind.i64.wrap ((i : Int) * l[i]) = (i : Int) * l[i] := w64 (by omega) (by omega)
    have d5 : IntKind.i64.wrap (sq i + (i : Int) * i) = sq (i + 1) := by rw [w64 (by omega) (by omega)]; rfl
    have d6 : IntKind.i64.wrap (wt 0 (l.take i) + (i : Int) * l[i]) = wt 0 (l.take (i + 1)) := by rw [wt_take hlt, w64 (by omega) (by omega)]
    simp (config := { maxSteps := 2000000 }) only [go_sem, ↓reduceIte, Int.reduceToNat, Nat.reduceMul, Int.reduceBEq, Int.reduceBNe, Nat.reduceBEq, Nat.reduceAdd, Nat.reduceSub, Nat.reduceLeDiff, Nat.reduceEqDiff, Nat.reduceLT, reduceCtorEq, d0, d1, d2, d3, d4, d5, d6]
    (repeat (refine And.intro (by first | omega | (refine ⟨by omega, by omega⟩) | (refine ⟨by omega, by omega, by omega⟩) | (simp only [List.length_map, List.length_range, List.length_append, List.length_cons, List.length_nil, List.length_replicate, List.length_set]; omega) | (simp; omega) | (intro hgd; cases hgd) | (intro hgd; refine ⟨hgd, ?_⟩; first | omega | (refine ⟨by omega, by omega⟩) | (simp; omega))) ?_))
    exact ⟨k - 1, by omega, i + 1, by omega, weak_to [0, 1] hp hnp rfl (by simp (config := { maxSteps := 2000000 }) only [go_sem, ↓reduceIte, Int.reduceToNat, Nat.reduceMul, Int.reduceBEq, Int.reduceBNe, Nat.reduceBEq, Nat.reduceAdd, Nat.reduceSub, Nat.reduceLeDiff, Nat.reduceEqDiff, Nat.reduceLT, reduceCtorEq, Aw.pos, d2, d3, d4, d5, d6]) (by simp (config := { maxSteps := 2000000 }) only [go_sem, ↓reduceIte, Int.reduceToNat, Nat.reduceMul, Int.reduceBEq, Int.reduceBNe, Nat.reduceBEq, Nat.reduceAdd, Nat.reduceSub, Nat.reduceLeDiff, Nat.reduceEqDiff, Nat.reduceLT, reduceCtorEq, Aw.renR, Aw.pos])⟩
  have d0 : decide ((i : Int) < (l.length : Int)) = false := decide_eq_false (by omega)
  have hi2 : i = l.length := by omega
  subst hi2
  rw [List.take_of_length_le (Nat.le_refl _)] at hwb
  have g1 := mul_bound (i := (l.length : Int)) (v := wt 0 l) (a := 48) (b := 230400000) (by omega) (by omega) (by omega) (by omega) (by decide)
  have g2 := mul_bound (i := tri l.length) (v := tot l) (a := 1128) (b := 4800000) (by omega) (by omega) (by omega) (by omega) (by decide)
  have g3 := mul_bound (i := (l.length : Int)) (v := sq l.length) (a := 48) (b := 110592) (by omega) (by omega) (by omega) (by omega) (by decide)
  have g4 := mul_bound (i := tri l.length) (v := tri l.length) (a := 1128) (b := 1128) (by omega) (by omega) (by omega) (by omega) (by decide)
  have w1 : IntKind.i64.wrap ((l.length : Int) * wt 0 l) = (l.length : Int) * wt 0 l := w64 (by omega) (by omega)
  have w2 : IntKind.i64.wrap (tri l.length * tot l) = tri l.length * tot l := w64 (by omega) (by omega)
  have w3 : IntKind.i64.wrap ((l.length : Int) * sq l.length) = (l.length : Int) * sq l.length := w64 (by omega) (by omega)
  have w4 : IntKind.i64.wrap (tri l.length * tri l.length) = tri l.length * tri l.length := w64 (by omega) (by omega)
  have w5 : IntKind.i64.wrap ((l.length : Int) * wt 0 l - tri l.length * tot l) = numN l := w64 (by omega) (by omega)
  have w6 : IntKind.i64.wrap ((l.length : Int) * sq l.length - tri l.length * tri l.length) = divD l.length := w64 (by omega) (by omega)
  have hN := num_bound hv h48
  have hD := divD_pos h2 h48
  have hqi : ∀ n : Int, -9223372036854775807 ≤ n → n ≤ 9223372036854775807 → QB 300000 (intQ n) := fun n h0 h1 => (intQ_QB h0 h1).mono (by decide)
  have htk : l.take l.length = l := List.take_of_length_le (Nat.le_refl _)
  simp (config := { maxSteps := 2000000 }) only [go_sem, ↓reduceIte, Int.reduceToNat, Nat.reduceMul, Int.reduceBEq, Int.reduceBNe, Nat.reduceBEq, Nat.reduceAdd, Nat.reduceSub, Nat.reduceLeDiff, Nat.reduceEqDiff, Nat.reduceLT, reduceCtorEq, d0, htk, w1, w2, w3, w4, w5, w6]
  (refine AWpL.callA [] (s42 (numN l) (by omega) (by omega)) rfl rfl (by rw [hn]; rfl) rfl (fun r hr => .inr (pin r)) fun rg v hv => ?_; obtain ⟨rfl, rfl⟩ := hv; refine ⟨Nat.le_refl _, AWpL.ofM hn rfl ?_⟩)
  simp (config := { maxSteps := 2000000 }) only [go_sem, ↓reduceIte, Int.reduceToNat, Nat.reduceMul, Int.reduceBEq, Int.reduceBNe, Nat.reduceBEq, Nat.reduceAdd, Nat.reduceSub, Nat.reduceLeDiff, Nat.reduceEqDiff, Nat.reduceLT, reduceCtorEq, Aw.retS, Aw.retRg, Aw.kpM, Aw.bkM, Aw.pos, Aw.isBox, w1, w2, w3, w4, w5, w6]
  (refine AWpL.callA [] (s42 (divD l.length) (by omega) (by omega)) rfl rfl (by rw [hn]; rfl) rfl (fun r hr => .inr (pin r)) fun rg v hv => ?_; obtain ⟨rfl, rfl⟩ := hv; refine ⟨Nat.le_refl _, AWpL.ofM hn rfl ?_⟩)
  simp (config := { maxSteps := 2000000 }) only [go_sem, ↓reduceIte, Int.reduceToNat, Nat.reduceMul, Int.reduceBEq, Int.reduceBNe, Nat.reduceBEq, Nat.reduceAdd, Nat.reduceSub, Nat.reduceLeDiff, Nat.reduceEqDiff, Nat.reduceLT, reduceCtorEq, Aw.retS, Aw.retRg, Aw.kpM, Aw.bkM, Aw.pos, Aw.isBox]
  (refine AWpL.callA [] (s52 (intQ (numN l)) (intQ (divD l.length)) (hqi _ (by omega) (by omega)) (hqi _ (by omega) (by omega))) rfl rfl (by rw [hn]; rfl) rfl (fun r hr => .inr (pin r)) fun rg v hv => ?_; obtain ⟨rfl, rfl⟩ := hv; refine ⟨Nat.le_refl _, AWpL.ofM hn rfl ?_⟩)
  simp (config := { maxSteps := 2000000 }) only [go_sem, ↓reduceIte, Int.reduceToNat, Nat.reduceMul, Int.reduceBEq, Int.reduceBNe, Nat.reduceBEq, Nat.reduceAdd, Nat.reduceSub, Nat.reduceLeDiff, Nat.reduceEqDiff, Nat.reduceLT, reduceCtorEq, Aw.retS, Aw.retRg, Aw.kpM, Aw.bkM, Aw.pos, Aw.isBox]
  have hx := hqi (tri l.length) (by omega) (by omega)
  have hy := hqi (tot l) (by omega) (by omega)
  have hnn := hqi l.length (by omega) (by omega)
  have hm : QB 12 (mulQ (slopeQ l) (intQ (tri l.length))) := mulQ_QB (k := 6) hsl ((intQ_QB (by omega) (by omega)).mono (by decide)) (by decide)
  have hd : QB 25 (subQ (intQ (tot l)) (mulQ (slopeQ l) (intQ (tri l.length)))) := subQ_QB (k := 12) ((intQ_QB (by omega) (by omega)).mono (by decide)) hm (by decide)
  refine AWp.cut ⟨[(2, .ptr 0 0 0), (3, .ptr 1 0 0)], [.box 62 (qv (slopeQ l)).cells, .box 62 (qv (heightQ l)).cells]⟩ ?_ ?_
  · refine AWp.plan (.take 0 [false, true, true, true, true, true, true, true, true, true, true, false, false] (.take 1 [true, false, false, true, true, false, false, false, true, false, false, false, false] (.take 3 [true, true, true, false, true, true, false, false, true, false, false, false, false] (.take 4 [true, true, true, true, false, false, false, false, true, false, false, false, false] (.take 8 [true, true, true, true, true, true, true, true, false, false, false, false, false] (.one 2 (.one 5 (.one 6 (.one 7 (.one 9 (.one 10 (.one 11 (.one 12 .done))))))))))))) [true, true, true, true, true, true, true, true, true, true, true, false, false] mixed hn rfl rfl ?_
    simp (config := { maxSteps := 2000000 }) only [go_sem, ↓reduceIte, Int.reduceToNat, Nat.reduceMul, Int.reduceBEq, Int.reduceBNe, Nat.reduceBEq, Nat.reduceAdd, Nat.reduceSub, Nat.reduceLeDiff, Nat.reduceEqDiff, Nat.reduceLT, reduceCtorEq]
    repeat' first | (refine And.intro ?_ ?_) | (refine AOne.callA (s42 (tot l) (by omega) (by omega)) rfl (by rw [hn]; rfl) (fun rg v hv => ?_); obtain ⟨rfl, rfl⟩ := hv; rw [retS_nil]; simp (config := { maxSteps := 2000000 }) only [go_sem, ↓reduceIte, Int.reduceToNat, Nat.reduceMul, Int.reduceBEq, Int.reduceBNe, Nat.reduceBEq, Nat.reduceAdd, Nat.reduceSub, Nat.reduceLeDiff, Nat.reduceEqDiff, Nat.reduceLT, reduceCtorEq]) | (refine AOne.callA (s42 (tri l.length) (by omega) (by omega)) rfl (by rw [hn]; rfl) (fun rg v hv => ?_); obtain ⟨rfl, rfl⟩ := hv; rw [retS_nil]; simp (config := { maxSteps := 2000000 }) only [go_sem, ↓reduceIte, Int.reduceToNat, Nat.reduceMul, Int.reduceBEq, Int.reduceBNe, Nat.reduceBEq, Nat.reduceAdd, Nat.reduceSub, Nat.reduceLeDiff, Nat.reduceEqDiff, Nat.reduceLT, reduceCtorEq]) | (refine AOne.callA (s43 (slopeQ l) (intQ (tri l.length)) (hsl.mono (by decide)) hx) rfl (by rw [hn]; rfl) (fun rg v hv => ?_); obtain ⟨rfl, rfl⟩ := hv; rw [retS_nil]; simp (config := { maxSteps := 2000000 }) only [go_sem, ↓reduceIte, Int.reduceToNat, Nat.reduceMul, Int.reduceBEq, Int.reduceBNe, Nat.reduceBEq, Nat.reduceAdd, Nat.reduceSub, Nat.reduceLeDiff, Nat.reduceEqDiff, Nat.reduceLT, reduceCtorEq]) | (refine AOne.callA (s48 (intQ (tot l)) (mulQ (slopeQ l) (intQ (tri l.length))) hy (hm.mono (by decide))) rfl (by rw [hn]; rfl) (fun rg v hv => ?_); obtain ⟨rfl, rfl⟩ := hv; rw [retS_nil]; simp (config := { maxSteps := 2000000 }) only [go_sem, ↓reduceIte, Int.reduceToNat, Nat.reduceMul, Int.reduceBEq, Int.reduceBNe, Nat.reduceBEq, Nat.reduceAdd, Nat.reduceSub, Nat.reduceLeDiff, Nat.reduceEqDiff, Nat.reduceLT, reduceCtorEq]) | (refine AOne.callA (s42 l.length (by omega) (by omega)) rfl (by rw [hn]; rfl) (fun rg v hv => ?_); obtain ⟨rfl, rfl⟩ := hv; rw [retS_nil]; simp (config := { maxSteps := 2000000 }) only [go_sem, ↓reduceIte, Int.reduceToNat, Nat.reduceMul, Int.reduceBEq, Int.reduceBNe, Nat.reduceBEq, Nat.reduceAdd, Nat.reduceSub, Nat.reduceLeDiff, Nat.reduceEqDiff, Nat.reduceLT, reduceCtorEq]) | (refine AOne.callA (s52 (subQ (intQ (tot l)) (mulQ (slopeQ l) (intQ (tri l.length)))) (intQ l.length) (hd.mono (by decide)) hnn) rfl (by rw [hn]; rfl) (fun rg v hv => ?_); obtain ⟨rfl, rfl⟩ := hv; rw [retS_nil]; simp (config := { maxSteps := 2000000 }) only [go_sem, ↓reduceIte, Int.reduceToNat, Nat.reduceMul, Int.reduceBEq, Int.reduceBNe, Nat.reduceBEq, Nat.reduceAdd, Nat.reduceSub, Nat.reduceLeDiff, Nat.reduceEqDiff, Nat.reduceLT, reduceCtorEq]) | exact weak_to [0, 1] hp hnp rfl (by simp (config := { maxSteps := 2000000 }) only [go_sem, ↓reduceIte, Int.reduceToNat, Nat.reduceMul, Int.reduceBEq, Int.reduceBNe, Nat.reduceBEq, Nat.reduceAdd, Nat.reduceSub, Nat.reduceLeDiff, Nat.reduceEqDiff, Nat.reduceLT, reduceCtorEq, Aw.pos] <;> rfl) (by simp (config := { maxSteps := 2000000 }) only [go_sem, ↓reduceIte, Int.reduceToNat, Nat.reduceMul, Int.reduceBEq, Int.reduceBNe, Nat.reduceBEq, Nat.reduceAdd, Nat.reduceSub, Nat.reduceLeDiff, Nat.reduceEqDiff, Nat.reduceLT, reduceCtorEq, Aw.renR, Aw.pos] <;> rfl)
  simp (config := { maxSteps := 2000000 }) only [go_sem, ↓reduceIte, Int.reduceToNat, Nat.reduceMul, Int.reduceBEq, Int.reduceBNe, Nat.reduceBEq, Nat.reduceAdd, Nat.reduceSub, Nat.reduceLeDiff, Nat.reduceEqDiff, Nat.reduceLT, reduceCtorEq]
  refine Retn.ret (π := [0, 1]) hp hnp ⟨rfl, ?_⟩
  simp (config := { maxSteps := 2000000 }) only [go_sem, ↓reduceIte, Int.reduceToNat, Nat.reduceMul, Int.reduceBEq, Int.reduceBNe, Nat.reduceBEq, Nat.reduceAdd, Nat.reduceSub, Nat.reduceLeDiff, Nat.reduceEqDiff, Nat.reduceLT, reduceCtorEq, Aw.renR, Aw.pos]
end Go.Proofs.YtjaakbkneeojnaaDoor
