/- Alarms: the laws of explanations. -/
import Derived.Test.YtoickofcmngdjaaAwZl
import Derived.Test.YtoickofcmngdjaaAlaE
set_option linter.unusedVariables false
set_option linter.unusedSimpArgs false
namespace Go.Proofs.Ytoickofcmngdjaa
open Go.Proofs.Ytoickofcmngdjaa.Aw
attribute [local go_sem] Int.natCast_zero Int.natCast_one bne_self_eq_false beq_self_eq_true Bool.not_true Bool.not_false Option.isSome_none Option.isSome_some Aw.bkM_nil Option.getD_some Option.getD_none Nat.sub_zero Int.toNat_zero Aw.frzS Aw.frzT Aw.frzA Aw.frzL Aw.frzR Aw.frzO Aw.frzOL Aw.frzOT Aw.frzOR Aw.killS Aw.mapT Aw.mapR Aw.killM Aw.resAVs Aw.resAV Aw.quietOps Aw.wpP Aw.wpT Aw.wpS Aw.AOp.mild List.getElem?_cons_zero List.getElem?_cons_succ Bool.and_false Bool.and_self Bool.false_and Aw.opOb Aw.gdB Aw.Rnd Aw.subTm List.length_map Int.toNat_natCast and_self Aw.SeqC Aw.stops Aw.Ends Aw.looks Aw.renA Aw.renL Aw.renT Aw.renS Aw.wpO Aw.aop Aw.putTm Aw.St.ev Aw.St.put Aw.St.putO Aw.binAV Aw.intBin Aw.strBin Aw.pickAV Aw.optInt Aw.AV.strip Aw.AV.guard Aw.AV.cells Aw.gdOb Aw.AOp.opds Aw.AOp.still Aw.ptrCells Aw.St.reg Aw.fillAV Aw.fillOb Aw.elsOb Aw.splice Aw.firm Aw.cellish Aw.AV.shut Aw.shutAll Aw.Seq Aw.Blk Aw.retS_nil Aw.mapA Aw.mapL Aw.borA Aw.borOb Aw.allOb Aw.tupOf Aw.params Aw.Opd.of Array.toList Value.cells List.map_cons List.map_nil List.getD_cons_zero List.getD_cons_succ List.getD_nil List.length_cons List.length_nil List.take_succ_cons List.take_zero List.take_nil List.drop_zero List.drop_succ_cons List.drop_nil List.set_cons_zero List.set_cons_succ List.append_nil List.nil_append List.cons_append List.all_cons List.all_nil cond_false cond_true if_true if_false true_and and_true Bool.and_true Bool.true_and Option.map_some Option.map_none false_implies forall_const implies_true forall_eq imp_self Bool.cond_false_right Bool.cond_true_left beq_true beq_false Bool.not_eq_true' Bool.false_eq_true Nat.zero_add Nat.add_zero Aw.eqCells Aw.stopDraw Aw.skipS Aw.exactCap Aw.revealS Aw.srcEls Aw.srcSz
attribute [local go_sem ↓] Aw.look_nil Aw.look_ite Aw.wpL_nil Aw.wpL_op Aw.wpL_gd Aw.wpQ_nil Aw.wpQ_op Aw.wpQ_gd Aw.wpC_draw Aw.wpC_reg Aw.wpC_skip Aw.wpC_ret Aw.wpC_exit Aw.wpC_seq Aw.wpC_block Aw.wpC_loop Aw.wpC_cond Aw.stopAt_nil Aw.stopAt_cons Aw.wpD_skip Aw.wpD_ret Aw.wpD_exit Aw.wpD_region Aw.wpD_draw Aw.wpM_nil Aw.wpM_op Aw.wpM_gd Aw.wpD_seq Aw.wpD_block Aw.wpD_loop Aw.wpD_cond
/- gridhall/gridhallkeep4.AlarmDirect -/
def a3 : ACode :=
  (.seq (.region false [] [
     ⟨(some 6), none, (.mov (.v (.bool false)))⟩])
  (.seq (.region false [] [
     ⟨(some 14), none, (.mov (.t 1))⟩,
     ⟨(some 15), none, (.mov (.t 1))⟩,
     ⟨(some 16), none, (.len (.t 15))⟩,
     ⟨(some 17), none, (.mni (.t 16) (.v (.int .i64 10)))⟩,
     ⟨(some 18), none, (.slc 1 (.t 14) none (some (.t 17)) none)⟩,
     ⟨(some 1), none, (.mov (.t 18))⟩])
  (.seq (.seq (.region false [] [
     ⟨(some 19), none, (.mov (.t 0))⟩,
     ⟨(some 20), none, (.call 6 [(.t 19)])⟩,
     ⟨(some 21), none, (.bin .neq 24 (.t 20) (.v (.int .i64 0)))⟩,
     ⟨(some 22), none, (.mov (.t 21))⟩,
     ⟨(some 23), (some (22, false)), (.mov (.t 0))⟩,
     ⟨(some 24), (some (22, false)), (.len (.t 23))⟩,
     ⟨(some 25), (some (22, false)), (.bin .eql 3 (.t 24) (.v (.int .i64 0)))⟩,
     ⟨(some 26), none, (.pick (.t 22) (.v (.bool true)) (.t 25))⟩])
  (.cond (.t 26)
    (.seq (.region false [] [
       ⟨(some 27), none, (.call 7 [])⟩,
       ⟨(some 6), none, (.mov (.t 27))⟩])
    .ret)
    .skip))
  (.seq (.region false [] [
     ⟨(some 28), none, (.mov (.t 0))⟩,
     ⟨(some 29), none, (.mov (.t 2))⟩,
     ⟨(some 30), none, (.mov (.t 0))⟩,
     ⟨(some 31), none, (.len (.t 30))⟩,
     ⟨(some 32), none, (.bin .sub 3 (.t 31) (.v (.int .i64 1)))⟩,
     ⟨(some 33), none, (.call 8 [(.t 29), (.v (.int .i64 0)), (.t 32)])⟩,
     ⟨(some 34), none, (.idx 2 (.t 28) (.t 33))⟩,
     ⟨(some 35), none, (.load 2 true (.t 34))⟩,
     ⟨(some 7), none, (.alloc 28 (.agg #[(.string ⟨#[]⟩), (.string ⟨#[]⟩)]))⟩,
     ⟨none, none, (.store 2 (.t 7) (.t 35))⟩])
  (.seq (.region false [] [
     ⟨(some 37), none, (.mov (.t 0))⟩,
     ⟨(some 38), none, (.mov (.t 1))⟩,
     ⟨(some 39), none, (.fld 0 (.t 7))⟩,
     ⟨(some 40), none, (.load 1 false (.t 39))⟩,
     ⟨(some 41), none, (.call 9 [(.t 37), (.t 38), (.t 40)])⟩,
     ⟨(some 36), none, (.mov (.t 41))⟩,
     ⟨(some 42), none, (.ext 0 (.t 36))⟩,
     ⟨(some 43), none, (.ext 1 (.t 36))⟩,
     ⟨(some 8), none, (.mov (.t 42))⟩,
     ⟨(some 9), none, (.mov (.t 43))⟩])
  (.seq (.region false [] [
     ⟨(some 45), none, (.mov (.t 0))⟩,
     ⟨(some 46), none, (.mov (.t 1))⟩,
     ⟨(some 47), none, (.fld 1 (.t 7))⟩,
     ⟨(some 48), none, (.load 1 false (.t 47))⟩,
     ⟨(some 49), none, (.call 9 [(.t 45), (.t 46), (.t 48)])⟩,
     ⟨(some 44), none, (.mov (.t 49))⟩,
     ⟨(some 50), none, (.ext 0 (.t 44))⟩,
     ⟨(some 51), none, (.ext 1 (.t 44))⟩,
     ⟨(some 10), none, (.mov (.t 50))⟩,
     ⟨(some 11), none, (.mov (.t 51))⟩])
  (.seq (.seq (.region false [] [
     ⟨(some 52), none, (.mov (.t 9))⟩,
     ⟨(some 53), none, (.bin .neq 24 (.t 52) (.v (.int .i64 0)))⟩,
     ⟨(some 54), none, (.mov (.t 53))⟩,
     ⟨(some 55), (some (54, false)), (.mov (.t 11))⟩,
     ⟨(some 56), (some (54, false)), (.bin .neq 24 (.t 55) (.v (.int .i64 0)))⟩,
     ⟨(some 57), none, (.pick (.t 54) (.v (.bool true)) (.t 56))⟩])
  (.cond (.t 57)
    (.seq (.region false [] [
       ⟨(some 58), none, (.call 7 [])⟩,
       ⟨(some 6), none, (.mov (.t 58))⟩])
    .ret)
    .skip))
  (.seq (.seq (.region false [] [
     ⟨(some 59), none, (.mov (.t 10))⟩,
     ⟨(some 60), none, (.len (.t 59))⟩,
     ⟨(some 61), none, (.mov (.v (.int .i64 0)))⟩])
  (.block 0 (.loop (.seq (.region false [] [
       ⟨(some 62), none, (.bin .lss 3 (.t 61) (.t 60))⟩])
    (.seq (.cond (.t 62)
      .skip
      (.exit 0))
    (.seq (.block 1 (.seq (.region false [] [
        ⟨(some 63), none, (.idx 1 (.t 59) (.t 61))⟩,
        ⟨(some 64), none, (.load 1 false (.t 63))⟩,
        ⟨(some 13), none, (.mov (.t 64))⟩])
     (.seq (.region false [] [
        ⟨(some 65), none, (.mov (.t 8))⟩,
        ⟨(some 66), none, (.mov (.t 13))⟩,
        ⟨(some 67), none, (.call 10 [(.t 65), (.t 66)])⟩,
        ⟨(some 68), none, (.un .not (.t 67))⟩])
     (.cond (.t 68)
       (.seq (.region false [] [
          ⟨(some 6), none, (.mov (.v (.bool false)))⟩])
       .ret)
       .skip))))
    (.region false [] [
       ⟨(some 69), none, (.bin .add 3 (.t 61) (.v (.int .i64 1)))⟩,
       ⟨(some 61), none, (.mov (.t 69))⟩])))))))
  (.seq (.region false [] [
     ⟨(some 70), none, (.call 7 [])⟩,
     ⟨(some 71), none, (.mov (.t 70))⟩,
     ⟨(some 72), (some (71, true)), (.mov (.t 10))⟩,
     ⟨(some 73), (some (71, true)), (.len (.t 72))⟩,
     ⟨(some 74), (some (71, true)), (.bin .gtr 3 (.t 73) (.v (.int .i64 0)))⟩,
     ⟨(some 75), none, (.pick (.t 71) (.t 74) (.v (.bool false)))⟩,
     ⟨(some 6), none, (.mov (.t 75))⟩])
  .ret)))))))))
theorem k3 : FnIs Try.prog 3 76 [.t 6] a3 := ⟨_, _, Try.func3, rfl, by kernel_rfl, by kernel_rfl, rfl⟩
/- gridhall/gridhallkeep4.AlarmCovered -/
def a4 : ACode :=
  (.seq (.region false [] [
     ⟨(some 4), none, (.mov (.v (.bool false)))⟩])
  (.seq (.region false [] [
     ⟨(some 13), none, (.mov (.t 1))⟩,
     ⟨(some 14), none, (.mov (.t 1))⟩,
     ⟨(some 15), none, (.len (.t 14))⟩,
     ⟨(some 16), none, (.mni (.t 15) (.v (.int .i64 10)))⟩,
     ⟨(some 17), none, (.slc 1 (.t 13) none (some (.t 16)) none)⟩,
     ⟨(some 1), none, (.mov (.t 17))⟩])
  (.seq (.region false [] [
     ⟨(some 19), none, (.mov (.t 0))⟩,
     ⟨(some 20), none, (.mov (.t 1))⟩,
     ⟨(some 21), none, (.call 11 [(.t 19), (.t 20)])⟩,
     ⟨(some 18), none, (.mov (.t 21))⟩,
     ⟨(some 22), none, (.ext 0 (.t 18))⟩,
     ⟨(some 23), none, (.ext 1 (.t 18))⟩,
     ⟨(some 5), none, (.mov (.t 22))⟩,
     ⟨(some 6), none, (.mov (.t 23))⟩])
  (.seq (.seq (.region false [] [
     ⟨(some 24), none, (.mov (.t 6))⟩,
     ⟨(some 25), none, (.bin .neq 24 (.t 24) (.v (.int .i64 0)))⟩])
  (.cond (.t 25)
    (.seq (.region false [] [
       ⟨(some 26), none, (.call 7 [])⟩,
       ⟨(some 27), none, (.mov (.t 26))⟩,
       ⟨(some 28), (some (27, true)), (.mov (.t 5))⟩,
       ⟨(some 29), (some (27, true)), (.len (.t 28))⟩,
       ⟨(some 30), (some (27, true)), (.bin .eql 3 (.t 29) (.v (.int .i64 0)))⟩,
       ⟨(some 31), none, (.pick (.t 27) (.t 30) (.v (.bool false)))⟩,
       ⟨(some 4), none, (.mov (.t 31))⟩])
    .ret)
    .skip))
  (.seq (.seq (.region false [] [
     ⟨(some 32), none, (.mov (.t 1))⟩,
     ⟨(some 33), none, (.len (.t 32))⟩,
     ⟨(some 34), none, (.mov (.v (.int .i64 0)))⟩])
  (.block 0 (.loop (.seq (.region false [] [
       ⟨(some 35), none, (.bin .lss 3 (.t 34) (.t 33))⟩])
    (.seq (.cond (.t 35)
      .skip
      (.exit 0))
    (.seq (.block 1 (.seq (.region false [] [
        ⟨(some 36), none, (.idx 1 (.t 32) (.t 34))⟩,
        ⟨(some 37), none, (.load 1 false (.t 36))⟩,
        ⟨(some 8), none, (.mov (.t 37))⟩])
     (.seq (.region false [] [
        ⟨(some 39), none, (.mov (.t 0))⟩,
        ⟨(some 40), none, (.mov (.t 1))⟩,
        ⟨(some 41), none, (.mov (.t 8))⟩,
        ⟨(some 42), none, (.call 9 [(.t 39), (.t 40), (.t 41)])⟩,
        ⟨(some 38), none, (.mov (.t 42))⟩,
        ⟨(some 43), none, (.ext 0 (.t 38))⟩,
        ⟨(some 44), none, (.ext 1 (.t 38))⟩,
        ⟨(some 9), none, (.mov (.t 43))⟩,
        ⟨(some 10), none, (.mov (.t 44))⟩])
     (.seq (.seq (.region false [] [
        ⟨(some 45), none, (.mov (.t 10))⟩,
        ⟨(some 46), none, (.bin .neq 24 (.t 45) (.v (.int .i64 0)))⟩,
        ⟨(some 47), none, (.mov (.t 46))⟩,
        ⟨(some 48), (some (47, false)), (.mov (.t 9))⟩,
        ⟨(some 49), (some (47, false)), (.len (.t 48))⟩,
        ⟨(some 50), (some (47, false)), (.bin .eql 3 (.t 49) (.v (.int .i64 0)))⟩,
        ⟨(some 51), none, (.pick (.t 47) (.v (.bool true)) (.t 50))⟩,
        ⟨(some 52), none, (.mov (.t 51))⟩,
        ⟨(some 53), (some (52, false)), (.mov (.t 9))⟩,
        ⟨(some 54), (some (52, false)), (.call 12 [(.t 53)])⟩,
        ⟨(some 55), (some (52, false)), (.un .not (.t 54))⟩,
        ⟨(some 56), none, (.pick (.t 52) (.v (.bool true)) (.t 55))⟩])
     (.cond (.t 56)
       (.seq (.region false [] [
          ⟨(some 4), none, (.mov (.v (.bool false)))⟩])
       .ret)
       .skip))
     (.seq (.seq (.region false [] [
        ⟨(some 57), none, (.mov (.t 9))⟩,
        ⟨(some 58), none, (.len (.t 57))⟩,
        ⟨(some 59), none, (.mov (.v (.int .i64 0)))⟩])
     (.block 2 (.loop (.seq (.region false [] [
          ⟨(some 60), none, (.bin .lss 3 (.t 59) (.t 58))⟩])
       (.seq (.cond (.t 60)
         .skip
         (.exit 2))
       (.seq (.block 3 (.seq (.region false [] [
           ⟨(some 61), none, (.idx 1 (.t 57) (.t 59))⟩,
           ⟨(some 62), none, (.load 1 false (.t 61))⟩,
           ⟨(some 12), none, (.mov (.t 62))⟩])
        (.seq (.region false [] [
           ⟨(some 63), none, (.mov (.t 5))⟩,
           ⟨(some 64), none, (.mov (.t 12))⟩,
           ⟨(some 65), none, (.call 10 [(.t 63), (.t 64)])⟩,
           ⟨(some 66), none, (.un .not (.t 65))⟩])
        (.cond (.t 66)
          (.seq (.region false [] [
             ⟨(some 4), none, (.mov (.v (.bool false)))⟩])
          .ret)
          .skip))))
       (.region false [] [
          ⟨(some 67), none, (.bin .add 3 (.t 59) (.v (.int .i64 1)))⟩,
          ⟨(some 59), none, (.mov (.t 67))⟩])))))))
     (.seq (.region false [] [
        ⟨(some 68), none, (.mov (.t 5))⟩,
        ⟨(some 69), none, (.mov (.t 8))⟩,
        ⟨(some 70), none, (.call 10 [(.t 68), (.t 69)])⟩,
        ⟨(some 71), none, (.mov (.t 70))⟩,
        ⟨(some 72), (some (71, true)), (.mov (.t 9))⟩,
        ⟨(some 73), (some (71, true)), (.mov (.t 8))⟩,
        ⟨(some 74), (some (71, true)), (.bsl 9 1 1 [(0, (.t 73))])⟩,
        ⟨(some 75), (some (71, true)), (.call 13 [(.t 72), (.t 74)])⟩,
        ⟨(some 76), (some (71, true)), (.un .not (.t 75))⟩,
        ⟨(some 77), none, (.pick (.t 71) (.t 76) (.v (.bool false)))⟩])
     (.cond (.t 77)
       (.seq (.region false [] [
          ⟨(some 4), none, (.mov (.v (.bool false)))⟩])
       .ret)
       .skip)))))))
    (.region false [] [
       ⟨(some 78), none, (.bin .add 3 (.t 34) (.v (.int .i64 1)))⟩,
       ⟨(some 34), none, (.mov (.t 78))⟩])))))))
  (.seq (.region false [] [
     ⟨(some 79), none, (.call 7 [])⟩,
     ⟨(some 4), none, (.mov (.t 79))⟩])
  .ret))))))
theorem k4 : FnIs Try.prog 4 80 [.t 4] a4 := ⟨_, _, Try.func4, rfl, by kernel_rfl, by kernel_rfl, rfl⟩

theorem minT {α : Type} (c : α → List AV) (l : List α) (m : Nat) : (l.map c).take (min (l.length : Int) (m : Int)).toNat = (l.take m).map c := by
  rw [List.map_take]
  rcases Nat.le_total l.length m with h | h
  · rw [List.take_of_length_le (by simp; omega), List.take_of_length_le (by simp; omega)]
  · congr 1; omega
theorem minT10 (l : List ByteArray) : (l.map sc).take (min (l.length : Int) 10).toNat = (l.take 10).map sc := minT sc l 10
theorem explainL_len (cs : List Cau) (l : List ByteArray) (n : ByteArray) : (explainL cs l n).length ≤ l.length := by
  unfold explainL
  split
  · exact Nat.le_trans (List.length_filter_le _ _) (causesL_len cs l)
  · exact Nat.zero_le _
theorem any_seq {x : ByteArray} {l : List ByteArray} : l.any (seq x) = true ↔ x ∈ l := by
  rw [List.any_eq_true]
  constructor
  · rintro ⟨y, hy, h⟩
    rw [seq_eq.1 h]; exact hy
  · intro h; exact ⟨x, h, seq_eq.2 rfl⟩
set_option maxRecDepth 20000 in
set_option maxHeartbeats 1000000 in
theorem s3 (nl fl) (cs : List Cau) (nm' fm) (l0 : List ByteArray) (k : Int) (hc : ∀ c ∈ cs, CauOk c) (hs : ∀ x ∈ l0, x.size ≤ 9223372036854775807) (hl0 : l0.length ≤ 9223372036854775807) :
    Aw.Spec Try.prog 3 [] [cas nl fl cs, ss nm' fm l0, I k] (Gives (· = B true)) := by
  refine Aw.Spec.givesW k3 rfl rfl fun E hn hnp hp => ?_
  unfold a3
  have pin : ∀ r, E.pin r = none := fun r => hp.none hnp (Nat.zero_le _)
  have hs2 : ∀ x ∈ l0.take 10, x.size ≤ 9223372036854775807 := fun x hx => hs x (List.mem_of_mem_take hx)
  have hl10 : (l0.take 10).length ≤ 10 := by rw [List.length_take]; omega
  refine AWp.ofD [] [] hn mixed rfl ?_
  simp (config := { maxSteps := 2000000 }) only [go_sem, ↓reduceIte, Int.reduceToNat, Nat.reduceMul, Int.reduceBEq, Int.reduceBNe, Nat.reduceBEq, Nat.reduceAdd, Nat.reduceSub, Nat.reduceLeDiff, Nat.reduceEqDiff, Nat.reduceLT, reduceCtorEq, minT10]
  (repeat (refine And.intro (by first | omega | (refine ⟨by omega, by omega⟩) | (refine ⟨by omega, by omega, by omega⟩) | (simp only [List.length_map, List.length_range, List.length_append, List.length_cons, List.length_nil, List.length_replicate, List.length_set]; omega) | (simp; omega) | (intro hgd; cases hgd) | (intro hgd; refine ⟨hgd, ?_⟩; first | omega | (refine ⟨by omega, by omega⟩) | (simp; omega))) ?_))
  generalize l0.take 10 = l at *
  (refine AWpL.calle (s6 nl fl cs hc) rfl (by rw [hn]; rfl) (by simp (config := { maxSteps := 2000000 }) only [go_sem, ↓reduceIte, Int.reduceToNat, Nat.reduceMul, Int.reduceBEq, Int.reduceBNe, Nat.reduceBEq, Nat.reduceAdd, Nat.reduceSub, Nat.reduceLeDiff, Nat.reduceEqDiff, Nat.reduceLT, reduceCtorEq]) (AWpL.ofM hn rfl ?_); simp (config := { maxSteps := 2000000 }) only [go_sem, ↓reduceIte, Int.reduceToNat, Nat.reduceMul, Int.reduceBEq, Int.reduceBNe, Nat.reduceBEq, Nat.reduceAdd, Nat.reduceSub, Nat.reduceLeDiff, Nat.reduceEqDiff, Nat.reduceLT, reduceCtorEq])
  simp only [Bool.or_eq_true, Bool.or_eq_false_iff, bne_iff_ne, bne_eq_false_iff_eq, beq_iff_eq, beq_eq_false_iff_ne, ne_eq]
  refine ⟨fun h => ?_, fun h => ?_⟩
  · (refine AWpL.calle (s7) rfl (by rw [hn]; rfl) (by simp (config := { maxSteps := 2000000 }) only [go_sem, ↓reduceIte, Int.reduceToNat, Nat.reduceMul, Int.reduceBEq, Int.reduceBNe, Nat.reduceBEq, Nat.reduceAdd, Nat.reduceSub, Nat.reduceLeDiff, Nat.reduceEqDiff, Nat.reduceLT, reduceCtorEq]) (AWpL.ofM hn rfl ?_); simp (config := { maxSteps := 2000000 }) only [go_sem, ↓reduceIte, Int.reduceToNat, Nat.reduceMul, Int.reduceBEq, Int.reduceBNe, Nat.reduceBEq, Nat.reduceAdd, Nat.reduceSub, Nat.reduceLeDiff, Nat.reduceEqDiff, Nat.reduceLT, reduceCtorEq])
  obtain ⟨h1, h2⟩ := h
  have h40 := causesF_len h1
  have e1 : IntKind.i64.wrap ((cs.length : Int) - 1) = (cs.length : Int) - 1 := w64 (by omega) (by omega)
  have hcr := cut_range k 0 ((cs.length : Int) - 1) (by omega)
  simp (config := { maxSteps := 2000000 }) only [go_sem, ↓reduceIte, Int.reduceToNat, Nat.reduceMul, Int.reduceBEq, Int.reduceBNe, Nat.reduceBEq, Nat.reduceAdd, Nat.reduceSub, Nat.reduceLeDiff, Nat.reduceEqDiff, Nat.reduceLT, reduceCtorEq, e1]
  (refine AWpL.calle (s8 k 0 ((cs.length : Int) - 1) (by omega) (by omega) (by omega)) rfl (by rw [hn]; rfl) (by simp (config := { maxSteps := 2000000 }) only [go_sem, ↓reduceIte, Int.reduceToNat, Nat.reduceMul, Int.reduceBEq, Int.reduceBNe, Nat.reduceBEq, Nat.reduceAdd, Nat.reduceSub, Nat.reduceLeDiff, Nat.reduceEqDiff, Nat.reduceLT, reduceCtorEq]) (AWpL.ofM hn rfl ?_); simp (config := { maxSteps := 2000000 }) only [go_sem, ↓reduceIte, Int.reduceToNat, Nat.reduceMul, Int.reduceBEq, Int.reduceBNe, Nat.reduceBEq, Nat.reduceAdd, Nat.reduceSub, Nat.reduceLeDiff, Nat.reduceEqDiff, Nat.reduceLT, reduceCtorEq])
  obtain ⟨q, hq⟩ : ∃ q : Nat, cut k 0 ((cs.length : Int) - 1) = q := ⟨(cut k 0 ((cs.length : Int) - 1)).toNat, by omega⟩
  have hql : q < cs.length := by omega
  have e2 := getD_map cac hql
  have hmem : cs[q] ∈ cs := List.getElem_mem hql
  generalize cs[q] = c at *
  rw [hq]
  simp (config := { maxSteps := 2000000 }) only [go_sem, ↓reduceIte, Int.reduceToNat, Nat.reduceMul, Int.reduceBEq, Int.reduceBNe, Nat.reduceBEq, Nat.reduceAdd, Nat.reduceSub, Nat.reduceLeDiff, Nat.reduceEqDiff, Nat.reduceLT, reduceCtorEq, e2]
  (repeat (refine And.intro (by first | omega | (refine ⟨by omega, by omega⟩) | (refine ⟨by omega, by omega, by omega⟩) | (simp only [List.length_map, List.length_range, List.length_append, List.length_cons, List.length_nil, List.length_replicate, List.length_set]; omega) | (simp; omega) | (intro hgd; cases hgd) | (intro hgd; refine ⟨hgd, ?_⟩; first | omega | (refine ⟨by omega, by omega⟩) | (simp; omega))) ?_))
  refine AWpL.callA [] (s9 nl fl cs nm' false l c.of hc hs2 (by omega)) rfl rfl (by rw [hn]; rfl) rfl (fun r hr => by cases hr) fun rg v hv => ?_
  obtain ⟨rfl, rfl⟩ := hv
  refine ⟨Nat.zero_le _, AWpL.ofM hn rfl ?_⟩
  simp (config := { maxSteps := 2000000 }) only [go_sem, ↓reduceIte, Int.reduceToNat, Nat.reduceMul, Int.reduceBEq, Int.reduceBNe, Nat.reduceBEq, Nat.reduceAdd, Nat.reduceSub, Nat.reduceLeDiff, Nat.reduceEqDiff, Nat.reduceLT, reduceCtorEq, Aw.retS, Aw.retRg, Aw.kpM, Aw.bkM, Aw.pos, Aw.isBox]
  refine AWpL.callA [] (s9 nl fl cs nm' false l c.by' hc hs2 (by omega)) rfl rfl (by rw [hn]; rfl) rfl (fun r hr => by cases hr) fun rg v hv => ?_
  obtain ⟨rfl, rfl⟩ := hv
  refine ⟨Nat.zero_le _, AWpL.ofM hn rfl ?_⟩
  simp (config := { maxSteps := 2000000 }) only [go_sem, ↓reduceIte, Int.reduceToNat, Nat.reduceMul, Int.reduceBEq, Int.reduceBNe, Nat.reduceBEq, Nat.reduceAdd, Nat.reduceSub, Nat.reduceLeDiff, Nat.reduceEqDiff, Nat.reduceLT, reduceCtorEq, Aw.retS, Aw.retRg, Aw.kpM, Aw.bkM, Aw.pos, Aw.isBox]
  have hdir := fun h1 h2 x hx => explain_direct (l := l) hmem h1 h2 (x := x) hx
  have hne := fun h => explain_ne (cs := cs) (l := l) (n := c.by') h
  have l1 := explainL_len cs l c.of
  have l2 := explainL_len cs l c.by'
  generalize explainE cs l c.of = ea at *
  generalize explainE cs l c.by' = eb at *
  generalize explainL cs l c.of = A at *
  generalize explainL cs l c.by' = Z at *
  simp only [Bool.or_eq_true, Bool.or_eq_false_iff, bne_iff_ne, bne_eq_false_iff_eq, ne_eq]
  refine ⟨fun h => ?_, fun h => ?_⟩
  · (refine AWpL.calle (s7) rfl (by rw [hn]; rfl) (by simp (config := { maxSteps := 2000000 }) only [go_sem, ↓reduceIte, Int.reduceToNat, Nat.reduceMul, Int.reduceBEq, Int.reduceBNe, Nat.reduceBEq, Nat.reduceAdd, Nat.reduceSub, Nat.reduceLeDiff, Nat.reduceEqDiff, Nat.reduceLT, reduceCtorEq]) (AWpL.ofM hn rfl ?_); simp (config := { maxSteps := 2000000 }) only [go_sem, ↓reduceIte, Int.reduceToNat, Nat.reduceMul, Int.reduceBEq, Int.reduceBNe, Nat.reduceBEq, Nat.reduceAdd, Nat.reduceSub, Nat.reduceLeDiff, Nat.reduceEqDiff, Nat.reduceLT, reduceCtorEq])
  have hdir := hdir h.1 h.2
  have hne := hne h.2
  refine AWp.loop (fun m s => ∃ i : Nat, i + m = Z.length ∧ Weak E s ⟨[(8, .imm none false 1 (A.map sc)), (10, .imm none false 1 (Z.map sc)), (59, .imm none false 1 (Z.map sc)), (60, I Z.length), (61, I i)], []⟩) (n := Z.length)
    ⟨0, by omega, weak_to [] hp hnp rfl (by simp (config := { maxSteps := 2000000 }) only [go_sem, ↓reduceIte, Int.reduceToNat, Nat.reduceMul, Int.reduceBEq, Int.reduceBNe, Nat.reduceBEq, Nat.reduceAdd, Nat.reduceSub, Nat.reduceLeDiff, Nat.reduceEqDiff, Nat.reduceLT, reduceCtorEq, Int.natCast_zero]) rfl⟩ ?_
  rintro m s ⟨i, him, hw⟩
  refine AWp.weak hw (AWp.ofD [] [] hn mixed rfl ?_)
  rcases Nat.lt_or_ge i Z.length with hlt | hge
  · have e0 : decide ((i : Int) < (Z.length : Int)) = true := decide_eq_true (by omega)
    have e3 := getD_map sc hlt
    have e4 : IntKind.i64.wrap ((i : Int) + 1) = ((i + 1 : Nat) : Int) := by rw [w64 (by omega) (by omega)]; omega
    have e5 : A.any (seq Z[i]) = true := any_seq.2 (hdir _ (List.getElem_mem hlt))
    generalize Z[i] = x at *
    simp (config := { maxSteps := 2000000 }) only [go_sem, ↓reduceIte, Int.reduceToNat, Nat.reduceMul, Int.reduceBEq, Int.reduceBNe, Nat.reduceBEq, Nat.reduceAdd, Nat.reduceSub, Nat.reduceLeDiff, Nat.reduceEqDiff, Nat.reduceLT, reduceCtorEq, e0, e3]
    (repeat (refine And.intro (by first | omega | (refine ⟨by omega, by omega⟩) | (refine ⟨by omega, by omega, by omega⟩) | (simp only [List.length_map, List.length_range, List.length_append, List.length_cons, List.length_nil, List.length_replicate, List.length_set]; omega) | (simp; omega) | (intro hgd; cases hgd) | (intro hgd; refine ⟨hgd, ?_⟩; first | omega | (refine ⟨by omega, by omega⟩) | (simp; omega))) ?_))
    (refine AWpL.calle (s10 none false A x (by omega)) rfl (by rw [hn]; rfl) (by simp (config := { maxSteps := 2000000 }) only [go_sem, ↓reduceIte, Int.reduceToNat, Nat.reduceMul, Int.reduceBEq, Int.reduceBNe, Nat.reduceBEq, Nat.reduceAdd, Nat.reduceSub, Nat.reduceLeDiff, Nat.reduceEqDiff, Nat.reduceLT, reduceCtorEq]) (AWpL.ofM hn rfl ?_); simp (config := { maxSteps := 2000000 }) only [go_sem, ↓reduceIte, Int.reduceToNat, Nat.reduceMul, Int.reduceBEq, Int.reduceBNe, Nat.reduceBEq, Nat.reduceAdd, Nat.reduceSub, Nat.reduceLeDiff, Nat.reduceEqDiff, Nat.reduceLT, reduceCtorEq])
    rw [e5]
    simp (config := { maxSteps := 2000000 }) only [go_sem, ↓reduceIte, Int.reduceToNat, Nat.reduceMul, Int.reduceBEq, Int.reduceBNe, Nat.reduceBEq, Nat.reduceAdd, Nat.reduceSub, Nat.reduceLeDiff, Nat.reduceEqDiff, Nat.reduceLT, reduceCtorEq, e4]
    exact ⟨m - 1, by omega, i + 1, by omega, weak_to [] hp hnp rfl (by simp (config := { maxSteps := 2000000 }) only [go_sem, ↓reduceIte, Int.reduceToNat, Nat.reduceMul, Int.reduceBEq, Int.reduceBNe, Nat.reduceBEq, Nat.reduceAdd, Nat.reduceSub, Nat.reduceLeDiff, Nat.reduceEqDiff, Nat.reduceLT, reduceCtorEq]) rfl⟩
  · have e0 : decide ((i : Int) < (Z.length : Int)) = false := decide_eq_false (by omega)
    have e5 : decide ((Z.length : Int) > 0) = true := decide_eq_true (by
      have : Z.length ≠ 0 := fun h0 => hne (List.eq_nil_of_length_eq_zero h0)
      omega)
    simp (config := { maxSteps := 2000000 }) only [go_sem, ↓reduceIte, Int.reduceToNat, Nat.reduceMul, Int.reduceBEq, Int.reduceBNe, Nat.reduceBEq, Nat.reduceAdd, Nat.reduceSub, Nat.reduceLeDiff, Nat.reduceEqDiff, Nat.reduceLT, reduceCtorEq, e0]
    (refine AWpL.calle (s7) rfl (by rw [hn]; rfl) (by simp (config := { maxSteps := 2000000 }) only [go_sem, ↓reduceIte, Int.reduceToNat, Nat.reduceMul, Int.reduceBEq, Int.reduceBNe, Nat.reduceBEq, Nat.reduceAdd, Nat.reduceSub, Nat.reduceLeDiff, Nat.reduceEqDiff, Nat.reduceLT, reduceCtorEq]) (AWpL.ofM hn rfl ?_); simp (config := { maxSteps := 2000000 }) only [go_sem, ↓reduceIte, Int.reduceToNat, Nat.reduceMul, Int.reduceBEq, Int.reduceBNe, Nat.reduceBEq, Nat.reduceAdd, Nat.reduceSub, Nat.reduceLeDiff, Nat.reduceEqDiff, Nat.reduceLT, reduceCtorEq])
    simp (config := { maxSteps := 2000000 }) only [go_sem, ↓reduceIte, Int.reduceToNat, Nat.reduceMul, Int.reduceBEq, Int.reduceBNe, Nat.reduceBEq, Nat.reduceAdd, Nat.reduceSub, Nat.reduceLeDiff, Nat.reduceEqDiff, Nat.reduceLT, reduceCtorEq, e5]
set_option maxRecDepth 20000 in
set_option maxHeartbeats 1000000 in
theorem s4 (nl fl) (cs : List Cau) (nm' fm) (l0 : List ByteArray) (hc : ∀ c ∈ cs, CauOk c) (hs : ∀ x ∈ l0, x.size ≤ 9223372036854775807) (hl0 : l0.length ≤ 9223372036854775807) :
    Aw.Spec Try.prog 4 [] [cas nl fl cs, ss nm' fm l0] (Gives (· = B true)) := by
  refine Aw.Spec.givesW k4 rfl rfl fun E hn hnp hp => ?_
  unfold a4
  have pin : ∀ r, E.pin r = none := fun r => hp.none hnp (Nat.zero_le _)
  have hs2 : ∀ x ∈ l0.take 10, x.size ≤ 9223372036854775807 := fun x hx => hs x (List.mem_of_mem_take hx)
  have hl10 : (l0.take 10).length ≤ 10 := by rw [List.length_take]; omega
  refine AWp.ofD [] [] hn mixed rfl ?_
  simp (config := { maxSteps := 2000000 }) only [go_sem, ↓reduceIte, Int.reduceToNat, Nat.reduceMul, Int.reduceBEq, Int.reduceBNe, Nat.reduceBEq, Nat.reduceAdd, Nat.reduceSub, Nat.reduceLeDiff, Nat.reduceEqDiff, Nat.reduceLT, reduceCtorEq, minT10]
  (repeat (refine And.intro (by first | omega | (refine ⟨by omega, by omega⟩) | (refine ⟨by omega, by omega, by omega⟩) | (simp only [List.length_map, List.length_range, List.length_append, List.length_cons, List.length_nil, List.length_replicate, List.length_set]; omega) | (simp; omega) | (intro hgd; cases hgd) | (intro hgd; refine ⟨hgd, ?_⟩; first | omega | (refine ⟨by omega, by omega⟩) | (simp; omega))) ?_))
  generalize l0.take 10 = l at *
  refine AWpL.callA [] (s11 nl fl cs nm' false l hc hs2) rfl rfl (by rw [hn]; rfl) rfl (fun r hr => by cases hr) fun rg v hv => ?_
  obtain ⟨rfl, rfl⟩ := hv
  refine ⟨Nat.zero_le _, AWpL.ofM hn rfl ?_⟩
  simp (config := { maxSteps := 2000000 }) only [go_sem, ↓reduceIte, Int.reduceToNat, Nat.reduceMul, Int.reduceBEq, Int.reduceBNe, Nat.reduceBEq, Nat.reduceAdd, Nat.reduceSub, Nat.reduceLeDiff, Nat.reduceEqDiff, Nat.reduceLT, reduceCtorEq, Aw.retS, Aw.retRg, Aw.kpM, Aw.bkM, Aw.pos, Aw.isBox]
  simp only [bne_iff_ne, ne_eq, bne_eq_false_iff_eq]
  have hnil : causesE cs l ≠ 0 → causesL cs l = [] := fun h => if_neg h
  refine ⟨fun h => ?_, fun h => ?_⟩
  · (refine AWpL.calle (s7) rfl (by rw [hn]; rfl) (by simp (config := { maxSteps := 2000000 }) only [go_sem, ↓reduceIte, Int.reduceToNat, Nat.reduceMul, Int.reduceBEq, Int.reduceBNe, Nat.reduceBEq, Nat.reduceAdd, Nat.reduceSub, Nat.reduceLeDiff, Nat.reduceEqDiff, Nat.reduceLT, reduceCtorEq]) (AWpL.ofM hn rfl ?_); simp (config := { maxSteps := 2000000 }) only [go_sem, ↓reduceIte, Int.reduceToNat, Nat.reduceMul, Int.reduceBEq, Int.reduceBNe, Nat.reduceBEq, Nat.reduceAdd, Nat.reduceSub, Nat.reduceLeDiff, Nat.reduceEqDiff, Nat.reduceLT, reduceCtorEq])
    rw [hnil h]
    rfl
  have hl2 := causesL_len cs l
  refine AWp.loop (fun m s => ∃ i : Nat, i + m = l.length ∧ Weak E s ⟨[(0, cas nl fl cs), (1, ss nm' false l), (5, .imm none false 1 ((causesL cs l).map sc)), (32, ss nm' false l), (33, I l.length), (34, I i)], []⟩) (n := l.length)
    ⟨0, by omega, weak_to [] hp hnp rfl (by simp (config := { maxSteps := 2000000 }) only [go_sem, ↓reduceIte, Int.reduceToNat, Nat.reduceMul, Int.reduceBEq, Int.reduceBNe, Nat.reduceBEq, Nat.reduceAdd, Nat.reduceSub, Nat.reduceLeDiff, Nat.reduceEqDiff, Nat.reduceLT, reduceCtorEq, Int.natCast_zero]) rfl⟩ ?_
  rintro m s ⟨i, him, hw⟩
  refine AWp.weak hw (AWp.ofD [] [] hn mixed rfl ?_)
  rcases Nat.lt_or_ge i l.length with hlt | hge
  · have e0 : decide ((i : Int) < (l.length : Int)) = true := decide_eq_true (by omega)
    have e3 := getD_map sc hlt
    have e4 : IntKind.i64.wrap ((i : Int) + 1) = ((i + 1 : Nat) : Int) := by rw [w64 (by omega) (by omega)]; omega
    have hmem : l[i] ∈ l := List.getElem_mem hlt
    generalize l[i] = x at *
    have hE : explainE cs l x = 0 := explainE_zero.2 ⟨h, by
      obtain ⟨q, _, h2, _⟩ := sIndex_mem' hmem
      omega⟩
    have hne := explain_ne hE
    have hso := explain_sorted cs l x
    have hsub := fun y hy => explain_sub (cs := cs) (l := l) (n := x) (x := y) hy
    have hself := fun hm => explain_self hE hm
    have hle := explainL_len cs l x
    simp (config := { maxSteps := 2000000 }) only [go_sem, ↓reduceIte, Int.reduceToNat, Nat.reduceMul, Int.reduceBEq, Int.reduceBNe, Nat.reduceBEq, Nat.reduceAdd, Nat.reduceSub, Nat.reduceLeDiff, Nat.reduceEqDiff, Nat.reduceLT, reduceCtorEq, e0, e3]
    (repeat (refine And.intro (by first | omega | (refine ⟨by omega, by omega⟩) | (refine ⟨by omega, by omega, by omega⟩) | (simp only [List.length_map, List.length_range, List.length_append, List.length_cons, List.length_nil, List.length_replicate, List.length_set]; omega) | (simp; omega) | (intro hgd; cases hgd) | (intro hgd; refine ⟨hgd, ?_⟩; first | omega | (refine ⟨by omega, by omega⟩) | (simp; omega))) ?_))
    refine AWpL.callA [] (s9 nl fl cs nm' false l x hc hs2 (by omega)) rfl rfl (by rw [hn]; rfl) rfl (fun r hr => by cases hr) fun rg v hv => ?_
    obtain ⟨rfl, rfl⟩ := hv
    refine ⟨Nat.zero_le _, AWpL.ofM hn rfl ?_⟩
    rw [hE]
    generalize explainL cs l x = W at *
    generalize causesL cs l = A at *
    have hw0 : W.length ≠ 0 := fun h0 => hne (List.eq_nil_of_length_eq_zero h0)
    have e5 : ((W.length : Int) == 0) = false := beq_eq_false_iff_ne.2 (by omega)
    simp (config := { maxSteps := 2000000 }) only [go_sem, ↓reduceIte, Int.reduceToNat, Nat.reduceMul, Int.reduceBEq, Int.reduceBNe, Nat.reduceBEq, Nat.reduceAdd, Nat.reduceSub, Nat.reduceLeDiff, Nat.reduceEqDiff, Nat.reduceLT, reduceCtorEq, Aw.retS, Aw.retRg, Aw.kpM, Aw.bkM, Aw.pos, Aw.isBox, e5]
    refine AWpL.gcalle (b := true) (by simp (config := { maxSteps := 2000000 }) only [go_sem, ↓reduceIte, Int.reduceToNat, Nat.reduceMul, Int.reduceBEq, Int.reduceBNe, Nat.reduceBEq, Nat.reduceAdd, Nat.reduceSub, Nat.reduceLeDiff, Nat.reduceEqDiff, Nat.reduceLT, reduceCtorEq]) (fun _ => s12 none false W hso (by omega)) rfl (by rw [hn]; rfl) (fun hb => by simp (config := { maxSteps := 2000000 }) only [go_sem, ↓reduceIte, Int.reduceToNat, Nat.reduceMul, Int.reduceBEq, Int.reduceBNe, Nat.reduceBEq, Nat.reduceAdd, Nat.reduceSub, Nat.reduceLeDiff, Nat.reduceEqDiff, Nat.reduceLT, reduceCtorEq]) (AWpL.ofM hn rfl ?_)
    simp (config := { maxSteps := 2000000 }) only [go_sem, ↓reduceIte, Int.reduceToNat, Nat.reduceMul, Int.reduceBEq, Int.reduceBNe, Nat.reduceBEq, Nat.reduceAdd, Nat.reduceSub, Nat.reduceLeDiff, Nat.reduceEqDiff, Nat.reduceLT, reduceCtorEq]
    refine AWp.loop (fun m2 s => ∃ j : Nat, j + m2 = W.length ∧ Weak E s ⟨[(0, cas nl fl cs), (1, ss nm' false l), (5, .imm none false 1 (A.map sc)), (8, S x), (9, .imm none false 1 (W.map sc)), (32, ss nm' false l), (33, I l.length), (34, I i), (57, .imm none false 1 (W.map sc)), (58, I W.length), (59, I j)], []⟩) (n := W.length)
      ⟨0, by omega, weak_to [] hp hnp rfl (by simp (config := { maxSteps := 2000000 }) only [go_sem, ↓reduceIte, Int.reduceToNat, Nat.reduceMul, Int.reduceBEq, Int.reduceBNe, Nat.reduceBEq, Nat.reduceAdd, Nat.reduceSub, Nat.reduceLeDiff, Nat.reduceEqDiff, Nat.reduceLT, reduceCtorEq, Int.natCast_zero]) rfl⟩ ?_
    rintro m2 s ⟨j, hjm, hw⟩
    refine AWp.weak hw (AWp.ofD [] [] hn mixed rfl ?_)
    rcases Nat.lt_or_ge j W.length with hlj | hgj
    · have e0 : decide ((j : Int) < (W.length : Int)) = true := decide_eq_true (by omega)
      have e6 := getD_map sc hlj
      have e7 : IntKind.i64.wrap ((j : Int) + 1) = ((j + 1 : Nat) : Int) := by rw [w64 (by omega) (by omega)]; omega
      have e8 : A.any (seq W[j]) = true := any_seq.2 (hsub _ (List.getElem_mem hlj))
      generalize W[j] = y at *
      simp (config := { maxSteps := 2000000 }) only [go_sem, ↓reduceIte, Int.reduceToNat, Nat.reduceMul, Int.reduceBEq, Int.reduceBNe, Nat.reduceBEq, Nat.reduceAdd, Nat.reduceSub, Nat.reduceLeDiff, Nat.reduceEqDiff, Nat.reduceLT, reduceCtorEq, e0, e6]
      (repeat (refine And.intro (by first | omega | (refine ⟨by omega, by omega⟩) | (refine ⟨by omega, by omega, by omega⟩) | (simp only [List.length_map, List.length_range, List.length_append, List.length_cons, List.length_nil, List.length_replicate, List.length_set]; omega) | (simp; omega) | (intro hgd; cases hgd) | (intro hgd; refine ⟨hgd, ?_⟩; first | omega | (refine ⟨by omega, by omega⟩) | (simp; omega))) ?_))
      (refine AWpL.calle (s10 none false A y (by omega)) rfl (by rw [hn]; rfl) (by simp (config := { maxSteps := 2000000 }) only [go_sem, ↓reduceIte, Int.reduceToNat, Nat.reduceMul, Int.reduceBEq, Int.reduceBNe, Nat.reduceBEq, Nat.reduceAdd, Nat.reduceSub, Nat.reduceLeDiff, Nat.reduceEqDiff, Nat.reduceLT, reduceCtorEq]) (AWpL.ofM hn rfl ?_); simp (config := { maxSteps := 2000000 }) only [go_sem, ↓reduceIte, Int.reduceToNat, Nat.reduceMul, Int.reduceBEq, Int.reduceBNe, Nat.reduceBEq, Nat.reduceAdd, Nat.reduceSub, Nat.reduceLeDiff, Nat.reduceEqDiff, Nat.reduceLT, reduceCtorEq])
      rw [e8]
      simp (config := { maxSteps := 2000000 }) only [go_sem, ↓reduceIte, Int.reduceToNat, Nat.reduceMul, Int.reduceBEq, Int.reduceBNe, Nat.reduceBEq, Nat.reduceAdd, Nat.reduceSub, Nat.reduceLeDiff, Nat.reduceEqDiff, Nat.reduceLT, reduceCtorEq, e7]
      exact ⟨m2 - 1, by omega, j + 1, by omega, weak_to [] hp hnp rfl (by simp (config := { maxSteps := 2000000 }) only [go_sem, ↓reduceIte, Int.reduceToNat, Nat.reduceMul, Int.reduceBEq, Int.reduceBNe, Nat.reduceBEq, Nat.reduceAdd, Nat.reduceSub, Nat.reduceLeDiff, Nat.reduceEqDiff, Nat.reduceLT, reduceCtorEq]) rfl⟩
    · have e0 : decide ((j : Int) < (W.length : Int)) = false := decide_eq_false (by omega)
      simp (config := { maxSteps := 2000000 }) only [go_sem, ↓reduceIte, Int.reduceToNat, Nat.reduceMul, Int.reduceBEq, Int.reduceBNe, Nat.reduceBEq, Nat.reduceAdd, Nat.reduceSub, Nat.reduceLeDiff, Nat.reduceEqDiff, Nat.reduceLT, reduceCtorEq, e0]
      refine AWpL.calle (s10 none false A x (by omega)) rfl (by rw [hn]; rfl) (by simp (config := { maxSteps := 2000000 }) only [go_sem, ↓reduceIte, Int.reduceToNat, Nat.reduceMul, Int.reduceBEq, Int.reduceBNe, Nat.reduceBEq, Nat.reduceAdd, Nat.reduceSub, Nat.reduceLeDiff, Nat.reduceEqDiff, Nat.reduceLT, reduceCtorEq]) ?_
      cases hin : A.any (seq x) with
      | true =>
        have hWx : W = [x] := hself (any_seq.1 hin)
        refine AWpL.upto 3 hn rfl ?_
        simp (config := { maxSteps := 2000000 }) only [go_sem, ↓reduceIte, Int.reduceToNat, Nat.reduceMul, Int.reduceBEq, Int.reduceBNe, Nat.reduceBEq, Nat.reduceAdd, Nat.reduceSub, Nat.reduceLeDiff, Nat.reduceEqDiff, Nat.reduceLT, reduceCtorEq]
        refine AWpL.weak (weak_opt 72 rfl) (AWpL.weak (weak_opt 73 rfl) (AWpL.guardT rfl (AWpL.ofM hn rfl ?_)))
        simp (config := { maxSteps := 2000000 }) only [go_sem, ↓reduceIte, Int.reduceToNat, Nat.reduceMul, Int.reduceBEq, Int.reduceBNe, Nat.reduceBEq, Nat.reduceAdd, Nat.reduceSub, Nat.reduceLeDiff, Nat.reduceEqDiff, Nat.reduceLT, reduceCtorEq]
        refine AWpL.weak (weak_freeze 0 rfl (pin 0) (by simp (config := { maxSteps := 2000000 }) only [go_sem, ↓reduceIte, Int.reduceToNat, Nat.reduceMul, Int.reduceBEq, Int.reduceBNe, Nat.reduceBEq, Nat.reduceAdd, Nat.reduceSub, Nat.reduceLeDiff, Nat.reduceEqDiff, Nat.reduceLT, reduceCtorEq, Nat.le_refl])) ?_
        simp (config := { maxSteps := 2000000 }) only [go_sem, ↓reduceIte, Int.reduceToNat, Nat.reduceMul, Int.reduceBEq, Int.reduceBNe, Nat.reduceBEq, Nat.reduceAdd, Nat.reduceSub, Nat.reduceLeDiff, Nat.reduceEqDiff, Nat.reduceLT, reduceCtorEq]
        refine AWpL.guardT rfl ?_
        subst hWx
        refine AWpL.calle (s13 none false none true [x] (by simp)) rfl (by rw [hn]; rfl) (by simp (config := { maxSteps := 2000000 }) only [go_sem, ↓reduceIte, Int.reduceToNat, Nat.reduceMul, Int.reduceBEq, Int.reduceBNe, Nat.reduceBEq, Nat.reduceAdd, Nat.reduceSub, Nat.reduceLeDiff, Nat.reduceEqDiff, Nat.reduceLT, reduceCtorEq]) (AWpL.ofM hn rfl ?_)
        simp (config := { maxSteps := 2000000 }) only [go_sem, ↓reduceIte, Int.reduceToNat, Nat.reduceMul, Int.reduceBEq, Int.reduceBNe, Nat.reduceBEq, Nat.reduceAdd, Nat.reduceSub, Nat.reduceLeDiff, Nat.reduceEqDiff, Nat.reduceLT, reduceCtorEq, e4]
        exact ⟨m - 1, by omega, i + 1, by omega, weak_to [] hp hnp rfl (by simp (config := { maxSteps := 2000000 }) only [go_sem, ↓reduceIte, Int.reduceToNat, Nat.reduceMul, Int.reduceBEq, Int.reduceBNe, Nat.reduceBEq, Nat.reduceAdd, Nat.reduceSub, Nat.reduceLeDiff, Nat.reduceEqDiff, Nat.reduceLT, reduceCtorEq]) rfl⟩
      | false =>
        refine AWpL.upto 1 hn rfl ?_
        simp (config := { maxSteps := 2000000 }) only [go_sem, ↓reduceIte, Int.reduceToNat, Nat.reduceMul, Int.reduceBEq, Int.reduceBNe, Nat.reduceBEq, Nat.reduceAdd, Nat.reduceSub, Nat.reduceLeDiff, Nat.reduceEqDiff, Nat.reduceLT, reduceCtorEq]
        refine AWpL.skips hn 71 true 5 (by rfl) rfl ?_
        simp (config := { maxSteps := 2000000 }) only [go_sem, ↓reduceIte, Int.reduceToNat, Nat.reduceMul, Int.reduceBEq, Int.reduceBNe, Nat.reduceBEq, Nat.reduceAdd, Nat.reduceSub, Nat.reduceLeDiff, Nat.reduceEqDiff, Nat.reduceLT, reduceCtorEq]
        refine AWpL.weak (weak_ent 76 (y := .opt false (B false)) (by rfl) Ent.off) (AWpL.ofM hn rfl ?_)
        simp (config := { maxSteps := 2000000 }) only [go_sem, ↓reduceIte, Int.reduceToNat, Nat.reduceMul, Int.reduceBEq, Int.reduceBNe, Nat.reduceBEq, Nat.reduceAdd, Nat.reduceSub, Nat.reduceLeDiff, Nat.reduceEqDiff, Nat.reduceLT, reduceCtorEq, e4]
        exact ⟨m - 1, by omega, i + 1, by omega, weak_to [] hp hnp rfl (by simp (config := { maxSteps := 2000000 }) only [go_sem, ↓reduceIte, Int.reduceToNat, Nat.reduceMul, Int.reduceBEq, Int.reduceBNe, Nat.reduceBEq, Nat.reduceAdd, Nat.reduceSub, Nat.reduceLeDiff, Nat.reduceEqDiff, Nat.reduceLT, reduceCtorEq]) rfl⟩
  · have e0 : decide ((i : Int) < (l.length : Int)) = false := decide_eq_false (by omega)
    simp (config := { maxSteps := 2000000 }) only [go_sem, ↓reduceIte, Int.reduceToNat, Nat.reduceMul, Int.reduceBEq, Int.reduceBNe, Nat.reduceBEq, Nat.reduceAdd, Nat.reduceSub, Nat.reduceLeDiff, Nat.reduceEqDiff, Nat.reduceLT, reduceCtorEq, e0]
    (refine AWpL.calle (s7) rfl (by rw [hn]; rfl) (by simp (config := { maxSteps := 2000000 }) only [go_sem, ↓reduceIte, Int.reduceToNat, Nat.reduceMul, Int.reduceBEq, Int.reduceBNe, Nat.reduceBEq, Nat.reduceAdd, Nat.reduceSub, Nat.reduceLeDiff, Nat.reduceEqDiff, Nat.reduceLT, reduceCtorEq]) (AWpL.ofM hn rfl ?_); simp (config := { maxSteps := 2000000 }) only [go_sem, ↓reduceIte, Int.reduceToNat, Nat.reduceMul, Int.reduceBEq, Int.reduceBNe, Nat.reduceBEq, Nat.reduceAdd, Nat.reduceSub, Nat.reduceLeDiff, Nat.reduceEqDiff, Nat.reduceLT, reduceCtorEq])
end Go.Proofs.Ytoickofcmngdjaa
