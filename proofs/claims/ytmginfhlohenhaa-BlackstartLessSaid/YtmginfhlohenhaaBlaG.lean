/- Black starts: the next step. -/
import Derived.Test.YtmginfhlohenhaaAwZk
import Derived.Test.YtmginfhlohenhaaBlaF
import Derived.Test.YtmginfhlohenhaaBlaK
set_option linter.unusedVariables false
set_option linter.unusedSimpArgs false
namespace Go.Proofs.Ytmginfhlohenhaa
open Go.Proofs.Ytmginfhlohenhaa.Aw
attribute [local go_sem] Int.natCast_zero Int.natCast_one bne_self_eq_false beq_self_eq_true Bool.not_true Bool.not_false Option.isSome_none Option.isSome_some Aw.bkM_nil Option.getD_some Option.getD_none Nat.sub_zero Int.toNat_zero Aw.frzS Aw.frzT Aw.frzA Aw.frzL Aw.frzR Aw.frzO Aw.frzOL Aw.frzOT Aw.frzOR Aw.killS Aw.mapT Aw.mapR Aw.killM Aw.resAVs Aw.resAV Aw.quietOps Aw.wpP Aw.wpT Aw.wpS Aw.AOp.mild List.getElem?_cons_zero List.getElem?_cons_succ Bool.and_false Bool.and_self Bool.false_and Aw.opOb Aw.gdB Aw.Rnd Aw.subTm List.length_map Int.toNat_natCast and_self Aw.SeqC Aw.stops Aw.Ends Aw.looks Aw.renA Aw.renL Aw.renT Aw.renS Aw.wpO Aw.aop Aw.putTm Aw.St.ev Aw.St.put Aw.St.putO Aw.binAV Aw.intBin Aw.strBin Aw.pickAV Aw.optInt Aw.AV.strip Aw.AV.guard Aw.AV.cells Aw.gdOb Aw.AOp.opds Aw.AOp.still Aw.ptrCells Aw.St.reg Aw.fillAV Aw.fillOb Aw.elsOb Aw.splice Aw.firm Aw.cellish Aw.AV.shut Aw.shutAll Aw.Seq Aw.Blk Aw.retS_nil Aw.mapA Aw.mapL Aw.borA Aw.borOb Aw.allOb Aw.tupOf Aw.params Aw.Opd.of Array.toList Value.cells List.map_cons List.map_nil List.getD_cons_zero List.getD_cons_succ List.getD_nil List.length_cons List.length_nil List.take_succ_cons List.take_zero List.take_nil List.drop_zero List.drop_succ_cons List.drop_nil List.set_cons_zero List.set_cons_succ List.append_nil List.nil_append List.cons_append List.all_cons List.all_nil cond_false cond_true if_true if_false true_and and_true Bool.and_true Bool.true_and Option.map_some Option.map_none false_implies forall_const implies_true forall_eq imp_self Bool.cond_false_right Bool.cond_true_left beq_true beq_false Bool.not_eq_true' Bool.false_eq_true Nat.zero_add Nat.add_zero Aw.eqCells Aw.stopDraw Aw.skipS Aw.exactCap Aw.revealS Aw.srcEls Aw.srcSz
attribute [local go_sem ↓] Aw.look_nil Aw.look_ite Aw.wpL_nil Aw.wpL_op Aw.wpL_gd Aw.wpQ_nil Aw.wpQ_op Aw.wpQ_gd Aw.wpC_draw Aw.wpC_reg Aw.wpC_skip Aw.wpC_ret Aw.wpC_exit Aw.wpC_seq Aw.wpC_block Aw.wpC_loop Aw.wpC_cond Aw.stopAt_nil Aw.stopAt_cons Aw.wpD_skip Aw.wpD_ret Aw.wpD_exit Aw.wpD_region Aw.wpD_draw Aw.wpM_nil Aw.wpM_op Aw.wpM_gd Aw.wpD_seq Aw.wpD_block Aw.wpD_loop Aw.wpD_cond
/- gridhall/blackstart.gen -/
def a60 : ACode :=
  (.seq (.region false [] [
     ⟨(some 2), none, (.box 29 (.t 0))⟩,
     ⟨(some 3), none, (.box 9 (.t 1))⟩,
     ⟨(some 4), none, (.mov (.v (.int .i64 0)))⟩])
  (.seq (.region false [] [
     ⟨(some 5), none, (.fld 3 (.t 2))⟩,
     ⟨(some 6), none, (.load 1 false (.t 5))⟩,
     ⟨(some 7), none, (.mkfn 66 [(.t 3)])⟩,
     ⟨(some 8), none, (.call 48 [(.t 6), (.t 7)])⟩,
     ⟨(some 4), none, (.mov (.t 8))⟩])
  .ret))
theorem k60 : FnIs Try.prog 60 9 [.t 4] a60 := ⟨_, _, Try.func60, rfl, by kernel_rfl, by kernel_rfl, rfl⟩
/- gridhall/blackstart.gen$1 -/
def a66 : ACode :=
  (.seq (.region false [] [
     ⟨(some 2), none, (.box 55 (.t 0))⟩,
     ⟨(some 3), none, (.mov (.v (.bool false)))⟩])
  (.seq (.region false [] [
     ⟨(some 4), none, (.fld 0 (.t 2))⟩,
     ⟨(some 5), none, (.load 1 false (.t 4))⟩,
     ⟨(some 6), none, (.load 1 false (.t 1))⟩,
     ⟨(some 7), none, (.bin .eql 9 (.t 5) (.t 6))⟩,
     ⟨(some 3), none, (.mov (.t 7))⟩])
  .ret))
theorem k66 : FnIs Try.prog 66 8 [.t 3] a66 := ⟨_, _, Try.func66, rfl, by kernel_rfl, by kernel_rfl, rfl⟩
/- gridhall/blackstart.check -/
def a32 : ACode :=
  (.seq (.region false [] [
     ⟨(some 2), none, (.box 29 (.t 0))⟩,
     ⟨(some 4), none, (.mov (.v (.int .i64 0)))⟩])
  (.seq (.seq (.region false [] [
     ⟨(some 8), none, (.load 6 true (.t 2))⟩,
     ⟨(some 9), none, (.call 6 [(.t 8)])⟩,
     ⟨(some 5), none, (.mov (.t 9))⟩])
  (.seq (.region false [] [
     ⟨(some 10), none, (.mov (.t 5))⟩,
     ⟨(some 11), none, (.bin .neq 30 (.t 10) (.v (.int .i64 0)))⟩])
  (.cond (.t 11)
    (.seq (.region false [] [
       ⟨(some 12), none, (.mov (.t 5))⟩,
       ⟨(some 4), none, (.mov (.t 12))⟩])
    .ret)
    .skip)))
  (.seq (.seq (.region false [] [
     ⟨(some 13), none, (.mov (.t 1))⟩,
     ⟨(some 14), none, (.len (.t 13))⟩,
     ⟨(some 15), none, (.mov (.v (.int .i64 0)))⟩])
  (.block 0 (.loop (.seq (.region false [] [
       ⟨(some 16), none, (.bin .lss 3 (.t 15) (.t 14))⟩])
    (.seq (.cond (.t 16)
      .skip
      (.exit 0))
    (.seq (.block 1 (.seq (.region false [] [
        ⟨(some 17), none, (.mov (.t 15))⟩,
        ⟨(some 18), none, (.idx 1 (.t 13) (.t 15))⟩,
        ⟨(some 19), none, (.load 1 false (.t 18))⟩,
        ⟨(some 6), none, (.mov (.t 17))⟩,
        ⟨(some 7), none, (.mov (.t 19))⟩])
     (.block 2 (.seq (.region false [] [
         ⟨(some 21), none, (.load 6 true (.t 2))⟩,
         ⟨(some 22), none, (.mov (.t 7))⟩,
         ⟨(some 23), none, (.call 60 [(.t 21), (.t 22)])⟩,
         ⟨(some 24), none, (.bin .lss 3 (.t 23) (.v (.int .i64 0)))⟩,
         ⟨(some 20), none, (.mov (.t 24))⟩])
      (.cond (.t 20)
        (.seq (.region false [] [
           ⟨(some 4), none, (.mov (.v (.int .i64 6)))⟩])
        .ret)
        (.seq (.region false [] [
           ⟨(some 26), none, (.mov (.t 1))⟩,
           ⟨(some 27), none, (.mov (.t 6))⟩,
           ⟨(some 28), none, (.slc 1 (.t 26) none (some (.t 27)) none)⟩,
           ⟨(some 29), none, (.mov (.t 7))⟩,
           ⟨(some 30), none, (.call 39 [(.t 28), (.t 29)])⟩,
           ⟨(some 25), none, (.mov (.t 30))⟩])
        (.cond (.t 25)
          (.seq (.region false [] [
             ⟨(some 4), none, (.mov (.v (.int .i64 7)))⟩])
          .ret)
          .skip)))))))
    (.region false [] [
       ⟨(some 31), none, (.bin .add 3 (.t 15) (.v (.int .i64 1)))⟩,
       ⟨(some 15), none, (.mov (.t 31))⟩])))))))
  (.seq (.region false [] [
     ⟨(some 4), none, (.mov (.v (.int .i64 0)))⟩])
  .ret))))
theorem k32 : FnIs Try.prog 32 32 [.t 4] a32 := ⟨_, _, Try.func32, rfl, by kernel_rfl, by kernel_rfl, rfl⟩
/- gridhall/blackstart.next -/
def a33 : ACode :=
  (.seq (.region false [] [
     ⟨(some 2), none, (.box 29 (.t 0))⟩,
     ⟨(some 4), none, (.alloc 50 (.agg #[(.string ⟨#[]⟩), (.slice none 0 0)]))⟩,
     ⟨(some 5), none, (.mov (.v (.bool false)))⟩])
  (.seq (.region false [] [
     ⟨(some 6), none, (.alloc 50 (.agg #[(.string ⟨#[]⟩), (.slice none 0 0)]))⟩])
  (.seq (.seq (.region false [] [
     ⟨(some 13), none, (.fld 3 (.t 2))⟩,
     ⟨(some 14), none, (.load 1 false (.t 13))⟩,
     ⟨(some 15), none, (.len (.t 14))⟩,
     ⟨(some 16), none, (.mov (.v (.int .i64 0)))⟩])
  (.block 0 (.loop (.seq (.region false [] [
       ⟨(some 17), none, (.bin .lss 3 (.t 16) (.t 15))⟩])
    (.seq (.cond (.t 17)
      .skip
      (.exit 0))
    (.seq (.block 1 (.seq (.region false [] [
        ⟨(some 18), none, (.idx 5 (.t 14) (.t 16))⟩,
        ⟨(some 19), none, (.load 5 true (.t 18))⟩,
        ⟨(some 8), none, (.alloc 55 (.agg #[(.string ⟨#[]⟩), (.string ⟨#[]⟩), (.int .i64 0), (.int .i64 0), (.int .i64 0)]))⟩,
        ⟨none, none, (.store 5 (.t 8) (.t 19))⟩])
     (.seq (.seq (.region false [] [
        ⟨(some 20), none, (.mov (.t 1))⟩,
        ⟨(some 21), none, (.fld 0 (.t 8))⟩,
        ⟨(some 22), none, (.load 1 false (.t 21))⟩,
        ⟨(some 23), none, (.call 39 [(.t 20), (.t 22)])⟩])
     (.cond (.t 23)
       (.exit 1)
       .skip))
     (.seq (.region false [] [
        ⟨(some 24), none, (.mov (.t 1))⟩,
        ⟨(some 25), none, (.len (.t 24))⟩,
        ⟨(some 26), none, (.mov (.v (.int .i64 0)))⟩])
     (.block 2 (.loop (.seq (.region false [] [
          ⟨(some 27), none, (.bin .lss 3 (.t 26) (.t 25))⟩])
       (.seq (.cond (.t 27)
         .skip
         (.exit 2))
       (.seq (.block 3 (.seq (.region false [] [
           ⟨(some 28), none, (.idx 1 (.t 24) (.t 26))⟩,
           ⟨(some 29), none, (.load 1 false (.t 28))⟩,
           ⟨(some 10), none, (.mov (.t 29))⟩])
        (.seq (.region true [[], [], [1], [], [], [3, 4], [2, 5], [6], [7], [], [9], [0, 8, 10, 5], [11], [12], [12], [13, 11, 0, 1, 2, 3, 4, 5, 6, 7, 8, 9, 10, 11, 12, 13], [14, 15, 0, 1, 2, 3, 4, 5, 6, 7, 8, 9, 10, 11, 12, 13, 14, 15]] [
           ⟨(some 31), none, (.load 6 true (.t 2))⟩,
           ⟨(some 32), none, (.fld 3 (.t 2))⟩,
           ⟨(some 33), none, (.load 1 false (.t 32))⟩,
           ⟨(some 34), none, (.load 6 true (.t 2))⟩,
           ⟨(some 35), none, (.mov (.t 10))⟩,
           ⟨(some 36), none, (.call 60 [(.t 34), (.t 35)])⟩,
           ⟨(some 37), none, (.idx 5 (.t 33) (.t 36))⟩,
           ⟨(some 38), none, (.fld 1 (.t 37))⟩,
           ⟨(some 39), none, (.load 1 false (.t 38))⟩,
           ⟨(some 40), none, (.fld 1 (.t 8))⟩,
           ⟨(some 41), none, (.load 1 false (.t 40))⟩,
           ⟨(some 42), none, (.call 28 [(.t 31), (.t 39), (.t 41)])⟩,
           ⟨(some 30), none, (.mov (.t 42))⟩,
           ⟨(some 43), none, (.ext 0 (.t 30))⟩,
           ⟨(some 44), none, (.ext 1 (.t 30))⟩,
           ⟨(some 11), none, (.mov (.t 43))⟩,
           ⟨(some 12), none, (.mov (.t 44))⟩])
        (.seq (.region false [] [
           ⟨(some 45), none, (.mov (.t 12))⟩,
           ⟨(some 46), none, (.mov (.t 45))⟩,
           ⟨(some 47), (some (46, true)), (.fld 0 (.t 6))⟩,
           ⟨(some 48), (some (46, true)), (.load 1 false (.t 47))⟩,
           ⟨(some 49), (some (46, true)), (.bin .eql 9 (.t 48) (.v (.string ⟨#[]⟩)))⟩,
           ⟨(some 50), (some (46, true)), (.mov (.t 49))⟩,
           ⟨(some 51), (some (50, false)), (.mov (.t 11))⟩,
           ⟨(some 52), (some (50, false)), (.len (.t 51))⟩,
           ⟨(some 53), (some (50, false)), (.fld 1 (.t 6))⟩,
           ⟨(some 54), (some (50, false)), (.load 1 false (.t 53))⟩,
           ⟨(some 55), (some (50, false)), (.len (.t 54))⟩,
           ⟨(some 56), (some (50, false)), (.bin .lss 3 (.t 52) (.t 55))⟩,
           ⟨(some 57), (some (46, true)), (.pick (.t 50) (.v (.bool true)) (.t 56))⟩,
           ⟨(some 58), none, (.pick (.t 46) (.t 57) (.v (.bool false)))⟩])
        (.cond (.t 58)
          (.region false [] [
             ⟨(some 59), none, (.fld 0 (.t 8))⟩,
             ⟨(some 60), none, (.load 1 false (.t 59))⟩,
             ⟨(some 61), none, (.mov (.t 11))⟩,
             ⟨(some 62), none, (.build (.agg #[(.string ⟨#[]⟩), (.slice none 0 0)]) [(0, (1, (.t 60))), (1, (1, (.t 61)))])⟩,
             ⟨none, none, (.store 2 (.t 6) (.t 62))⟩])
          .skip)))))
       (.region false [] [
          ⟨(some 63), none, (.bin .add 3 (.t 26) (.v (.int .i64 1)))⟩,
          ⟨(some 26), none, (.mov (.t 63))⟩]))))))))))
    (.region false [] [
       ⟨(some 64), none, (.bin .add 3 (.t 16) (.v (.int .i64 1)))⟩,
       ⟨(some 16), none, (.mov (.t 64))⟩])))))))
  (.seq (.region true [[], [], [1], [2], [0, 0], [3, 4, 0, 1, 2, 3, 4]] [
     ⟨(some 65), none, (.load 2 true (.t 6))⟩,
     ⟨(some 66), none, (.fld 0 (.t 6))⟩,
     ⟨(some 67), none, (.load 1 false (.t 66))⟩,
     ⟨(some 68), none, (.bin .neq 9 (.t 67) (.v (.string ⟨#[]⟩)))⟩,
     ⟨none, none, (.store 2 (.t 4) (.t 65))⟩,
     ⟨(some 5), none, (.mov (.t 68))⟩])
  .ret))))
theorem k33 : FnIs Try.prog 33 69 [.c 4 2 true, .t 5] a33 := ⟨_, _, Try.func33, rfl, by kernel_rfl, by kernel_rfl, rfl⟩

theorem s66 (x : Gen) (s : ByteArray) : Aw.Spec Try.prog 66 [] [.agg (gec x), .pim [S s]] (Gives (· = B (seq x.name s))) := by
  refine Aw.Spec.givesD k66 mixed rfl rfl rfl fun E hn hnp hp => ?_
  unfold a66
  simp (config := { maxSteps := 2000000 }) only [go_sem, ↓reduceIte, Int.reduceToNat, Nat.reduceMul, Int.reduceBEq, Int.reduceBNe, Nat.reduceBEq, Nat.reduceAdd, Nat.reduceSub, Nat.reduceLeDiff, Nat.reduceEqDiff, Nat.reduceLT, reduceCtorEq]
  rfl
theorem s60 (n : Net) (hv : n.gens.l.length ≤ 10) (s : ByteArray) : Aw.Spec Try.prog 60 [] [neta n, S s] (Gives (· = I (ixGe n s))) := by
  refine Aw.Spec.givesD k60 mixed rfl rfl rfl fun E hn hnp hp => ?_
  unfold a60
  simp (config := { maxSteps := 2000000 }) only [go_sem, ↓reduceIte, Int.reduceToNat, Nat.reduceMul, Int.reduceBEq, Int.reduceBNe, Nat.reduceBEq, Nat.reduceAdd, Nat.reduceSub, Nat.reduceLeDiff, Nat.reduceEqDiff, Nat.reduceLT, reduceCtorEq]
  refine AWpL.calle (s48 n.gens.nl n.gens.fl n.gens.l 66 [.pim [S s]] (fun x => seq x.name s) (by kernel_rfl) rfl (fun x _ => s66 x s) (by omega)) rfl (by rw [hn]; rfl) (by simp (config := { maxSteps := 2000000 }) only [go_sem, ↓reduceIte, Int.reduceToNat, Nat.reduceMul, Int.reduceBEq, Int.reduceBNe, Nat.reduceBEq, Nat.reduceAdd, Nat.reduceSub, Nat.reduceLeDiff, Nat.reduceEqDiff, Nat.reduceLT, reduceCtorEq]) (AWpL.ofM hn rfl ?_)
  simp (config := { maxSteps := 2000000 }) only [go_sem, ↓reduceIte, Int.reduceToNat, Nat.reduceMul, Int.reduceBEq, Int.reduceBNe, Nat.reduceBEq, Nat.reduceAdd, Nat.reduceSub, Nat.reduceLeDiff, Nat.reduceEqDiff, Nat.reduceLT, reduceCtorEq]
  rfl
theorem str_empty {x : ByteArray} : (x.toList == (ByteArray.mk #[]).toList) = decide (x = ⟨#[]⟩) := by
  have h : (x.toList == (ByteArray.mk #[]).toList) = seq x ⟨#[]⟩ := rfl
  rw [h, Bool.eq_iff_iff, seqq, decide_eq_true_eq]
def chkL (n : Net) : List ByteArray → List ByteArray → Int
  | _, [] => 0
  | seen, s :: r => if ixGe n s < 0 then 6 else if seen.any (seq s) = true then 7 else chkL n (seen ++ [s]) r
def checkE (n : Net) (l : List ByteArray) : Int := if netF n ≠ 0 then netF n else chkL n [] l
theorem chkL_drop {n : Net} {l : List ByteArray} {i : Nat} (h : i < l.length) : chkL n (l.take i) (l.drop i) = if ixGe n (l.getD i default) < 0 then 6 else if (l.take i).any (seq (l.getD i default)) = true then 7 else chkL n (l.take (i + 1)) (l.drop (i + 1)) := by
  rw [List.drop_eq_getElem_cons h, chkL, take_get h, List.getD_eq_getElem?_getD, List.getElem?_eq_getElem h]; rfl
set_option maxRecDepth 20000 in
theorem s32 (n : Net) (hk : NetOk n) (nl fl) (l : List ByteArray) (hl : l.length ≤ 9223372036854775807) : Aw.Spec Try.prog 32 [] [neta n, ss nl fl l] (Gives (· = I (checkE n l))) := by
  refine Aw.Spec.givesD k32 mixed rfl rfl rfl fun E hn hnp hp => ?_
  unfold a32
  simp (config := { maxSteps := 2000000 }) only [go_sem, ↓reduceIte, Int.reduceToNat, Nat.reduceMul, Int.reduceBEq, Int.reduceBNe, Nat.reduceBEq, Nat.reduceAdd, Nat.reduceSub, Nat.reduceLeDiff, Nat.reduceEqDiff, Nat.reduceLT, reduceCtorEq]
  (refine AWpL.calle (s6 n hk) rfl (by rw [hn]; rfl) (by simp (config := { maxSteps := 2000000 }) only [go_sem, ↓reduceIte, Int.reduceToNat, Nat.reduceMul, Int.reduceBEq, Int.reduceBNe, Nat.reduceBEq, Nat.reduceAdd, Nat.reduceSub, Nat.reduceLeDiff, Nat.reduceEqDiff, Nat.reduceLT, reduceCtorEq]) (AWpL.ofM hn rfl ?_); simp (config := { maxSteps := 2000000 }) only [go_sem, ↓reduceIte, Int.reduceToNat, Nat.reduceMul, Int.reduceBEq, Int.reduceBNe, Nat.reduceBEq, Nat.reduceAdd, Nat.reduceSub, Nat.reduceLeDiff, Nat.reduceEqDiff, Nat.reduceLT, reduceCtorEq])
  refine ⟨fun h => ?_, fun h => ?_⟩
  · unfold checkE
    rw [if_pos (by simpa using h)]
  have h0 : netF n = 0 := by simpa using h
  have hv := netF_zero.1 h0
  have hE : checkE n l = chkL n [] l := by unfold checkE; rw [if_neg (by simp [h0])]
  rw [hE]
  refine AWp.loop (fun k s => ∃ i : Nat, i + k = l.length ∧ chkL n [] l = chkL n (l.take i) (l.drop i) ∧ Weak E s ⟨[(1, ss nl fl l), (2, .ptr 0 0 0), (13, ss nl fl l), (14, I l.length), (15, I i)], [.box 29 (netc n)]⟩) (n := l.length)
    ⟨0, by omega, rfl, weak_to [0] hp hnp rfl (by simp (config := { maxSteps := 2000000 }) only [go_sem, ↓reduceIte, Int.reduceToNat, Nat.reduceMul, Int.reduceBEq, Int.reduceBNe, Nat.reduceBEq, Nat.reduceAdd, Nat.reduceSub, Nat.reduceLeDiff, Nat.reduceEqDiff, Nat.reduceLT, reduceCtorEq, Int.natCast_zero, Aw.pos]) (by simp (config := { maxSteps := 2000000 }) only [go_sem, ↓reduceIte, Int.reduceToNat, Nat.reduceMul, Int.reduceBEq, Int.reduceBNe, Nat.reduceBEq, Nat.reduceAdd, Nat.reduceSub, Nat.reduceLeDiff, Nat.reduceEqDiff, Nat.reduceLT, reduceCtorEq, Aw.renR, Aw.pos] <;> rfl)⟩ ?_
  rintro k s ⟨i, hik, hc, hw⟩
  refine AWp.weak hw (AWp.ofD [] [] hn mixed rfl ?_)
  rcases Nat.lt_or_ge i l.length with hlt | hge
  · have e0 : decide ((i : Int) < (l.length : Int)) = true := decide_eq_true (by omega)
    have e1 := getD_mapD default sc hlt
    have e2 : IntKind.i64.wrap ((i : Int) + 1) = ((i + 1 : Nat) : Int) := by rw [w64 (by omega) (by omega)]; omega
    rw [chkL_drop hlt] at hc
    generalize l.getD i default = x at *
    simp (config := { maxSteps := 2000000 }) only [go_sem, ↓reduceIte, Int.reduceToNat, Nat.reduceMul, Int.reduceBEq, Int.reduceBNe, Nat.reduceBEq, Nat.reduceAdd, Nat.reduceSub, Nat.reduceLeDiff, Nat.reduceEqDiff, Nat.reduceLT, reduceCtorEq, e0, e1]
    (repeat (refine And.intro (by first | omega | (refine ⟨by omega, by omega⟩) | (refine ⟨by omega, by omega, by omega⟩) | (simp only [List.length_map, List.length_range, List.length_append, List.length_cons, List.length_nil, List.length_replicate, List.length_set]; omega) | (simp; omega) | (intro hgd; cases hgd) | (intro hgd; refine ⟨hgd, ?_⟩; first | omega | (refine ⟨by omega, by omega⟩) | (simp; omega))) ?_))
    (refine AWpL.calle (s60 n hv.nge x) rfl (by rw [hn]; rfl) (by simp (config := { maxSteps := 2000000 }) only [go_sem, ↓reduceIte, Int.reduceToNat, Nat.reduceMul, Int.reduceBEq, Int.reduceBNe, Nat.reduceBEq, Nat.reduceAdd, Nat.reduceSub, Nat.reduceLeDiff, Nat.reduceEqDiff, Nat.reduceLT, reduceCtorEq]) (AWpL.ofM hn rfl ?_); simp (config := { maxSteps := 2000000 }) only [go_sem, ↓reduceIte, Int.reduceToNat, Nat.reduceMul, Int.reduceBEq, Int.reduceBNe, Nat.reduceBEq, Nat.reduceAdd, Nat.reduceSub, Nat.reduceLeDiff, Nat.reduceEqDiff, Nat.reduceLT, reduceCtorEq])
    refine ⟨fun h => ?_, fun h => ?_⟩
    · rw [if_pos (of_decide_eq_true h)] at hc
      rw [hc]
    rw [if_neg (of_decide_eq_false h)] at hc
    (repeat (refine And.intro (by first | omega | (refine ⟨by omega, by omega⟩) | (refine ⟨by omega, by omega, by omega⟩) | (simp only [List.length_map, List.length_range, List.length_append, List.length_cons, List.length_nil, List.length_replicate, List.length_set]; omega) | (simp; omega) | (intro hgd; cases hgd) | (intro hgd; refine ⟨hgd, ?_⟩; first | omega | (refine ⟨by omega, by omega⟩) | (simp; omega))) ?_))
    rw [← List.map_take]
    (refine AWpL.calle (s39 nl false (l.take i) x (by rw [List.length_take]; omega)) rfl (by rw [hn]; rfl) (by simp (config := { maxSteps := 2000000 }) only [go_sem, ↓reduceIte, Int.reduceToNat, Nat.reduceMul, Int.reduceBEq, Int.reduceBNe, Nat.reduceBEq, Nat.reduceAdd, Nat.reduceSub, Nat.reduceLeDiff, Nat.reduceEqDiff, Nat.reduceLT, reduceCtorEq]) (AWpL.ofM hn rfl ?_); simp (config := { maxSteps := 2000000 }) only [go_sem, ↓reduceIte, Int.reduceToNat, Nat.reduceMul, Int.reduceBEq, Int.reduceBNe, Nat.reduceBEq, Nat.reduceAdd, Nat.reduceSub, Nat.reduceLeDiff, Nat.reduceEqDiff, Nat.reduceLT, reduceCtorEq])
    refine ⟨fun h => ?_, fun h => ?_⟩
    · rw [if_pos h] at hc
      rw [hc]
    rw [if_neg (by rw [h]; decide)] at hc
    simp (config := { maxSteps := 2000000 }) only [go_sem, ↓reduceIte, Int.reduceToNat, Nat.reduceMul, Int.reduceBEq, Int.reduceBNe, Nat.reduceBEq, Nat.reduceAdd, Nat.reduceSub, Nat.reduceLeDiff, Nat.reduceEqDiff, Nat.reduceLT, reduceCtorEq, e2]
    exact ⟨k - 1, by omega, i + 1, by omega, hc, weak_to [0] hp hnp rfl (by simp (config := { maxSteps := 2000000 }) only [go_sem, ↓reduceIte, Int.reduceToNat, Nat.reduceMul, Int.reduceBEq, Int.reduceBNe, Nat.reduceBEq, Nat.reduceAdd, Nat.reduceSub, Nat.reduceLeDiff, Nat.reduceEqDiff, Nat.reduceLT, reduceCtorEq, Aw.pos]) (by simp (config := { maxSteps := 2000000 }) only [go_sem, ↓reduceIte, Int.reduceToNat, Nat.reduceMul, Int.reduceBEq, Int.reduceBNe, Nat.reduceBEq, Nat.reduceAdd, Nat.reduceSub, Nat.reduceLeDiff, Nat.reduceEqDiff, Nat.reduceLT, reduceCtorEq, Aw.renR, Aw.pos] <;> rfl)⟩
  · have e0 : decide ((i : Int) < (l.length : Int)) = false := decide_eq_false (by omega)
    simp (config := { maxSteps := 2000000 }) only [go_sem, ↓reduceIte, Int.reduceToNat, Nat.reduceMul, Int.reduceBEq, Int.reduceBNe, Nat.reduceBEq, Nat.reduceAdd, Nat.reduceSub, Nat.reduceLeDiff, Nat.reduceEqDiff, Nat.reduceLT, reduceCtorEq, e0]
    rw [hc, List.drop_of_length_le hge]; rfl
/-- The node of a generator. -/
def nodG (n : Net) (r : ByteArray) : ByteArray := (n.gens.l.getD (ixGe n r).toNat default).node
abbrev Stp := ByteArray × List ByteArray
def bestS (n : Net) (g : Gen) (best : Stp) (r : ByteArray) : Stp := match wayN n (nodG n r) g.node with
  | none => best
  | some l => if best.1 = ⟨#[]⟩ ∨ l.length < best.2.length then (g.name, l) else best
def nextG (n : Net) (running : List ByteArray) (best : Stp) (g : Gen) : Stp := if running.any (seq g.name) = true then best else running.foldl (bestS n g) best
def nextF (n : Net) (running : List ByteArray) : Stp := n.gens.l.foldl (nextG n running) (⟨#[]⟩, [])
def GenName (n : Net) (s : ByteArray) : Prop := ∃ x ∈ n.gens.l, x.name = s
theorem ix_gen {n : Net} {s : ByteArray} (h : GenName n s) : 0 ≤ ixGe n s ∧ (ixGe n s).toNat < n.gens.l.length ∧ (n.gens.l.getD (ixGe n s).toNat default).name = s := by
  obtain ⟨x, hx, hn⟩ := h
  have key : ∀ (l : List Gen) (k : Nat), (∃ x ∈ l, x.name = s) → ∃ i, fIndex (fun x => seq x.name s) k l = ((k + i : Nat) : Int) ∧ i < l.length ∧ (l.getD i default).name = s := fun l => by
    induction l with
    | nil => intro k h; obtain ⟨_, h, _⟩ := h; cases h
    | cons y l ih =>
      intro k h
      unfold fIndex
      cases hy : seq y.name s with
      | true => exact ⟨0, rfl, by simp, seqq.1 hy⟩
      | false =>
        obtain ⟨z, hz, hzn⟩ := h
        rcases List.mem_cons.1 hz with rfl | hz
        · rw [seqq.2 hzn] at hy; cases hy
        obtain ⟨i, h1, h2, h3⟩ := ih (k + 1) ⟨z, hz, hzn⟩
        exact ⟨i + 1, by rw [if_neg (by decide), h1]; congr 1; omega, by simpa using h2, by simpa using h3⟩
  obtain ⟨i, h1, h2, h3⟩ := key n.gens.l 0 ⟨x, hx, hn⟩
  unfold ixGe
  rw [h1, Nat.zero_add]
  exact ⟨by omega, by rw [Int.toNat_natCast]; exact h2, by rw [Int.toNat_natCast]; exact h3⟩
theorem nodG_in {n : Net} (hv : NetV n) {s : ByteArray} (h : GenName n s) : nodG n s ∈ n.nodes.l := by
  obtain ⟨_, h1, _⟩ := ix_gen h
  refine (hv.ge _ ?_).1
  rw [List.getD_eq_getElem?_getD, List.getElem?_eq_getElem h1]
  exact List.getElem_mem h1
abbrev stc (b : Stp) : List AV := [S b.1, ss none false b.2]
theorem take_foldl {α β : Type} (f : β → α → β) (z : β) {l : List α} {i : Nat} (h : i < l.length) (d : α) : (l.take (i + 1)).foldl f z = f ((l.take i).foldl f z) (l.getD i d) := by
  rw [take_get h, List.foldl_append, List.getD_eq_getElem?_getD, List.getElem?_eq_getElem h]; rfl
/-- A step that was found. -/
def Good (n : Net) (run : List ByteArray) (b : Stp) : Prop := b.1 = ⟨#[]⟩ ∨ ∃ g ∈ n.gens.l, g.name = b.1 ∧ run.any (seq g.name) = false ∧ ∃ r ∈ run, wayN n (nodG n r) g.node = some b.2
theorem gen_name {n : Net} (hv : NetV n) {g : Gen} (hg : g ∈ n.gens.l) : g.name ≠ ⟨#[]⟩ := fun e => by
  have := hv.all (genI g) (by
    unfold itemsN
    simp only [List.mem_append, List.mem_map]
    exact .inr (.inr (.inr (.inl ⟨g, hg, rfl⟩))))
  rw [show (genI g).name = g.name from rfl, e, show nm 8 ⟨#[]⟩ = false by decide +kernel] at this
  cases this
theorem inner_ok {n : Net} (hv : NetV n) {run : List ByteArray} {g : Gen} (hg : g ∈ n.gens.l) (hr : run.any (seq g.name) = false) : ∀ (rs : List ByteArray) (b : Stp), (∀ r ∈ rs, r ∈ run) → Good n run b →
    Good n run (rs.foldl (bestS n g) b) ∧ (b.1 ≠ ⟨#[]⟩ → (rs.foldl (bestS n g) b).1 ≠ ⟨#[]⟩ ∧ (rs.foldl (bestS n g) b).2.length ≤ b.2.length) ∧ ∀ r ∈ rs, ∀ l, wayN n (nodG n r) g.node = some l → (rs.foldl (bestS n g) b).1 ≠ ⟨#[]⟩ ∧ (rs.foldl (bestS n g) b).2.length ≤ l.length
  | [], b, _, hb => ⟨hb, fun h => ⟨h, Nat.le_refl _⟩, fun r h => by cases h⟩
  | r :: rs, b, hm, hb => by
    have hgn := gen_name hv hg
    have hstep : Good n run (bestS n g b r) ∧ (b.1 ≠ ⟨#[]⟩ → (bestS n g b r).1 ≠ ⟨#[]⟩ ∧ (bestS n g b r).2.length ≤ b.2.length) ∧ ∀ l, wayN n (nodG n r) g.node = some l → (bestS n g b r).1 ≠ ⟨#[]⟩ ∧ (bestS n g b r).2.length ≤ l.length := by
      unfold bestS
      cases hw : wayN n (nodG n r) g.node with
      | none => exact ⟨hb, fun h => ⟨h, Nat.le_refl _⟩, fun l h => by cases h⟩
      | some l =>
        dsimp only
        by_cases hc : b.1 = ⟨#[]⟩ ∨ l.length < b.2.length
        · rw [if_pos hc]
          refine ⟨.inr ⟨g, hg, rfl, hr, r, hm r List.mem_cons_self, hw⟩, fun h => ⟨hgn, ?_⟩, fun l' h => ⟨hgn, by cases h; exact Nat.le_refl _⟩⟩
          rcases hc with hc | hc
          · exact absurd hc h
          · exact Nat.le_of_lt hc
        · rw [if_neg hc]
          rw [not_or] at hc
          exact ⟨hb, fun h => ⟨h, Nat.le_refl _⟩, fun l' h => ⟨hc.1, by cases h; omega⟩⟩
    obtain ⟨i1, i2, i3⟩ := inner_ok hv hg hr rs (bestS n g b r) (fun r' h => hm r' (List.mem_cons_of_mem _ h)) hstep.1
    rw [List.foldl_cons]
    refine ⟨i1, fun h => ?_, fun r' h l hl => ?_⟩
    · obtain ⟨a1, a2⟩ := hstep.2.1 h
      obtain ⟨b1, b2⟩ := i2 a1
      exact ⟨b1, Nat.le_trans b2 a2⟩
    · rcases List.mem_cons.1 h with rfl | h
      · obtain ⟨a1, a2⟩ := hstep.2.2 l hl
        obtain ⟨b1, b2⟩ := i2 a1
        exact ⟨b1, Nat.le_trans b2 a2⟩
      · exact i3 r' h l hl
theorem outer_ok {n : Net} (hv : NetV n) {run : List ByteArray} : ∀ (gs : List Gen) (b : Stp), (∀ g ∈ gs, g ∈ n.gens.l) → Good n run b →
    Good n run (gs.foldl (nextG n run) b) ∧ (b.1 ≠ ⟨#[]⟩ → (gs.foldl (nextG n run) b).1 ≠ ⟨#[]⟩ ∧ (gs.foldl (nextG n run) b).2.length ≤ b.2.length) ∧
      ∀ g ∈ gs, run.any (seq g.name) = false → ∀ r ∈ run, ∀ l, wayN n (nodG n r) g.node = some l → (gs.foldl (nextG n run) b).1 ≠ ⟨#[]⟩ ∧ (gs.foldl (nextG n run) b).2.length ≤ l.length
  | [], b, _, hb => ⟨hb, fun h => ⟨h, Nat.le_refl _⟩, fun r h => by cases h⟩
  | g :: gs, b, hm, hb => by
    have hg := hm g List.mem_cons_self
    have hstep : Good n run (nextG n run b g) ∧ (b.1 ≠ ⟨#[]⟩ → (nextG n run b g).1 ≠ ⟨#[]⟩ ∧ (nextG n run b g).2.length ≤ b.2.length) ∧ (run.any (seq g.name) = false → ∀ r ∈ run, ∀ l, wayN n (nodG n r) g.node = some l → (nextG n run b g).1 ≠ ⟨#[]⟩ ∧ (nextG n run b g).2.length ≤ l.length) := by
      unfold nextG
      cases hr : run.any (seq g.name) with
      | true => exact ⟨hb, fun h => ⟨h, Nat.le_refl _⟩, fun h => by cases h⟩
      | false =>
        obtain ⟨i1, i2, i3⟩ := inner_ok hv hg hr run b (fun r h => h) hb
        rw [if_neg (by decide)]
        exact ⟨i1, i2, fun _ => i3⟩
    obtain ⟨i1, i2, i3⟩ := outer_ok hv gs (nextG n run b g) (fun g' h => hm g' (List.mem_cons_of_mem _ h)) hstep.1
    rw [List.foldl_cons]
    refine ⟨i1, fun h => ?_, fun g' h hr' r' h' l hl => ?_⟩
    · obtain ⟨a1, a2⟩ := hstep.2.1 h
      obtain ⟨b1, b2⟩ := i2 a1
      exact ⟨b1, Nat.le_trans b2 a2⟩
    · rcases List.mem_cons.1 h with rfl | h
      · obtain ⟨a1, a2⟩ := hstep.2.2 hr' r' h' l hl
        obtain ⟨b1, b2⟩ := i2 a1
        exact ⟨b1, Nat.le_trans b2 a2⟩
      · exact i3 g' h hr' r' h' l hl
/-- What the next step is. -/
theorem nextF_ok {n : Net} (hv : NetV n) {run : List ByteArray} (h : (nextF n run).1 ≠ ⟨#[]⟩) : ∃ g ∈ n.gens.l, g.name = (nextF n run).1 ∧ run.any (seq g.name) = false ∧ (∃ r ∈ run, wayN n (nodG n r) g.node = some (nextF n run).2) ∧
    ∀ r ∈ run, ∀ l, wayN n (nodG n r) g.node = some l → (nextF n run).2.length ≤ l.length := by
  obtain ⟨i1, _, i3⟩ := outer_ok hv (run := run) n.gens.l (⟨#[]⟩, []) (fun _ h => h) (.inl rfl)
  have hF : nextF n run = n.gens.l.foldl (nextG n run) (⟨#[]⟩, []) := rfl
  rw [← hF] at i1 i3
  rcases i1 with i1 | ⟨g, hg, h1, h2, h3⟩
  · exact absurd i1 h
  · exact ⟨g, hg, h1, h2, h3, fun r hr l hl => (i3 g hg h2 r hr l hl).2⟩
set_option maxRecDepth 20000 in
set_option maxHeartbeats 4000000 in
theorem s33 (n : Net) (hk : NetOk n) (hv : NetV n) (l : List ByteArray) (hg : ∀ s ∈ l, GenName n s) (hl : l.length ≤ 1000) : SpecK Try.prog 33 [.arr 9 1 (l.map sc)] [neta n, .hnd 0 0 l.length l.length false] (fun rg v => rg = [.arr 9 1 (l.map sc), .box 50 (stc (nextF n l))] ∧ v = .tup [.agg (stc (nextF n l)), B (!decide ((nextF n l).1 = ⟨#[]⟩))]) := by
  refine SpecK.regsW k33 rfl rfl fun E hn hnp hp => ?_
  unfold a33
  have h10 := hv.nge
  refine AWp.ofD [] [] hn mixed rfl ?_
  simp (config := { maxSteps := 2000000 }) only [go_sem, ↓reduceIte, Int.reduceToNat, Nat.reduceMul, Int.reduceBEq, Int.reduceBNe, Nat.reduceBEq, Nat.reduceAdd, Nat.reduceSub, Nat.reduceLeDiff, Nat.reduceEqDiff, Nat.reduceLT, reduceCtorEq]
  refine AWp.weak (weak_box 2 1 (by rfl) (by rfl) (Ent.ofnil0 1)) (AWp.weak (weak_box 3 1 (by rfl) (by rfl) (Ent.ofnil0 1)) ?_)
  refine AWp.loop (fun k s => ∃ i : Nat, i + k = n.gens.l.length ∧ Weak E s ⟨[(1, .hnd 0 0 l.length l.length false), (2, .ptr 1 0 0), (4, .ptr 2 0 0), (6, .ptr 3 0 0), (14, n.gens.av 5 gec), (15, I n.gens.l.length), (16, I i)], [.arr 9 1 (l.map sc), .box 29 (netc n), .box 50 [S ⟨#[]⟩, ss none false []], .box 50 (stc ((n.gens.l.take i).foldl (nextG n l) (⟨#[]⟩, [])))]⟩) (n := n.gens.l.length)
    ⟨0, by omega, weak_to [0, 1, 2, 3] hp hnp rfl (by simp (config := { maxSteps := 2000000 }) only [go_sem, ↓reduceIte, Int.reduceToNat, Nat.reduceMul, Int.reduceBEq, Int.reduceBNe, Nat.reduceBEq, Nat.reduceAdd, Nat.reduceSub, Nat.reduceLeDiff, Nat.reduceEqDiff, Nat.reduceLT, reduceCtorEq, Int.natCast_zero, Aw.pos]) (by simp (config := { maxSteps := 2000000 }) only [go_sem, ↓reduceIte, Int.reduceToNat, Nat.reduceMul, Int.reduceBEq, Int.reduceBNe, Nat.reduceBEq, Nat.reduceAdd, Nat.reduceSub, Nat.reduceLeDiff, Nat.reduceEqDiff, Nat.reduceLT, reduceCtorEq, Aw.renR, Aw.pos] <;> rfl)⟩ ?_
  rintro k s ⟨i, hik, hw⟩
  refine AWp.weak hw (AWp.ofD [] [] hn mixed rfl ?_)
  rcases Nat.lt_or_ge i n.gens.l.length with hlt | hge
  · have e0 : decide ((i : Int) < (n.gens.l.length : Int)) = true := decide_eq_true (by omega)
    have e1 := getD_mapD default gec hlt
    have e2 : IntKind.i64.wrap ((i : Int) + 1) = ((i + 1 : Nat) : Int) := by rw [w64 (by omega) (by omega)]; omega
    have hsu := take_foldl (nextG n l) (⟨#[]⟩, []) hlt default
    have hx : n.gens.l.getD i default ∈ n.gens.l := by
      rw [List.getD_eq_getElem?_getD, List.getElem?_eq_getElem hlt]
      exact List.getElem_mem _
    have hxn := (hv.ge _ hx).1
    generalize n.gens.l.getD i default = x at *
    generalize (n.gens.l.take i).foldl (nextG n l) (⟨#[]⟩, []) = b0 at *
    simp (config := { maxSteps := 2000000 }) only [go_sem, ↓reduceIte, Int.reduceToNat, Nat.reduceMul, Int.reduceBEq, Int.reduceBNe, Nat.reduceBEq, Nat.reduceAdd, Nat.reduceSub, Nat.reduceLeDiff, Nat.reduceEqDiff, Nat.reduceLT, reduceCtorEq, e0, e1]
    (repeat (refine And.intro (by first | omega | (refine ⟨by omega, by omega⟩) | (refine ⟨by omega, by omega, by omega⟩) | (simp only [List.length_map, List.length_range, List.length_append, List.length_cons, List.length_nil, List.length_replicate, List.length_set]; omega) | (simp; omega) | (intro hgd; cases hgd) | (intro hgd; refine ⟨hgd, ?_⟩; first | omega | (refine ⟨by omega, by omega⟩) | (simp; omega))) ?_))
    refine AWpL.calle (y := B (l.any (seq x.name))) (by
      have h := s39 none false l x.name (by omega)
      have tk : (l.map sc).take l.length = l.map sc := List.take_of_length_le (by rw [List.length_map]; exact Nat.le_refl _)
      simp (config := { maxSteps := 2000000 }) only [go_sem, ↓reduceIte, Int.reduceToNat, Nat.reduceMul, Int.reduceBEq, Int.reduceBNe, Nat.reduceBEq, Nat.reduceAdd, Nat.reduceSub, Nat.reduceLeDiff, Nat.reduceEqDiff, Nat.reduceLT, reduceCtorEq, Aw.borA, List.map_cons, List.map_nil, List.drop_zero, tk]
      exact h) rfl (by rw [hn]; rfl) (by simp (config := { maxSteps := 2000000 }) only [go_sem, ↓reduceIte, Int.reduceToNat, Nat.reduceMul, Int.reduceBEq, Int.reduceBNe, Nat.reduceBEq, Nat.reduceAdd, Nat.reduceSub, Nat.reduceLeDiff, Nat.reduceEqDiff, Nat.reduceLT, reduceCtorEq, Nat.le_refl]) (AWpL.ofM hn rfl ?_)
    simp (config := { maxSteps := 2000000 }) only [go_sem, ↓reduceIte, Int.reduceToNat, Nat.reduceMul, Int.reduceBEq, Int.reduceBNe, Nat.reduceBEq, Nat.reduceAdd, Nat.reduceSub, Nat.reduceLeDiff, Nat.reduceEqDiff, Nat.reduceLT, reduceCtorEq]
    refine ⟨fun h => ?_, fun h => ?_⟩
    · rw [nextG, if_pos h] at hsu
      simp (config := { maxSteps := 2000000 }) only [go_sem, ↓reduceIte, Int.reduceToNat, Nat.reduceMul, Int.reduceBEq, Int.reduceBNe, Nat.reduceBEq, Nat.reduceAdd, Nat.reduceSub, Nat.reduceLeDiff, Nat.reduceEqDiff, Nat.reduceLT, reduceCtorEq, e2]
      exact ⟨k - 1, by omega, i + 1, by omega, by rw [hsu]; exact weak_to [0, 1, 2, 3] hp hnp rfl (by simp (config := { maxSteps := 2000000 }) only [go_sem, ↓reduceIte, Int.reduceToNat, Nat.reduceMul, Int.reduceBEq, Int.reduceBNe, Nat.reduceBEq, Nat.reduceAdd, Nat.reduceSub, Nat.reduceLeDiff, Nat.reduceEqDiff, Nat.reduceLT, reduceCtorEq, Aw.pos]) (by simp (config := { maxSteps := 2000000 }) only [go_sem, ↓reduceIte, Int.reduceToNat, Nat.reduceMul, Int.reduceBEq, Int.reduceBNe, Nat.reduceBEq, Nat.reduceAdd, Nat.reduceSub, Nat.reduceLeDiff, Nat.reduceEqDiff, Nat.reduceLT, reduceCtorEq, Aw.renR, Aw.pos] <;> rfl)⟩
    rw [nextG, if_neg (by rw [h]; decide)] at hsu
    refine AWp.loop (fun k s => ∃ j : Nat, j + k = l.length ∧ Weak E s ⟨[(1, .hnd 0 0 l.length l.length false), (2, .ptr 1 0 0), (4, .ptr 2 0 0), (6, .ptr 3 0 0), (8, .ptr 4 0 0), (14, n.gens.av 5 gec), (15, I n.gens.l.length), (16, I i), (24, .hnd 0 0 l.length l.length false), (25, I l.length), (26, I j)], [.arr 9 1 (l.map sc), .box 29 (netc n), .box 50 [S ⟨#[]⟩, ss none false []], .box 50 (stc ((l.take j).foldl (bestS n x) b0)), .box 55 (gec x)]⟩) (n := l.length)
      ⟨0, by omega, weak_to [0, 1, 2, 3, 4] hp hnp rfl (by simp (config := { maxSteps := 2000000 }) only [go_sem, ↓reduceIte, Int.reduceToNat, Nat.reduceMul, Int.reduceBEq, Int.reduceBNe, Nat.reduceBEq, Nat.reduceAdd, Nat.reduceSub, Nat.reduceLeDiff, Nat.reduceEqDiff, Nat.reduceLT, reduceCtorEq, Int.natCast_zero, Aw.pos]) (by simp (config := { maxSteps := 2000000 }) only [go_sem, ↓reduceIte, Int.reduceToNat, Nat.reduceMul, Int.reduceBEq, Int.reduceBNe, Nat.reduceBEq, Nat.reduceAdd, Nat.reduceSub, Nat.reduceLeDiff, Nat.reduceEqDiff, Nat.reduceLT, reduceCtorEq, Aw.renR, Aw.pos] <;> rfl)⟩ ?_
    rintro k2 s ⟨j, hjk, hw⟩
    refine AWp.weak hw (AWp.ofD [999] [] hn mixed rfl ?_)
    rcases Nat.lt_or_ge j l.length with hjl | hjg
    · have f0 : decide ((j : Int) < (l.length : Int)) = true := decide_eq_true (by omega)
      have f1 := getD_mapD default sc hjl
      have f2 : IntKind.i64.wrap ((j : Int) + 1) = ((j + 1 : Nat) : Int) := by rw [w64 (by omega) (by omega)]; omega
      have hsj := take_foldl (bestS n x) b0 hjl default
      have hy : l.getD j default ∈ l := by
        rw [List.getD_eq_getElem?_getD, List.getElem?_eq_getElem hjl]
        exact List.getElem_mem _
      generalize l.getD j default = y at *
      generalize (l.take j).foldl (bestS n x) b0 = b at *
      have hyg := hg y hy
      obtain ⟨g1, g2, _⟩ := ix_gen hyg
      have hnd := nodG_in hv hyg
      have hnG : nodG n y = (n.gens.l.getD (ixGe n y).toNat default).node := rfl
      obtain ⟨gi, hgi⟩ : ∃ gi : Nat, ixGe n y = gi := ⟨(ixGe n y).toNat, by omega⟩
      rw [hgi, Int.toNat_natCast] at g2 hnG
      have f3 := getD_mapD default gec g2
      simp (config := { maxSteps := 2000000 }) only [go_sem, ↓reduceIte, Int.reduceToNat, Nat.reduceMul, Int.reduceBEq, Int.reduceBNe, Nat.reduceBEq, Nat.reduceAdd, Nat.reduceSub, Nat.reduceLeDiff, Nat.reduceEqDiff, Nat.reduceLT, reduceCtorEq, f0, f1]
      (repeat (refine And.intro (by first | omega | (refine ⟨by omega, by omega⟩) | (refine ⟨by omega, by omega, by omega⟩) | (simp only [List.length_map, List.length_range, List.length_append, List.length_cons, List.length_nil, List.length_replicate, List.length_set]; omega) | (simp; omega) | (intro hgd; cases hgd) | (intro hgd; refine ⟨hgd, ?_⟩; first | omega | (refine ⟨by omega, by omega⟩) | (simp; omega))) ?_))
      refine AWp.plan (.take 0 [false, true, true, true, true, true, true, true, true, true, true, false, false, false, false, false, false] (.take 1 [true, false, false, true, true, true, false, false, false, true, true, false, false, false, false, false, false] (.take 2 [true, true, false, true, true, true, false, false, false, true, true, false, false, false, false, false, false] (.take 3 [true, true, true, false, true, false, false, false, false, true, true, false, false, false, false, false, false] (.take 4 [true, true, true, true, false, false, false, false, false, true, true, false, false, false, false, false, false] (.take 9 [true, true, true, true, true, true, true, true, true, false, false, false, false, false, false, false, false] (.take 10 [true, true, true, true, true, true, true, true, true, true, false, false, false, false, false, false, false] (.one 5 (.take 6 [true, true, true, true, true, true, false, false, false, true, true, false, false, false, false, false, false] (.take 7 [true, true, true, true, true, true, true, false, false, true, true, false, false, false, false, false, false] (.take 8 [true, true, true, true, true, true, true, true, false, true, true, false, false, false, false, false, false] (.one 11 (.take 12 [true, true, true, true, true, true, true, true, true, true, true, true, false, false, false, false, false] (.take 13 [true, true, true, true, true, true, true, true, true, true, true, true, true, false, true, false, false] (.take 14 [true, true, true, true, true, true, true, true, true, true, true, true, true, true, false, true, false] (.take 15 [true, true, true, true, true, true, true, true, true, true, true, true, true, true, true, false, false] (.take 16 [true, true, true, true, true, true, true, true, true, true, true, true, true, true, true, true, false] .done))))))))))))))))) [true, true, true, true, true, true, true, true, true, true, true, true, true, true, true, true, true] mixed hn rfl rfl ?_
      simp (config := { maxSteps := 2000000 }) only [go_sem, ↓reduceIte, Int.reduceToNat, Nat.reduceMul, Int.reduceBEq, Int.reduceBNe, Nat.reduceBEq, Nat.reduceAdd, Nat.reduceSub, Nat.reduceLeDiff, Nat.reduceEqDiff, Nat.reduceLT, reduceCtorEq]
      refine AOne.calle (s60 n hv.nge y) rfl (by rw [hn]; rfl) (by simp (config := { maxSteps := 2000000 }) only [go_sem, ↓reduceIte, Int.reduceToNat, Nat.reduceMul, Int.reduceBEq, Int.reduceBNe, Nat.reduceBEq, Nat.reduceAdd, Nat.reduceSub, Nat.reduceLeDiff, Nat.reduceEqDiff, Nat.reduceLT, reduceCtorEq]) ?_
      simp (config := { maxSteps := 2000000 }) only [go_sem, ↓reduceIte, Int.reduceToNat, Nat.reduceMul, Int.reduceBEq, Int.reduceBNe, Nat.reduceBEq, Nat.reduceAdd, Nat.reduceSub, Nat.reduceLeDiff, Nat.reduceEqDiff, Nat.reduceLT, reduceCtorEq, hgi, f3, ← hnG]
      (repeat (refine And.intro (by first | omega | (refine ⟨by omega, by omega⟩) | (refine ⟨by omega, by omega, by omega⟩) | (simp only [List.length_map, List.length_range, List.length_append, List.length_cons, List.length_nil, List.length_replicate, List.length_set]; omega) | (simp; omega) | (intro hgd; cases hgd) | (intro hgd; refine ⟨hgd, ?_⟩; first | omega | (refine ⟨by omega, by omega⟩) | (simp; omega))) ?_))
      refine AOne.callA (s28 n hk hv (nodG n y) x.node hnd hxn) rfl (by rw [hn]; rfl) fun rg v hv' => ?_
      obtain ⟨rfl, rfl⟩ := hv'
      rw [retS_nil]
      have hbs : bestS n x b y = match wayN n (nodG n y) x.node with
        | none => b
        | some l => if b.1 = ⟨#[]⟩ ∨ l.length < b.2.length then (x.name, l) else b := rfl
      cases hw : wayN n (nodG n y) x.node with
      | none =>
        rw [hw] at hbs
        dsimp only at hbs
        simp (config := { maxSteps := 2000000 }) only [go_sem, ↓reduceIte, Int.reduceToNat, Nat.reduceMul, Int.reduceBEq, Int.reduceBNe, Nat.reduceBEq, Nat.reduceAdd, Nat.reduceSub, Nat.reduceLeDiff, Nat.reduceEqDiff, Nat.reduceLT, reduceCtorEq, Option.isSome_none, Option.getD_none, List.map_nil, str_empty, f2]
        exact ⟨k2 - 1, by omega, j + 1, by omega, by rw [hsj, hbs]; exact weak_to [0, 1, 2, 3, 4] hp hnp rfl (by simp (config := { maxSteps := 2000000 }) only [go_sem, ↓reduceIte, Int.reduceToNat, Nat.reduceMul, Int.reduceBEq, Int.reduceBNe, Nat.reduceBEq, Nat.reduceAdd, Nat.reduceSub, Nat.reduceLeDiff, Nat.reduceEqDiff, Nat.reduceLT, reduceCtorEq, Aw.pos]) (by simp (config := { maxSteps := 2000000 }) only [go_sem, ↓reduceIte, Int.reduceToNat, Nat.reduceMul, Int.reduceBEq, Int.reduceBNe, Nat.reduceBEq, Nat.reduceAdd, Nat.reduceSub, Nat.reduceLeDiff, Nat.reduceEqDiff, Nat.reduceLT, reduceCtorEq, Aw.renR, Aw.pos] <;> rfl)⟩
      | some p =>
        rw [hw] at hbs
        dsimp only at hbs
        simp (config := { maxSteps := 2000000 }) only [go_sem, ↓reduceIte, Int.reduceToNat, Nat.reduceMul, Int.reduceBEq, Int.reduceBNe, Nat.reduceBEq, Nat.reduceAdd, Nat.reduceSub, Nat.reduceLeDiff, Nat.reduceEqDiff, Nat.reduceLT, reduceCtorEq, Option.isSome_some, Option.getD_some, str_empty, f2]
        have hcond : (decide (b.1 = ⟨#[]⟩) || decide ((p.length : Int) < (b.2.length : Int))) = decide (b.1 = ⟨#[]⟩ ∨ p.length < b.2.length) := by
          rw [Bool.eq_iff_iff]; simp
        rw [hcond]
        refine ⟨fun h5 => ?_, fun h5 => ?_⟩
        · rw [if_pos (of_decide_eq_true h5)] at hbs
          exact ⟨k2 - 1, by omega, j + 1, by omega, by rw [hsj, hbs]; exact weak_to [0, 1, 2, 3, 4] hp hnp rfl (by simp (config := { maxSteps := 2000000 }) only [go_sem, ↓reduceIte, Int.reduceToNat, Nat.reduceMul, Int.reduceBEq, Int.reduceBNe, Nat.reduceBEq, Nat.reduceAdd, Nat.reduceSub, Nat.reduceLeDiff, Nat.reduceEqDiff, Nat.reduceLT, reduceCtorEq, Aw.pos]) (by simp (config := { maxSteps := 2000000 }) only [go_sem, ↓reduceIte, Int.reduceToNat, Nat.reduceMul, Int.reduceBEq, Int.reduceBNe, Nat.reduceBEq, Nat.reduceAdd, Nat.reduceSub, Nat.reduceLeDiff, Nat.reduceEqDiff, Nat.reduceLT, reduceCtorEq, Aw.renR, Aw.pos] <;> rfl)⟩
        · rw [if_neg (of_decide_eq_false h5)] at hbs
          exact ⟨k2 - 1, by omega, j + 1, by omega, by rw [hsj, hbs]; exact weak_to [0, 1, 2, 3, 4] hp hnp rfl (by simp (config := { maxSteps := 2000000 }) only [go_sem, ↓reduceIte, Int.reduceToNat, Nat.reduceMul, Int.reduceBEq, Int.reduceBNe, Nat.reduceBEq, Nat.reduceAdd, Nat.reduceSub, Nat.reduceLeDiff, Nat.reduceEqDiff, Nat.reduceLT, reduceCtorEq, Aw.pos]) (by simp (config := { maxSteps := 2000000 }) only [go_sem, ↓reduceIte, Int.reduceToNat, Nat.reduceMul, Int.reduceBEq, Int.reduceBNe, Nat.reduceBEq, Nat.reduceAdd, Nat.reduceSub, Nat.reduceLeDiff, Nat.reduceEqDiff, Nat.reduceLT, reduceCtorEq, Aw.renR, Aw.pos] <;> rfl)⟩
    · have f0 : decide ((j : Int) < (l.length : Int)) = false := decide_eq_false (by omega)
      have hjl : l.take j = l := List.take_of_length_le hjg
      rw [hjl]
      simp (config := { maxSteps := 2000000 }) only [go_sem, ↓reduceIte, Int.reduceToNat, Nat.reduceMul, Int.reduceBEq, Int.reduceBNe, Nat.reduceBEq, Nat.reduceAdd, Nat.reduceSub, Nat.reduceLeDiff, Nat.reduceEqDiff, Nat.reduceLT, reduceCtorEq, f0, e2]
      exact ⟨k - 1, by omega, i + 1, by omega, by rw [hsu]; exact weak_to [0, 1, 2, 3] hp hnp rfl (by simp (config := { maxSteps := 2000000 }) only [go_sem, ↓reduceIte, Int.reduceToNat, Nat.reduceMul, Int.reduceBEq, Int.reduceBNe, Nat.reduceBEq, Nat.reduceAdd, Nat.reduceSub, Nat.reduceLeDiff, Nat.reduceEqDiff, Nat.reduceLT, reduceCtorEq, Aw.pos]) (by simp (config := { maxSteps := 2000000 }) only [go_sem, ↓reduceIte, Int.reduceToNat, Nat.reduceMul, Int.reduceBEq, Int.reduceBNe, Nat.reduceBEq, Nat.reduceAdd, Nat.reduceSub, Nat.reduceLeDiff, Nat.reduceEqDiff, Nat.reduceLT, reduceCtorEq, Aw.renR, Aw.pos] <;> rfl)⟩
  · have e0 : decide ((i : Int) < (n.gens.l.length : Int)) = false := decide_eq_false (by omega)
    have hil : n.gens.l.take i = n.gens.l := List.take_of_length_le hge
    rw [hil]
    have hF : nextF n l = n.gens.l.foldl (nextG n l) (⟨#[]⟩, []) := rfl
    rw [← hF]
    simp (config := { maxSteps := 2000000 }) only [go_sem, ↓reduceIte, Int.reduceToNat, Nat.reduceMul, Int.reduceBEq, Int.reduceBNe, Nat.reduceBEq, Nat.reduceAdd, Nat.reduceSub, Nat.reduceLeDiff, Nat.reduceEqDiff, Nat.reduceLT, reduceCtorEq, e0]
    refine AWp.plan (.take 0 [false, true, true, true, false, false] (.two 1 (.two 2 (.two 3 (.one 4 (.take 5 [true, true, true, true, true, false] .done)) 4 (.take 3 [true, true, true, false, true, false] (.take 5 [true, true, true, true, true, false] .done))) 4 (.take 2 [true, true, false, false, true, false] (.take 3 [true, true, true, false, true, false] (.take 5 [true, true, true, true, true, false] .done)))) 4 (.take 1 [true, false, false, false, true, false] (.take 2 [true, true, false, false, true, false] (.take 3 [true, true, true, false, true, false] (.take 5 [true, true, true, true, true, false] .done)))))) [true, true, true, true, false, true] mixed hn rfl rfl ?_
    simp (config := { maxSteps := 2000000 }) only [go_sem, ↓reduceIte, Int.reduceToNat, Nat.reduceMul, Int.reduceBEq, Int.reduceBNe, Nat.reduceBEq, Nat.reduceAdd, Nat.reduceSub, Nat.reduceLeDiff, Nat.reduceEqDiff, Nat.reduceLT, reduceCtorEq]
    refine Retn.ret (π := [0, 2]) hp hnp ⟨rfl, ?_⟩
    simp (config := { maxSteps := 2000000 }) only [go_sem, ↓reduceIte, Int.reduceToNat, Nat.reduceMul, Int.reduceBEq, Int.reduceBNe, Nat.reduceBEq, Nat.reduceAdd, Nat.reduceSub, Nat.reduceLeDiff, Nat.reduceEqDiff, Nat.reduceLT, reduceCtorEq, Aw.renR, Aw.pos]
    rw [str_empty]
end Go.Proofs.Ytmginfhlohenhaa
