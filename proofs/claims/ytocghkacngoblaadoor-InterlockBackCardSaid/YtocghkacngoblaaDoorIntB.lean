/- Interlocks: the fixed text. -/
import Derived.Test.YtocghkacngoblaaDoorAwZl
import Derived.Test.YtocghkacngoblaaDoorIntA
set_option linter.unusedVariables false
set_option linter.unusedSimpArgs false
namespace Go.Proofs.YtocghkacngoblaaDoor
open Go.Proofs.YtocghkacngoblaaDoor.Aw
attribute [local go_sem] Int.natCast_zero Int.natCast_one bne_self_eq_false beq_self_eq_true Bool.not_true Bool.not_false Option.isSome_none Option.isSome_some Aw.bkM_nil Option.getD_some Option.getD_none Nat.sub_zero Int.toNat_zero Aw.frzS Aw.frzT Aw.frzA Aw.frzL Aw.frzR Aw.frzO Aw.frzOL Aw.frzOT Aw.frzOR Aw.killS Aw.mapT Aw.mapR Aw.killM Aw.resAVs Aw.resAV Aw.quietOps Aw.wpP Aw.wpT Aw.wpS Aw.AOp.mild List.getElem?_cons_zero List.getElem?_cons_succ Bool.and_false Bool.and_self Bool.false_and Aw.opOb Aw.gdB Aw.Rnd Aw.subTm List.length_map Int.toNat_natCast and_self Aw.SeqC Aw.stops Aw.Ends Aw.looks Aw.renA Aw.renL Aw.renT Aw.renS Aw.wpO Aw.aop Aw.putTm Aw.St.ev Aw.St.put Aw.St.putO Aw.binAV Aw.intBin Aw.strBin Aw.pickAV Aw.optInt Aw.AV.strip Aw.AV.guard Aw.AV.cells Aw.gdOb Aw.AOp.opds Aw.AOp.still Aw.ptrCells Aw.St.reg Aw.fillAV Aw.fillOb Aw.elsOb Aw.splice Aw.firm Aw.cellish Aw.AV.shut Aw.shutAll Aw.Seq Aw.Blk Aw.retS_nil Aw.mapA Aw.mapL Aw.borA Aw.borOb Aw.allOb Aw.tupOf Aw.params Aw.Opd.of Array.toList Value.cells List.map_cons List.map_nil List.getD_cons_zero List.getD_cons_succ List.getD_nil List.length_cons List.length_nil List.take_succ_cons List.take_zero List.take_nil List.drop_zero List.drop_succ_cons List.drop_nil List.set_cons_zero List.set_cons_succ List.append_nil List.nil_append List.cons_append List.all_cons List.all_nil cond_false cond_true if_true if_false true_and and_true Bool.and_true Bool.true_and Option.map_some Option.map_none false_implies forall_const implies_true forall_eq imp_self Bool.cond_false_right Bool.cond_true_left beq_true beq_false Bool.not_eq_true' Bool.false_eq_true Nat.zero_add Nat.add_zero Aw.eqCells Aw.stopDraw Aw.skipS Aw.exactCap Aw.revealS Aw.srcEls Aw.srcSz
attribute [local go_sem ↓] Aw.look_nil Aw.look_ite Aw.wpL_nil Aw.wpL_op Aw.wpL_gd Aw.wpQ_nil Aw.wpQ_op Aw.wpQ_gd Aw.wpC_draw Aw.wpC_reg Aw.wpC_skip Aw.wpC_ret Aw.wpC_exit Aw.wpC_seq Aw.wpC_block Aw.wpC_loop Aw.wpC_cond Aw.stopAt_nil Aw.stopAt_cons Aw.wpD_skip Aw.wpD_ret Aw.wpD_exit Aw.wpD_region Aw.wpD_draw Aw.wpM_nil Aw.wpM_op Aw.wpM_gd Aw.wpD_seq Aw.wpD_block Aw.wpD_loop Aw.wpD_cond
/- gridhall/interlock.rule -/
def a30 : ACode :=
  (.seq (.region false [] [
     ⟨(some 2), none, (.alloc 24 (.agg #[(.bool false), (.string ⟨#[]⟩), (.slice none 0 0)]))⟩,
     ⟨(some 3), none, (.mov (.v (.int .i64 0)))⟩])
  (.seq (.region false [] [
     ⟨(some 8), none, (.mov (.t 0))⟩,
     ⟨(some 9), none, (.call 29 [(.t 8), (.v (.string ⟨#[32]⟩))])⟩,
     ⟨(some 4), none, (.mov (.t 9))⟩])
  (.seq (.seq (.region false [] [
     ⟨(some 10), none, (.mov (.t 4))⟩,
     ⟨(some 11), none, (.len (.t 10))⟩,
     ⟨(some 12), none, (.bin .lss 3 (.t 11) (.v (.int .i64 4)))⟩,
     ⟨(some 13), none, (.mov (.t 12))⟩,
     ⟨(some 14), (some (13, false)), (.mov (.t 4))⟩,
     ⟨(some 15), (some (13, false)), (.idx 1 (.t 14) (.v (.int .i64 0)))⟩,
     ⟨(some 16), (some (13, false)), (.load 1 false (.t 15))⟩,
     ⟨(some 17), (some (13, false)), (.bin .neq 9 (.t 16) (.v (.string ⟨#[111, 112, 101, 110]⟩)))⟩,
     ⟨(some 18), (some (13, false)), (.mov (.t 17))⟩,
     ⟨(some 19), (some (18, true)), (.mov (.t 4))⟩,
     ⟨(some 20), (some (18, true)), (.idx 1 (.t 19) (.v (.int .i64 0)))⟩,
     ⟨(some 21), (some (18, true)), (.load 1 false (.t 20))⟩,
     ⟨(some 22), (some (18, true)), (.bin .neq 9 (.t 21) (.v (.string ⟨#[99, 108, 111, 115, 101]⟩)))⟩,
     ⟨(some 23), (some (13, false)), (.pick (.t 18) (.t 22) (.v (.bool false)))⟩,
     ⟨(some 24), none, (.pick (.t 13) (.v (.bool true)) (.t 23))⟩,
     ⟨(some 25), none, (.mov (.t 24))⟩,
     ⟨(some 26), (some (25, false)), (.mov (.t 4))⟩,
     ⟨(some 27), (some (25, false)), (.idx 1 (.t 26) (.v (.int .i64 1)))⟩,
     ⟨(some 28), (some (25, false)), (.load 1 false (.t 27))⟩,
     ⟨(some 29), (some (25, false)), (.call 34 [(.t 28)])⟩,
     ⟨(some 30), (some (25, false)), (.un .not (.t 29))⟩,
     ⟨(some 31), none, (.pick (.t 25) (.v (.bool true)) (.t 30))⟩,
     ⟨(some 32), none, (.mov (.t 31))⟩,
     ⟨(some 33), (some (32, false)), (.mov (.t 4))⟩,
     ⟨(some 34), (some (32, false)), (.idx 1 (.t 33) (.v (.int .i64 2)))⟩,
     ⟨(some 35), (some (32, false)), (.load 1 false (.t 34))⟩,
     ⟨(some 36), (some (32, false)), (.bin .neq 9 (.t 35) (.v (.string ⟨#[119, 104, 101, 110]⟩)))⟩,
     ⟨(some 37), none, (.pick (.t 32) (.v (.bool true)) (.t 36))⟩])
  (.cond (.t 37)
    (.seq (.region false [] [
       ⟨(some 38), none, (.build (.agg #[(.bool false), (.string ⟨#[]⟩), (.slice none 0 0)]) [])⟩,
       ⟨none, none, (.store 3 (.t 2) (.t 38))⟩,
       ⟨(some 3), none, (.mov (.v (.int .i64 5)))⟩])
    .ret)
    .skip))
  (.seq (.region false [] [
     ⟨(some 39), none, (.mov (.t 4))⟩,
     ⟨(some 40), none, (.slc 1 (.t 39) (some (.v (.int .i64 3))) none none)⟩,
     ⟨(some 41), none, (.build (.agg #[(.slice none 0 0), (.slice none 0 0)]) [(0, (1, (.t 40)))])⟩,
     ⟨(some 42), none, (.box 90 (.t 41))⟩,
     ⟨(some 5), none, (.mov (.t 42))⟩])
  (.seq (.seq (.region false [] [
     ⟨(some 44), none, (.mov (.t 5))⟩,
     ⟨(some 45), none, (.call 43 [(.t 44)])⟩,
     ⟨(some 43), none, (.mov (.t 45))⟩,
     ⟨(some 46), none, (.ext 0 (.t 43))⟩,
     ⟨(some 47), none, (.ext 1 (.t 43))⟩,
     ⟨(some 6), none, (.mov (.t 46))⟩,
     ⟨(some 7), none, (.mov (.t 47))⟩])
  (.seq (.region false [] [
     ⟨(some 48), none, (.mov (.t 7))⟩,
     ⟨(some 49), none, (.un .not (.t 48))⟩,
     ⟨(some 50), none, (.mov (.t 49))⟩,
     ⟨(some 51), (some (50, false)), (.mov (.t 5))⟩,
     ⟨(some 52), (some (50, false)), (.nilc (.t 51))⟩,
     ⟨(some 53), (some (50, false)), (.fld 0 (.t 52))⟩,
     ⟨(some 54), (some (50, false)), (.load 1 false (.t 53))⟩,
     ⟨(some 55), (some (50, false)), (.len (.t 54))⟩,
     ⟨(some 56), (some (50, false)), (.bin .gtr 3 (.t 55) (.v (.int .i64 0)))⟩,
     ⟨(some 57), none, (.pick (.t 50) (.v (.bool true)) (.t 56))⟩])
  (.cond (.t 57)
    (.seq (.region false [] [
       ⟨(some 58), none, (.build (.agg #[(.bool false), (.string ⟨#[]⟩), (.slice none 0 0)]) [])⟩,
       ⟨none, none, (.store 3 (.t 2) (.t 58))⟩,
       ⟨(some 3), none, (.mov (.v (.int .i64 5)))⟩])
    .ret)
    .skip)))
  (.seq (.seq (.region false [] [
     ⟨(some 59), none, (.mov (.t 5))⟩,
     ⟨(some 60), none, (.nilc (.t 59))⟩,
     ⟨(some 61), none, (.fld 1 (.t 60))⟩,
     ⟨(some 62), none, (.load 1 false (.t 61))⟩,
     ⟨(some 63), none, (.len (.t 62))⟩,
     ⟨(some 64), none, (.bin .gtr 3 (.t 63) (.v (.int .i64 40)))⟩])
  (.cond (.t 64)
    (.seq (.region false [] [
       ⟨(some 65), none, (.build (.agg #[(.bool false), (.string ⟨#[]⟩), (.slice none 0 0)]) [])⟩,
       ⟨none, none, (.store 3 (.t 2) (.t 65))⟩,
       ⟨(some 3), none, (.mov (.v (.int .i64 2)))⟩])
    .ret)
    .skip))
  (.seq (.region true [[], [0], [1], [2], [], [4], [5], [], [7], [8], [9], [3, 6, 10], [11, 0, 1, 2, 3, 4, 5, 6, 7, 8, 9, 10, 11], [12, 0, 1, 2, 3, 4, 5, 6, 7, 8, 9, 10, 11, 12]] [
     ⟨(some 66), none, (.mov (.t 4))⟩,
     ⟨(some 67), none, (.idx 1 (.t 66) (.v (.int .i64 0)))⟩,
     ⟨(some 68), none, (.load 1 false (.t 67))⟩,
     ⟨(some 69), none, (.bin .eql 9 (.t 68) (.v (.string ⟨#[99, 108, 111, 115, 101]⟩)))⟩,
     ⟨(some 70), none, (.mov (.t 4))⟩,
     ⟨(some 71), none, (.idx 1 (.t 70) (.v (.int .i64 1)))⟩,
     ⟨(some 72), none, (.load 1 false (.t 71))⟩,
     ⟨(some 73), none, (.mov (.t 5))⟩,
     ⟨(some 74), none, (.nilc (.t 73))⟩,
     ⟨(some 75), none, (.fld 1 (.t 74))⟩,
     ⟨(some 76), none, (.load 1 false (.t 75))⟩,
     ⟨(some 77), none, (.build (.agg #[(.bool false), (.string ⟨#[]⟩), (.slice none 0 0)]) [(0, (1, (.t 69))), (1, (1, (.t 72))), (2, (1, (.t 76)))])⟩,
     ⟨none, none, (.store 3 (.t 2) (.t 77))⟩,
     ⟨(some 3), none, (.mov (.v (.int .i64 0)))⟩])
  .ret)))))))
theorem k30 : FnIs Tryd.prog 30 78 [.c 2 3 true, .t 3] a30 := ⟨_, _, Tryd.func30, rfl, by kernel_rfl, by kernel_rfl, rfl⟩
/- gridhall/interlock.Parse -/
def a16 : ACode :=
  (.seq (.region false [] [
     ⟨(some 2), none, (.mov (.v (.slice none 0 0)))⟩,
     ⟨(some 3), none, (.mov (.v (.int .i64 0)))⟩,
     ⟨(some 4), none, (.mov (.v (.int .i64 0)))⟩])
  (.seq (.seq (.region false [] [
     ⟨(some 12), none, (.mov (.t 0))⟩,
     ⟨(some 13), none, (.lens (.t 12))⟩,
     ⟨(some 14), none, (.bin .gtr 3 (.t 13) (.v (.int .i64 8192)))⟩])
  (.cond (.t 14)
    (.seq (.region false [] [
       ⟨(some 2), none, (.mov (.v (.slice none 0 0)))⟩,
       ⟨(some 3), none, (.mov (.v (.int .i64 0)))⟩,
       ⟨(some 4), none, (.mov (.v (.int .i64 2)))⟩])
    .ret)
    .skip))
  (.seq (.region false [] [
     ⟨(some 15), none, (.mov (.t 0))⟩,
     ⟨(some 16), none, (.call 29 [(.t 15), (.v (.string ⟨#[10]⟩))])⟩,
     ⟨(some 5), none, (.mov (.t 16))⟩])
  (.seq (.region false [] [
     ⟨(some 17), none, (.mov (.t 5))⟩,
     ⟨(some 18), none, (.len (.t 17))⟩,
     ⟨(some 19), none, (.bin .sub 3 (.t 18) (.v (.int .i64 1)))⟩,
     ⟨(some 6), none, (.mov (.t 19))⟩])
  (.seq (.seq (.region false [] [
     ⟨(some 20), none, (.mov (.t 5))⟩,
     ⟨(some 21), none, (.mov (.t 6))⟩,
     ⟨(some 22), none, (.idx 1 (.t 20) (.t 21))⟩,
     ⟨(some 23), none, (.load 1 false (.t 22))⟩,
     ⟨(some 24), none, (.bin .neq 9 (.t 23) (.v (.string ⟨#[]⟩)))⟩])
  (.cond (.t 24)
    (.seq (.region false [] [
       ⟨(some 25), none, (.mov (.t 6))⟩,
       ⟨(some 2), none, (.mov (.v (.slice none 0 0)))⟩,
       ⟨(some 3), none, (.mov (.t 25))⟩,
       ⟨(some 4), none, (.mov (.v (.int .i64 5)))⟩])
    .ret)
    .skip))
  (.seq (.region false [] [
     ⟨(some 7), none, (.mov (.v (.slice none 0 0)))⟩])
  (.seq (.seq (.region false [] [
     ⟨(some 26), none, (.mov (.t 5))⟩,
     ⟨(some 27), none, (.mov (.t 6))⟩,
     ⟨(some 28), none, (.slc 1 (.t 26) none (some (.t 27)) none)⟩,
     ⟨(some 29), none, (.len (.t 28))⟩,
     ⟨(some 30), none, (.mov (.v (.int .i64 0)))⟩])
  (.block 0 (.loop (.seq (.region false [] [
       ⟨(some 31), none, (.bin .lss 3 (.t 30) (.t 29))⟩])
    (.seq (.cond (.t 31)
      .skip
      (.exit 0))
    (.seq (.block 1 (.seq (.region false [] [
        ⟨(some 32), none, (.mov (.t 30))⟩,
        ⟨(some 33), none, (.idx 1 (.t 28) (.t 30))⟩,
        ⟨(some 34), none, (.load 1 false (.t 33))⟩,
        ⟨(some 8), none, (.mov (.t 32))⟩,
        ⟨(some 9), none, (.mov (.t 34))⟩])
     (.seq (.region false [] [
        ⟨(some 36), none, (.mov (.t 9))⟩,
        ⟨(some 37), none, (.call 30 [(.t 36)])⟩,
        ⟨(some 35), none, (.mov (.t 37))⟩,
        ⟨(some 38), none, (.ext 0 (.t 35))⟩,
        ⟨(some 39), none, (.ext 1 (.t 35))⟩,
        ⟨(some 10), none, (.alloc 24 (.agg #[(.bool false), (.string ⟨#[]⟩), (.slice none 0 0)]))⟩,
        ⟨none, none, (.store 3 (.t 10) (.t 38))⟩,
        ⟨(some 11), none, (.mov (.t 39))⟩])
     (.seq (.seq (.region false [] [
        ⟨(some 40), none, (.mov (.t 11))⟩,
        ⟨(some 41), none, (.bin .eql 27 (.t 40) (.v (.int .i64 0)))⟩,
        ⟨(some 42), none, (.mov (.t 41))⟩,
        ⟨(some 43), (some (42, true)), (.mov (.t 8))⟩,
        ⟨(some 44), (some (42, true)), (.bin .eql 3 (.t 43) (.v (.int .i64 24)))⟩,
        ⟨(some 45), none, (.pick (.t 42) (.t 44) (.v (.bool false)))⟩])
     (.cond (.t 45)
       (.region false [] [
          ⟨(some 11), none, (.mov (.v (.int .i64 2)))⟩])
       .skip))
     (.seq (.seq (.region false [] [
        ⟨(some 46), none, (.mov (.t 11))⟩,
        ⟨(some 47), none, (.bin .neq 27 (.t 46) (.v (.int .i64 0)))⟩])
     (.cond (.t 47)
       (.seq (.region false [] [
          ⟨(some 48), none, (.mov (.t 8))⟩,
          ⟨(some 49), none, (.mov (.t 11))⟩,
          ⟨(some 2), none, (.mov (.v (.slice none 0 0)))⟩,
          ⟨(some 3), none, (.mov (.t 48))⟩,
          ⟨(some 4), none, (.mov (.t 49))⟩])
       .ret)
       .skip))
     (.region false [] [
        ⟨(some 50), none, (.mov (.t 7))⟩,
        ⟨(some 51), none, (.load 3 true (.t 10))⟩,
        ⟨(some 52), none, (.bsl 24 3 1 [(0, (.t 51))])⟩,
        ⟨(some 53), none, (.app 24 3 48 (.agg #[(.bool false), (.string ⟨#[]⟩), (.slice none 0 0)]) (.t 50) (.t 52))⟩,
        ⟨(some 7), none, (.mov (.t 53))⟩]))))))
    (.region false [] [
       ⟨(some 54), none, (.bin .add 3 (.t 30) (.v (.int .i64 1)))⟩,
       ⟨(some 30), none, (.mov (.t 54))⟩])))))))
  (.seq (.region false [] [
     ⟨(some 55), none, (.mov (.t 7))⟩,
     ⟨(some 2), none, (.mov (.t 55))⟩,
     ⟨(some 3), none, (.mov (.v (.int .i64 0)))⟩,
     ⟨(some 4), none, (.mov (.v (.int .i64 0)))⟩])
  .ret))))))))
theorem k16 : FnIs Tryd.prog 16 56 [.t 2, .t 3, .t 4] a16 := ⟨_, _, Tryd.func16, rfl, by kernel_rfl, by kernel_rfl, rfl⟩

def lineA : ByteArray := ⟨#[99, 108, 111, 115, 101, 32, 65, 32, 119, 104, 101, 110, 32, 111, 112, 101, 110, 32, 66]⟩
def textA : ByteArray := ⟨#[99, 108, 111, 115, 101, 32, 65, 32, 119, 104, 101, 110, 32, 111, 112, 101, 110, 32, 66, 10]⟩
def nA : ByteArray := ⟨#[65]⟩
def nB : ByteArray := ⟨#[66]⟩
theorem split_line : splitS lineA 32 = [⟨#[99, 108, 111, 115, 101]⟩, nA, ⟨#[119, 104, 101, 110]⟩, wOpen, nB] := by decide +kernel
theorem split_text : splitS textA 10 = [lineA, ⟨#[]⟩] := by decide +kernel
def ruleA : Rul := ⟨true, nA, none, false, [⟨2, nB, 0, 0⟩]⟩
set_option maxRecDepth 20000 in
set_option maxHeartbeats 1000000 in
theorem s30 : Aw.Spec Tryd.prog 30 [] [S lineA] (fun rg v => rg = [.box 24 (rlc ruleA)] ∧ v = .tup [.agg (rlc ruleA), I 0]) := by
  refine Aw.Spec.regsW k30 rfl rfl fun E hn hnp hp => ?_
  unfold a30
  have pin : ∀ r, E.pin r = none := fun r => hp.none hnp (Nat.zero_le _)
  have hsp := s29 lineA 32 (by decide +kernel)
  rw [split_line] at hsp
  refine AWp.ofD [] [] hn mixed rfl ?_
  simp (config := { maxSteps := 2000000 }) only [go_sem, ↓reduceIte, Int.reduceToNat, Nat.reduceMul, Int.reduceBEq, Int.reduceBNe, Nat.reduceBEq, Nat.reduceAdd, Nat.reduceSub, Nat.reduceLeDiff, Nat.reduceEqDiff, Nat.reduceLT, reduceCtorEq]
  refine AWpL.callA [] hsp rfl rfl (by rw [hn]; rfl) rfl (fun r hr => by cases hr) fun rg v hv => ?_
  obtain ⟨rfl, rfl⟩ := hv
  refine ⟨Nat.zero_le _, ?_⟩
  rw [retS_nil]
  refine AWpL.ofM hn rfl ?_
  have d1 : decide (((5 : Nat) : Int) < 4) = false := by decide
  have d2 : ((ByteArray.mk #[99, 108, 111, 115, 101]).toList == (ByteArray.mk #[111, 112, 101, 110]).toList) = false := by decide +kernel
  have d3 : ((ByteArray.mk #[99, 108, 111, 115, 101]).toList == (ByteArray.mk #[99, 108, 111, 115, 101]).toList) = true := by decide +kernel
  have d4 : ((ByteArray.mk #[119, 104, 101, 110]).toList == (ByteArray.mk #[119, 104, 101, 110]).toList) = true := by decide +kernel
  have d5 : nm 8 nA = true := by decide +kernel
  have d6 : nm 8 nB = true := by decide +kernel
  simp (config := { maxSteps := 2000000 }) only [go_sem, ↓reduceIte, Int.reduceToNat, Nat.reduceMul, Int.reduceBEq, Int.reduceBNe, Nat.reduceBEq, Nat.reduceAdd, Nat.reduceSub, Nat.reduceLeDiff, Nat.reduceEqDiff, Nat.reduceLT, reduceCtorEq, d1, d2, d3]
  (repeat (refine And.intro (by first | omega | (refine ⟨by omega, by omega⟩) | (refine ⟨by omega, by omega, by omega⟩) | (simp only [List.length_map, List.length_range, List.length_append, List.length_cons, List.length_nil, List.length_replicate, List.length_set]; omega) | (simp; omega) | (intro hgd; cases hgd) | (intro hgd; refine ⟨hgd, ?_⟩; first | omega | (refine ⟨by omega, by omega⟩) | (simp; omega))) ?_))
  (refine AWpL.gcalle (b := true) rfl (fun _ => (s34 nA (by decide +kernel))) rfl (by rw [hn]; rfl) (fun _ => by simp (config := { maxSteps := 2000000 }) only [go_sem, ↓reduceIte, Int.reduceToNat, Nat.reduceMul, Int.reduceBEq, Int.reduceBNe, Nat.reduceBEq, Nat.reduceAdd, Nat.reduceSub, Nat.reduceLeDiff, Nat.reduceEqDiff, Nat.reduceLT, reduceCtorEq]) (AWpL.ofM hn rfl ?_); simp (config := { maxSteps := 2000000 }) only [go_sem, ↓reduceIte, Int.reduceToNat, Nat.reduceMul, Int.reduceBEq, Int.reduceBNe, Nat.reduceBEq, Nat.reduceAdd, Nat.reduceSub, Nat.reduceLeDiff, Nat.reduceEqDiff, Nat.reduceLT, reduceCtorEq])
  simp (config := { maxSteps := 2000000 }) only [go_sem, ↓reduceIte, Int.reduceToNat, Nat.reduceMul, Int.reduceBEq, Int.reduceBNe, Nat.reduceBEq, Nat.reduceAdd, Nat.reduceSub, Nat.reduceLeDiff, Nat.reduceEqDiff, Nat.reduceLT, reduceCtorEq, d4, d5]
  (repeat (refine And.intro (by first | omega | (refine ⟨by omega, by omega⟩) | (refine ⟨by omega, by omega, by omega⟩) | (simp only [List.length_map, List.length_range, List.length_append, List.length_cons, List.length_nil, List.length_replicate, List.length_set]; omega) | (simp; omega) | (intro hgd; cases hgd) | (intro hgd; refine ⟨hgd, ?_⟩; first | omega | (refine ⟨by omega, by omega⟩) | (simp; omega))) ?_))
  refine AWpL.weak (weak_nilbox 1 1 54 4 rfl rfl) (AWpL.ofM hn rfl ?_)
  simp (config := { maxSteps := 2000000 }) only [go_sem, ↓reduceIte, Int.reduceToNat, Nat.reduceMul, Int.reduceBEq, Int.reduceBNe, Nat.reduceBEq, Nat.reduceAdd, Nat.reduceSub, Nat.reduceLeDiff, Nat.reduceEqDiff, Nat.reduceLT, reduceCtorEq]
  refine AWpL.callA [1, 2] (s43 [] nB d6 (by decide +kernel) (by decide) false) rfl rfl (by rw [hn]; rfl) rfl (fun r hr => .inr (pin r)) fun rg v hv => ?_
  obtain ⟨rfl, rfl⟩ := hv
  refine ⟨Nat.le_refl _, AWpL.ofM hn rfl ?_⟩
  have d7 : decide ((0 : Int) > 0) = false := rfl
  have d8 : decide ((1 : Int) > 40) = false := rfl
  simp (config := { maxSteps := 2000000 }) only [go_sem, ↓reduceIte, Int.reduceToNat, Nat.reduceMul, Int.reduceBEq, Int.reduceBNe, Nat.reduceBEq, Nat.reduceAdd, Nat.reduceSub, Nat.reduceLeDiff, Nat.reduceEqDiff, Nat.reduceLT, reduceCtorEq, Aw.retS, Aw.retRg, Aw.kpM, Aw.bkM, Aw.pos, Aw.isBox, d7, d8]
  refine AWp.plan (.take 0 [false, false, false, false, true, true, true, true, true, true, true, false, false, false] (.take 1 [true, false, false, false, true, true, true, true, true, true, true, false, false, false] (.take 2 [true, true, false, false, true, true, true, true, true, true, true, false, false, false] (.take 3 [true, true, true, false, true, true, true, true, true, true, true, false, false, false] (.take 4 [true, true, true, true, false, false, false, true, true, true, true, false, false, false] (.take 5 [true, true, true, true, true, false, false, true, true, true, true, false, false, false] (.take 6 [true, true, true, true, true, true, false, true, true, true, true, false, false, false] (.take 7 [true, true, true, true, true, true, true, false, false, false, false, false, false, false] (.take 8 [true, true, true, true, true, true, true, true, false, false, false, false, false, false] (.take 9 [true, true, true, true, true, true, true, true, true, false, false, false, false, false] (.take 10 [true, true, true, true, true, true, true, true, true, true, false, false, false, false] (.take 11 [true, true, true, true, true, true, true, true, true, true, true, false, false, false] (.one 12 (.take 13 [true, true, true, true, true, true, true, true, true, true, true, true, true, false] .done)))))))))))))) [true, true, true, true, true, true, true, true, true, true, true, true, false, true] mixed hn rfl rfl ?_
  simp (config := { maxSteps := 2000000 }) only [go_sem, ↓reduceIte, Int.reduceToNat, Nat.reduceMul, Int.reduceBEq, Int.reduceBNe, Nat.reduceBEq, Nat.reduceAdd, Nat.reduceSub, Nat.reduceLeDiff, Nat.reduceEqDiff, Nat.reduceLT, reduceCtorEq, d3]
  (repeat (refine And.intro (by first | omega | (refine ⟨by omega, by omega⟩) | (refine ⟨by omega, by omega, by omega⟩) | (simp only [List.length_map, List.length_range, List.length_append, List.length_cons, List.length_nil, List.length_replicate, List.length_set]; omega) | (simp; omega) | (intro hgd; cases hgd) | (intro hgd; refine ⟨hgd, ?_⟩; first | omega | (refine ⟨by omega, by omega⟩) | (simp; omega))) ?_))
  refine Retn.weak (weak_freeze 2 rfl (pin 2) (by simp (config := { maxSteps := 2000000 }) only [go_sem, ↓reduceIte, Int.reduceToNat, Nat.reduceMul, Int.reduceBEq, Int.reduceBNe, Nat.reduceBEq, Nat.reduceAdd, Nat.reduceSub, Nat.reduceLeDiff, Nat.reduceEqDiff, Nat.reduceLT, reduceCtorEq, Nat.le_refl])) _ ?_
  simp (config := { maxSteps := 2000000 }) only [go_sem, ↓reduceIte, Int.reduceToNat, Nat.reduceMul, Int.reduceBEq, Int.reduceBNe, Nat.reduceBEq, Nat.reduceAdd, Nat.reduceSub, Nat.reduceLeDiff, Nat.reduceEqDiff, Nat.reduceLT, reduceCtorEq]
  refine Retn.ret (π := [0]) hp hnp ⟨rfl, ?_⟩
  simp (config := { maxSteps := 2000000 }) only [go_sem, ↓reduceIte, Int.reduceToNat, Nat.reduceMul, Int.reduceBEq, Int.reduceBNe, Nat.reduceBEq, Nat.reduceAdd, Nat.reduceSub, Nat.reduceLeDiff, Nat.reduceEqDiff, Nat.reduceLT, reduceCtorEq, Aw.renR, Aw.pos]
  exact ⟨rfl, rfl⟩
set_option maxRecDepth 20000 in
set_option maxHeartbeats 1000000 in
theorem s16 : Aw.Spec Tryd.prog 16 [] [S textA] (fun rg v => rg = [] ∧ v = .tup [.imm none false 3 ([ruleA].map rlc), I 0, I 0]) := by
  refine Aw.Spec.regsW k16 rfl rfl fun E hn hnp hp => ?_
  unfold a16
  have pin : ∀ r, E.pin r = none := fun r => hp.none hnp (Nat.zero_le _)
  have hsp := s29 textA 10 (by decide +kernel)
  rw [split_text] at hsp
  have d0 : decide ((textA.size : Int) > 8192) = false := by decide +kernel
  have d1 : IntKind.i64.wrap (((2 : Nat) : Int) - 1) = 1 := by decide +kernel
  have d2 : ((ByteArray.mk #[]).toList == (ByteArray.mk #[]).toList) = true := by decide +kernel
  refine AWp.ofD [] [] hn mixed rfl ?_
  simp (config := { maxSteps := 2000000 }) only [go_sem, ↓reduceIte, Int.reduceToNat, Nat.reduceMul, Int.reduceBEq, Int.reduceBNe, Nat.reduceBEq, Nat.reduceAdd, Nat.reduceSub, Nat.reduceLeDiff, Nat.reduceEqDiff, Nat.reduceLT, reduceCtorEq, d0]
  refine AWpL.callA [] hsp rfl rfl (by rw [hn]; rfl) rfl (fun r hr => by cases hr) fun rg v hv => ?_
  obtain ⟨rfl, rfl⟩ := hv
  refine ⟨Nat.zero_le _, ?_⟩
  rw [retS_nil]
  refine AWpL.ofM hn rfl ?_
  have d3 : (1 : Int).toNat = 1 := rfl
  simp (config := { maxSteps := 2000000 }) only [go_sem, ↓reduceIte, Int.reduceToNat, Nat.reduceMul, Int.reduceBEq, Int.reduceBNe, Nat.reduceBEq, Nat.reduceAdd, Nat.reduceSub, Nat.reduceLeDiff, Nat.reduceEqDiff, Nat.reduceLT, reduceCtorEq, d1, d2, d3]
  (repeat (refine And.intro (by first | omega | (refine ⟨by omega, by omega⟩) | (refine ⟨by omega, by omega, by omega⟩) | (simp only [List.length_map, List.length_range, List.length_append, List.length_cons, List.length_nil, List.length_replicate, List.length_set]; omega) | (simp; omega) | (intro hgd; cases hgd) | (intro hgd; refine ⟨hgd, ?_⟩; first | omega | (refine ⟨by omega, by omega⟩) | (simp; omega))) ?_))
  refine AWp.weak (weak_nil 7 24 3 rfl) ?_
  refine AWp.loop (fun k s => ∃ i : Nat, i + k = 1 ∧ Weak E s ⟨[(7, .hnd 0 0 i i false), (28, .imm none false 1 [sc lineA]), (29, I 1), (30, I i)], [.arr 24 3 (([ruleA].take i).map rlc)]⟩) (n := 1)
    ⟨0, rfl, weak_to [0] hp hnp rfl (by simp (config := { maxSteps := 2000000 }) only [go_sem, ↓reduceIte, Int.reduceToNat, Nat.reduceMul, Int.reduceBEq, Int.reduceBNe, Nat.reduceBEq, Nat.reduceAdd, Nat.reduceSub, Nat.reduceLeDiff, Nat.reduceEqDiff, Nat.reduceLT, reduceCtorEq, Int.natCast_zero, Aw.pos]) (by simp (config := { maxSteps := 2000000 }) only [go_sem, ↓reduceIte, Int.reduceToNat, Nat.reduceMul, Int.reduceBEq, Int.reduceBNe, Nat.reduceBEq, Nat.reduceAdd, Nat.reduceSub, Nat.reduceLeDiff, Nat.reduceEqDiff, Nat.reduceLT, reduceCtorEq, Aw.renR, Aw.pos])⟩ ?_
  rintro k s ⟨i, hik, hw⟩
  refine AWp.weak hw (AWp.ofD [] [] hn mixed rfl ?_)
  rcases (by omega : i = 0 ∨ i = 1) with rfl | rfl
  · have e0 : decide ((0 : Int) < 1) = true := rfl
    have e1 : ((0 : Int) == 24) = false := by decide
    have e2 : IntKind.i64.wrap ((0 : Int) + 1) = 1 := by decide +kernel
    simp (config := { maxSteps := 2000000 }) only [go_sem, ↓reduceIte, Int.reduceToNat, Nat.reduceMul, Int.reduceBEq, Int.reduceBNe, Nat.reduceBEq, Nat.reduceAdd, Nat.reduceSub, Nat.reduceLeDiff, Nat.reduceEqDiff, Nat.reduceLT, reduceCtorEq, e0]
    refine ⟨by omega, ?_⟩
    refine AWpL.callA [] s30 rfl rfl (by rw [hn]; rfl) rfl (fun r hr => by cases hr) fun rg v hv => ?_
    obtain ⟨rfl, rfl⟩ := hv
    refine ⟨Nat.zero_le _, ?_⟩
    rw [retS_new]
    refine AWpL.ofM hn rfl ?_
    simp (config := { maxSteps := 2000000 }) only [go_sem, ↓reduceIte, Int.reduceToNat, Nat.reduceMul, Int.reduceBEq, Int.reduceBNe, Nat.reduceBEq, Nat.reduceAdd, Nat.reduceSub, Nat.reduceLeDiff, Nat.reduceEqDiff, Nat.reduceLT, reduceCtorEq, e1]
    refine AWpL.app (r := 0) (els := []) (ys := [rlc ruleA]) rfl rfl rfl rfl (by rw [hn]; rfl) rfl (pin 0) (Nat.le_refl 1) (fun el hm y hy => by
      rw [List.mem_singleton.1 hm] at hy
      simp only [List.mem_cons, List.not_mem_nil, or_false] at hy
      rcases hy with rfl | rfl | rfl <;> rfl) (by simp only [List.length_cons, List.length_nil]; omega) (by simp only [List.length_cons, List.length_nil]; omega) (AWpL.ofM hn rfl ?_)
    simp (config := { maxSteps := 2000000 }) only [go_sem, ↓reduceIte, Int.reduceToNat, Nat.reduceMul, Int.reduceBEq, Int.reduceBNe, Nat.reduceBEq, Nat.reduceAdd, Nat.reduceSub, Nat.reduceLeDiff, Nat.reduceEqDiff, Nat.reduceLT, reduceCtorEq, e2]
    exact ⟨0, by omega, 1, rfl, weak_to [0] hp hnp rfl (by simp (config := { maxSteps := 2000000 }) only [go_sem, ↓reduceIte, Int.reduceToNat, Nat.reduceMul, Int.reduceBEq, Int.reduceBNe, Nat.reduceBEq, Nat.reduceAdd, Nat.reduceSub, Nat.reduceLeDiff, Nat.reduceEqDiff, Nat.reduceLT, reduceCtorEq, Int.natCast_one, Aw.pos]) (by simp (config := { maxSteps := 2000000 }) only [go_sem, ↓reduceIte, Int.reduceToNat, Nat.reduceMul, Int.reduceBEq, Int.reduceBNe, Nat.reduceBEq, Nat.reduceAdd, Nat.reduceSub, Nat.reduceLeDiff, Nat.reduceEqDiff, Nat.reduceLT, reduceCtorEq, Aw.renR, Aw.pos])⟩
  · have e0 : decide ((1 : Int) < 1) = false := rfl
    simp (config := { maxSteps := 2000000 }) only [go_sem, ↓reduceIte, Int.reduceToNat, Nat.reduceMul, Int.reduceBEq, Int.reduceBNe, Nat.reduceBEq, Nat.reduceAdd, Nat.reduceSub, Nat.reduceLeDiff, Nat.reduceEqDiff, Nat.reduceLT, reduceCtorEq, e0]
    refine Retn.weak (weak_freeze 0 rfl (pin 0) (by simp (config := { maxSteps := 2000000 }) only [go_sem, ↓reduceIte, Int.reduceToNat, Nat.reduceMul, Int.reduceBEq, Int.reduceBNe, Nat.reduceBEq, Nat.reduceAdd, Nat.reduceSub, Nat.reduceLeDiff, Nat.reduceEqDiff, Nat.reduceLT, reduceCtorEq, Nat.le_refl])) _ ?_
    refine Retn.ret (π := []) hp hnp ⟨rfl, ?_⟩
    simp (config := { maxSteps := 2000000 }) only [go_sem, ↓reduceIte, Int.reduceToNat, Nat.reduceMul, Int.reduceBEq, Int.reduceBNe, Nat.reduceBEq, Nat.reduceAdd, Nat.reduceSub, Nat.reduceLeDiff, Nat.reduceEqDiff, Nat.reduceLT, reduceCtorEq]
end Go.Proofs.YtocghkacngoblaaDoor
