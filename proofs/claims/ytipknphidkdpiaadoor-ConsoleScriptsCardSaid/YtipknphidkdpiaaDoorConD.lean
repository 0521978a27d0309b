/- The console: Print, Parse. -/
import Derived.Test.YtipknphidkdpiaaDoorAwZl
import Derived.Test.YtipknphidkdpiaaDoorAwZm
import Derived.Test.YtipknphidkdpiaaDoorConC
set_option linter.unusedVariables false
set_option linter.unusedSimpArgs false
namespace Go.Proofs.YtipknphidkdpiaaDoor
open Go.Proofs.YtipknphidkdpiaaDoor.Aw
attribute [local go_sem] Int.natCast_zero Int.natCast_one bne_self_eq_false beq_self_eq_true Bool.not_true Bool.not_false Option.isSome_none Option.isSome_some Aw.bkM_nil Option.getD_some Option.getD_none Nat.sub_zero Int.toNat_zero Aw.frzS Aw.frzT Aw.frzA Aw.frzL Aw.frzR Aw.frzO Aw.frzOL Aw.frzOT Aw.frzOR Aw.killS Aw.mapT Aw.mapR Aw.killM Aw.resAVs Aw.resAV Aw.quietOps Aw.wpP Aw.wpT Aw.wpS Aw.AOp.mild List.getElem?_cons_zero List.getElem?_cons_succ Bool.and_false Bool.and_self Bool.false_and Aw.opOb Aw.gdB Aw.Rnd Aw.subTm List.length_map Int.toNat_natCast and_self Aw.SeqC Aw.stops Aw.Ends Aw.looks Aw.renA Aw.renL Aw.renT Aw.renS Aw.wpO Aw.aop Aw.putTm Aw.St.ev Aw.St.put Aw.St.putO Aw.binAV Aw.intBin Aw.strBin Aw.pickAV Aw.optInt Aw.AV.strip Aw.AV.guard Aw.AV.cells Aw.gdOb Aw.AOp.opds Aw.AOp.still Aw.ptrCells Aw.St.reg Aw.fillAV Aw.fillOb Aw.elsOb Aw.splice Aw.firm Aw.cellish Aw.AV.shut Aw.shutAll Aw.Seq Aw.Blk Aw.retS_nil Aw.mapA Aw.mapL Aw.borA Aw.borOb Aw.allOb Aw.tupOf Aw.params Aw.Opd.of Array.toList Value.cells List.map_cons List.map_nil List.getD_cons_zero List.getD_cons_succ List.getD_nil List.length_cons List.length_nil List.take_succ_cons List.take_zero List.take_nil List.drop_zero List.drop_succ_cons List.drop_nil List.set_cons_zero List.set_cons_succ List.append_nil List.nil_append List.cons_append List.all_cons List.all_nil cond_false cond_true if_true if_false true_and and_true Bool.and_true Bool.true_and Option.map_some Option.map_none false_implies forall_const implies_true forall_eq imp_self Bool.cond_false_right Bool.cond_true_left beq_true beq_false Bool.not_eq_true' Bool.false_eq_true Nat.zero_add Nat.add_zero Aw.eqCells Aw.stopDraw Aw.skipS Aw.exactCap Aw.revealS Aw.srcEls Aw.srcSz
attribute [local go_sem ↓] Aw.look_nil Aw.look_ite Aw.wpL_nil Aw.wpL_op Aw.wpL_gd Aw.wpQ_nil Aw.wpQ_op Aw.wpQ_gd Aw.wpC_draw Aw.wpC_reg Aw.wpC_skip Aw.wpC_ret Aw.wpC_exit Aw.wpC_seq Aw.wpC_block Aw.wpC_loop Aw.wpC_cond Aw.stopAt_nil Aw.stopAt_cons Aw.wpD_skip Aw.wpD_ret Aw.wpD_exit Aw.wpD_region Aw.wpD_draw Aw.wpM_nil Aw.wpM_op Aw.wpM_gd Aw.wpD_seq Aw.wpD_block Aw.wpD_loop Aw.wpD_cond
/- gridhall/console.Print -/
def a5 : ACode :=
  (.seq (.region false [] [
     ⟨(some 1), none, (.box 23 (.t 0))⟩,
     ⟨(some 2), none, (.mov (.v (.string ⟨#[]⟩)))⟩,
     ⟨(some 3), none, (.mov (.v (.int .i64 0)))⟩])
  (.seq (.seq (.region false [] [
     ⟨(some 8), none, (.load 3 true (.t 1))⟩,
     ⟨(some 9), none, (.call 8 [(.t 8)])⟩,
     ⟨(some 4), none, (.mov (.t 9))⟩])
  (.seq (.region false [] [
     ⟨(some 10), none, (.mov (.t 4))⟩,
     ⟨(some 11), none, (.bin .neq 24 (.t 10) (.v (.int .i64 0)))⟩])
  (.cond (.t 11)
    (.seq (.region false [] [
       ⟨(some 12), none, (.mov (.t 4))⟩,
       ⟨(some 2), none, (.mov (.v (.string ⟨#[]⟩)))⟩,
       ⟨(some 3), none, (.mov (.t 12))⟩])
    .ret)
    .skip)))
  (.seq (.region false [] [
     ⟨(some 13), none, (.fld 0 (.t 1))⟩,
     ⟨(some 14), none, (.load 1 false (.t 13))⟩,
     ⟨(some 5), none, (.mov (.t 14))⟩])
  (.seq (.region false [] [
     ⟨(some 16), none, (.fld 0 (.t 1))⟩,
     ⟨(some 17), none, (.load 1 false (.t 16))⟩,
     ⟨(some 18), none, (.call 13 [(.t 17)])⟩,
     ⟨(some 15), none, (.mov (.t 18))⟩,
     ⟨(some 19), none, (.ext 0 (.t 15))⟩,
     ⟨(some 20), none, (.ext 1 (.t 15))⟩,
     ⟨(some 6), none, (.alloc 43 (.agg #[(.string ⟨#[]⟩), (.bool false), (.bool false), (.int .i64 0), (.int .i64 0)]))⟩,
     ⟨none, none, (.store 5 (.t 6) (.t 19))⟩,
     ⟨(some 7), none, (.mov (.t 20))⟩])
  (.seq (.seq (.region false [] [
     ⟨(some 21), none, (.fld 1 (.t 6))⟩,
     ⟨(some 22), none, (.load 1 false (.t 21))⟩])
  (.cond (.t 22)
    (.region false [] [
       ⟨(some 23), none, (.mov (.t 5))⟩,
       ⟨(some 24), none, (.fld 1 (.t 1))⟩,
       ⟨(some 25), none, (.load 1 false (.t 24))⟩,
       ⟨(some 26), none, (.bin .add 9 (.v (.string ⟨#[32]⟩)) (.t 25))⟩,
       ⟨(some 27), none, (.bin .add 9 (.t 23) (.t 26))⟩,
       ⟨(some 5), none, (.mov (.t 27))⟩])
    .skip))
  (.seq (.seq (.region false [] [
     ⟨(some 28), none, (.fld 2 (.t 6))⟩,
     ⟨(some 29), none, (.load 1 false (.t 28))⟩])
  (.cond (.t 29)
    (.region false [] [
       ⟨(some 30), none, (.mov (.t 5))⟩,
       ⟨(some 31), none, (.fld 2 (.t 1))⟩,
       ⟨(some 32), none, (.load 1 false (.t 31))⟩,
       ⟨(some 33), none, (.call 14 [(.t 32)])⟩,
       ⟨(some 34), none, (.bin .add 9 (.v (.string ⟨#[32]⟩)) (.t 33))⟩,
       ⟨(some 35), none, (.bin .add 9 (.t 30) (.t 34))⟩,
       ⟨(some 5), none, (.mov (.t 35))⟩])
    .skip))
  (.seq (.region false [] [
     ⟨(some 36), none, (.mov (.t 5))⟩,
     ⟨(some 2), none, (.mov (.t 36))⟩,
     ⟨(some 3), none, (.mov (.v (.int .i64 0)))⟩])
  .ret)))))))
theorem k5 : FnIs Tryd.prog 5 37 [.t 2, .t 3] a5 := ⟨_, _, Tryd.func5, rfl, by kernel_rfl, by kernel_rfl, rfl⟩
/- gridhall/console.Parse -/
def a6 : ACode :=
  (.seq (.region false [] [
     ⟨(some 2), none, (.alloc 23 (.agg #[(.string ⟨#[]⟩), (.string ⟨#[]⟩), (.int .i64 0)]))⟩,
     ⟨(some 3), none, (.mov (.v (.int .i64 0)))⟩])
  (.seq (.seq (.region false [] [
     ⟨(some 14), none, (.mov (.t 0))⟩,
     ⟨(some 15), none, (.lens (.t 14))⟩,
     ⟨(some 16), none, (.bin .gtr 3 (.t 15) (.v (.int .i64 8192)))⟩])
  (.cond (.t 16)
    (.seq (.region false [] [
       ⟨(some 17), none, (.build (.agg #[(.string ⟨#[]⟩), (.string ⟨#[]⟩), (.int .i64 0)]) [])⟩,
       ⟨none, none, (.store 3 (.t 2) (.t 17))⟩,
       ⟨(some 3), none, (.mov (.v (.int .i64 2)))⟩])
    .ret)
    .skip))
  (.seq (.region false [] [
     ⟨(some 18), none, (.mov (.t 0))⟩,
     ⟨(some 19), none, (.call 15 [(.t 18), (.v (.string ⟨#[32]⟩))])⟩,
     ⟨(some 4), none, (.mov (.t 19))⟩])
  (.seq (.region false [] [
     ⟨(some 21), none, (.mov (.t 4))⟩,
     ⟨(some 22), none, (.idx 1 (.t 21) (.v (.int .i64 0)))⟩,
     ⟨(some 23), none, (.load 1 false (.t 22))⟩,
     ⟨(some 24), none, (.call 13 [(.t 23)])⟩,
     ⟨(some 20), none, (.mov (.t 24))⟩,
     ⟨(some 25), none, (.ext 0 (.t 20))⟩,
     ⟨(some 26), none, (.ext 1 (.t 20))⟩,
     ⟨(some 5), none, (.alloc 43 (.agg #[(.string ⟨#[]⟩), (.bool false), (.bool false), (.int .i64 0), (.int .i64 0)]))⟩,
     ⟨none, none, (.store 5 (.t 5) (.t 25))⟩,
     ⟨(some 6), none, (.mov (.t 26))⟩])
  (.seq (.region false [] [
     ⟨(some 7), none, (.mov (.v (.int .i64 1)))⟩])
  (.seq (.seq (.region false [] [
     ⟨(some 27), none, (.fld 1 (.t 5))⟩,
     ⟨(some 28), none, (.load 1 false (.t 27))⟩,
     ⟨(some 29), none, (.fld 2 (.t 5))⟩,
     ⟨(some 30), none, (.load 1 false (.t 29))⟩,
     ⟨(some 31), none, (.build (.agg #[(.bool false), (.bool false)]) [(0, (1, (.t 28))), (1, (1, (.t 30)))])⟩,
     ⟨(some 32), none, (.mov (.v (.int .i64 0)))⟩])
  (.block 0 (.loop (.seq (.region false [] [
       ⟨(some 33), none, (.bin .lss 3 (.t 32) (.v (.int .i64 2)))⟩])
    (.seq (.cond (.t 33)
      .skip
      (.exit 0))
    (.seq (.block 1 (.seq (.region false [] [
        ⟨(some 34), none, (.idxv 2 1 false (.t 31) (.t 32))⟩,
        ⟨(some 9), none, (.mov (.t 34))⟩])
     (.seq (.region false [] [
        ⟨(some 35), none, (.mov (.t 9))⟩])
     (.cond (.t 35)
       (.region false [] [
          ⟨(some 36), none, (.mov (.t 7))⟩,
          ⟨(some 37), none, (.bin .add 3 (.t 36) (.v (.int .i64 1)))⟩,
          ⟨(some 7), none, (.mov (.t 37))⟩])
       .skip))))
    (.region false [] [
       ⟨(some 38), none, (.bin .add 3 (.t 32) (.v (.int .i64 1)))⟩,
       ⟨(some 32), none, (.mov (.t 38))⟩])))))))
  (.seq (.seq (.region false [] [
     ⟨(some 39), none, (.mov (.t 6))⟩,
     ⟨(some 40), none, (.un .not (.t 39))⟩,
     ⟨(some 41), none, (.mov (.t 40))⟩,
     ⟨(some 42), (some (41, false)), (.mov (.t 4))⟩,
     ⟨(some 43), (some (41, false)), (.len (.t 42))⟩,
     ⟨(some 44), (some (41, false)), (.mov (.t 7))⟩,
     ⟨(some 45), (some (41, false)), (.bin .neq 3 (.t 43) (.t 44))⟩,
     ⟨(some 46), none, (.pick (.t 41) (.v (.bool true)) (.t 45))⟩])
  (.cond (.t 46)
    (.seq (.region false [] [
       ⟨(some 47), none, (.build (.agg #[(.string ⟨#[]⟩), (.string ⟨#[]⟩), (.int .i64 0)]) [])⟩,
       ⟨none, none, (.store 3 (.t 2) (.t 47))⟩,
       ⟨(some 3), none, (.mov (.v (.int .i64 5)))⟩])
    .ret)
    .skip))
  (.seq (.region false [] [
     ⟨(some 48), none, (.fld 0 (.t 5))⟩,
     ⟨(some 49), none, (.load 1 false (.t 48))⟩,
     ⟨(some 50), none, (.build (.agg #[(.string ⟨#[]⟩), (.string ⟨#[]⟩), (.int .i64 0)]) [(0, (1, (.t 49)))])⟩,
     ⟨(some 10), none, (.alloc 23 (.agg #[(.string ⟨#[]⟩), (.string ⟨#[]⟩), (.int .i64 0)]))⟩,
     ⟨none, none, (.store 3 (.t 10) (.t 50))⟩])
  (.seq (.seq (.region false [] [
     ⟨(some 51), none, (.fld 1 (.t 5))⟩,
     ⟨(some 52), none, (.load 1 false (.t 51))⟩])
  (.cond (.t 52)
    (.region false [] [
       ⟨(some 53), none, (.mov (.t 4))⟩,
       ⟨(some 54), none, (.idx 1 (.t 53) (.v (.int .i64 1)))⟩,
       ⟨(some 55), none, (.load 1 false (.t 54))⟩,
       ⟨(some 56), none, (.fld 1 (.t 10))⟩,
       ⟨none, none, (.store 1 (.t 56) (.t 55))⟩])
    .skip))
  (.seq (.seq (.region false [] [
     ⟨(some 57), none, (.fld 2 (.t 5))⟩,
     ⟨(some 58), none, (.load 1 false (.t 57))⟩])
  (.cond (.t 58)
    (.seq (.region false [] [
       ⟨(some 60), none, (.mov (.t 4))⟩,
       ⟨(some 61), none, (.mov (.t 7))⟩,
       ⟨(some 62), none, (.bin .sub 3 (.t 61) (.v (.int .i64 1)))⟩,
       ⟨(some 63), none, (.idx 1 (.t 60) (.t 62))⟩,
       ⟨(some 64), none, (.load 1 false (.t 63))⟩,
       ⟨(some 65), none, (.call 16 [(.t 64)])⟩,
       ⟨(some 59), none, (.mov (.t 65))⟩,
       ⟨(some 66), none, (.ext 0 (.t 59))⟩,
       ⟨(some 67), none, (.ext 1 (.t 59))⟩,
       ⟨(some 11), none, (.mov (.t 66))⟩,
       ⟨(some 12), none, (.mov (.t 67))⟩])
    (.seq (.seq (.region true [[], [0], [1], [2], [3, 2, 2], [2], [2], [6, 2], [5, 7, 2], [8, 2], [4, 9, 2], [2, 10]] [
       ⟨(some 68), none, (.mov (.t 12))⟩,
       ⟨(some 69), none, (.nilI true (.t 68))⟩,
       ⟨(some 70), none, (.mov (.t 69))⟩,
       ⟨(some 71), (some (70, false)), (.mov (.t 11))⟩,
       ⟨(some 72), (some (70, false)), (.call 14 [(.t 71)])⟩,
       ⟨(some 73), (some (70, false)), (.mov (.t 4))⟩,
       ⟨(some 74), (some (70, false)), (.mov (.t 7))⟩,
       ⟨(some 75), (some (70, false)), (.bin .sub 3 (.t 74) (.v (.int .i64 1)))⟩,
       ⟨(some 76), (some (70, false)), (.idx 1 (.t 73) (.t 75))⟩,
       ⟨(some 77), (some (70, false)), (.load 1 false (.t 76))⟩,
       ⟨(some 78), (some (70, false)), (.bin .neq 9 (.t 72) (.t 77))⟩,
       ⟨(some 79), none, (.pick (.t 70) (.v (.bool true)) (.t 78))⟩])
    (.cond (.t 79)
      (.seq (.region false [] [
         ⟨(some 80), none, (.build (.agg #[(.string ⟨#[]⟩), (.string ⟨#[]⟩), (.int .i64 0)]) [])⟩,
         ⟨none, none, (.store 3 (.t 2) (.t 80))⟩,
         ⟨(some 3), none, (.mov (.v (.int .i64 5)))⟩])
      .ret)
      .skip))
    (.region false [] [
       ⟨(some 81), none, (.mov (.t 11))⟩,
       ⟨(some 82), none, (.fld 2 (.t 10))⟩,
       ⟨none, none, (.store 1 (.t 82) (.t 81))⟩])))
    .skip))
  (.seq (.seq (.region false [] [
     ⟨(some 83), none, (.load 3 true (.t 10))⟩,
     ⟨(some 84), none, (.call 8 [(.t 83)])⟩,
     ⟨(some 13), none, (.mov (.t 84))⟩])
  (.seq (.region false [] [
     ⟨(some 85), none, (.mov (.t 13))⟩,
     ⟨(some 86), none, (.bin .neq 24 (.t 85) (.v (.int .i64 0)))⟩])
  (.cond (.t 86)
    (.seq (.region false [] [
       ⟨(some 87), none, (.build (.agg #[(.string ⟨#[]⟩), (.string ⟨#[]⟩), (.int .i64 0)]) [])⟩,
       ⟨(some 88), none, (.mov (.t 13))⟩,
       ⟨none, none, (.store 3 (.t 2) (.t 87))⟩,
       ⟨(some 3), none, (.mov (.t 88))⟩])
    .ret)
    .skip)))
  (.seq (.region false [] [
     ⟨(some 89), none, (.load 3 true (.t 10))⟩,
     ⟨none, none, (.store 3 (.t 2) (.t 89))⟩,
     ⟨(some 3), none, (.mov (.v (.int .i64 0)))⟩])
  .ret))))))))))))
theorem k6 : FnIs Tryd.prog 6 90 [.c 2 3 true, .t 3] a6 := ⟨_, _, Tryd.func6, rfl, by kernel_rfl, by kernel_rfl, rfl⟩

set_option maxRecDepth 20000 in
theorem s5 {Γ : List (Nat × Array Value)} (hP : powT ∈ Γ) (c : Cmd) (hc : c.name.size ≤ 9223372036854775807) : Aw.SpecG Γ Tryd.prog 5 [] [.agg (cc c)] (Gives (· = .tup [S (printF c).1, I (printF c).2])) := by
  refine SpecG.shut (Post := fun rg v => v = .tup [S (printF c).1, I (printF c).2]) ?_ fun rg v h => by subst h; exact ⟨rfl, rfl, rfl⟩
  refine Aw.SpecG.regsW k5 rfl rfl fun E hn hnp hp hT => ?_
  unfold a5
  have pin : ∀ r, E.pin r = none := fun r => hp.none hnp (Nat.zero_le _)
  refine AWp.ofD [] [] hn mixed rfl ?_
  simp (config := { maxSteps := 2000000 }) only [go_sem, ↓reduceIte, Int.reduceToNat, Nat.reduceMul, Int.reduceBEq, Int.reduceBNe, Nat.reduceBEq, Nat.reduceAdd, Nat.reduceSub, Nat.reduceLeDiff, Nat.reduceEqDiff, Nat.reduceLT, reduceCtorEq]
  (refine AWpL.calle (s8 c hc) rfl (by rw [hn]; rfl) (by simp (config := { maxSteps := 2000000 }) only [go_sem, ↓reduceIte, Int.reduceToNat, Nat.reduceMul, Int.reduceBEq, Int.reduceBNe, Nat.reduceBEq, Nat.reduceAdd, Nat.reduceSub, Nat.reduceLeDiff, Nat.reduceEqDiff, Nat.reduceLT, reduceCtorEq]) (AWpL.ofM hn rfl ?_); simp (config := { maxSteps := 2000000 }) only [go_sem, ↓reduceIte, Int.reduceToNat, Nat.reduceMul, Int.reduceBEq, Int.reduceBNe, Nat.reduceBEq, Nat.reduceAdd, Nat.reduceSub, Nat.reduceLeDiff, Nat.reduceEqDiff, Nat.reduceLT, reduceCtorEq])
  unfold printF
  by_cases h : checkF c = 0
  · have e0 : (checkF c != 0) = false := by rw [h]; rfl
    rw [if_pos h]
    simp (config := { maxSteps := 2000000 }) only [go_sem, ↓reduceIte, Int.reduceToNat, Nat.reduceMul, Int.reduceBEq, Int.reduceBNe, Nat.reduceBEq, Nat.reduceAdd, Nat.reduceSub, Nat.reduceLeDiff, Nat.reduceEqDiff, Nat.reduceLT, reduceCtorEq, e0]
    (refine AWpL.calle (s13 c.verb) rfl (by rw [hn]; rfl) (by simp (config := { maxSteps := 2000000 }) only [go_sem, ↓reduceIte, Int.reduceToNat, Nat.reduceMul, Int.reduceBEq, Int.reduceBNe, Nat.reduceBEq, Nat.reduceAdd, Nat.reduceSub, Nat.reduceLeDiff, Nat.reduceEqDiff, Nat.reduceLT, reduceCtorEq]) (AWpL.ofM hn rfl ?_); simp (config := { maxSteps := 2000000 }) only [go_sem, ↓reduceIte, Int.reduceToNat, Nat.reduceMul, Int.reduceBEq, Int.reduceBNe, Nat.reduceBEq, Nat.reduceAdd, Nat.reduceSub, Nat.reduceLeDiff, Nat.reduceEqDiff, Nat.reduceLT, reduceCtorEq])
    obtain ⟨h1, h2, h3, h4, h5, h6⟩ := check_of h
    obtain ⟨f1, f2⟩ := find_of h1
    obtain ⟨g1, g2, g3, g4, g5⟩ := vbs_facts _ f1
    unfold textF
    generalize hV : findV c.verb = V at *
    obtain ⟨v, is⟩ := V
    dsimp only at *
    have hit : Aw.SpecG Γ Tryd.prog 14 [] [I c.n] (Gives (· = S (itoaB c.n))) := s14 (Γ := Γ) hP c.n (by omega) (by omega)
    have hv5 : c.verb.size ≤ 5 := f2 ▸ g3
    have hi21 : (itoaB c.n).size ≤ 21 := Lib.itoa_length_le c.n (by omega) (by omega)
    have h32 : (#[32] : Array UInt8).size = 1 := rfl
    have h33 : (⟨#[32]⟩ : ByteArray).size = 1 := rfl
    have hn8 : v.named = true → c.name.size ≤ 8 := fun hn => by
      have := h2 hn
      unfold nm at this
      simp only [Bool.and_eq_true, decide_eq_true_eq] at this
      omega
    refine ⟨fun k1 => ⟨by have := hn8 k1; omega, ?_, fun k2 => ?_, fun k2 => ?_⟩, fun k1 => ⟨fun k2 => ?_, fun k2 => ?_⟩⟩
    · have := hn8 k1; omega
    · have := hn8 k1
      rw [if_pos k2, if_pos k1]
      (refine AWpL.calleT (SpecG.at (hit) hT) rfl (by rw [hn]; rfl) (by simp (config := { maxSteps := 2000000 }) only [go_sem, ↓reduceIte, Int.reduceToNat, Nat.reduceMul, Int.reduceBEq, Int.reduceBNe, Nat.reduceBEq, Nat.reduceAdd, Nat.reduceSub, Nat.reduceLeDiff, Nat.reduceEqDiff, Nat.reduceLT, reduceCtorEq]) (AWpL.ofM hn rfl ?_); simp (config := { maxSteps := 2000000 }) only [go_sem, ↓reduceIte, Int.reduceToNat, Nat.reduceMul, Int.reduceBEq, Int.reduceBNe, Nat.reduceBEq, Nat.reduceAdd, Nat.reduceSub, Nat.reduceLeDiff, Nat.reduceEqDiff, Nat.reduceLT, reduceCtorEq])
      refine ⟨by omega, by omega, ?_⟩
      refine Retn.ret (π := []) hp hnp ⟨rfl, ?_⟩
      simp (config := { maxSteps := 2000000 }) only [go_sem, ↓reduceIte, Int.reduceToNat, Nat.reduceMul, Int.reduceBEq, Int.reduceBNe, Nat.reduceBEq, Nat.reduceAdd, Nat.reduceSub, Nat.reduceLeDiff, Nat.reduceEqDiff, Nat.reduceLT, reduceCtorEq, Aw.renR, Aw.pos]
    · rw [if_neg (by rw [k2]; decide), if_pos k1]
      refine Retn.ret (π := []) hp hnp ⟨rfl, ?_⟩
      simp (config := { maxSteps := 2000000 }) only [go_sem, ↓reduceIte, Int.reduceToNat, Nat.reduceMul, Int.reduceBEq, Int.reduceBNe, Nat.reduceBEq, Nat.reduceAdd, Nat.reduceSub, Nat.reduceLeDiff, Nat.reduceEqDiff, Nat.reduceLT, reduceCtorEq, Aw.renR, Aw.pos]
    · rw [if_pos k2, if_neg (by rw [k1]; decide)]
      (refine AWpL.calleT (SpecG.at (hit) hT) rfl (by rw [hn]; rfl) (by simp (config := { maxSteps := 2000000 }) only [go_sem, ↓reduceIte, Int.reduceToNat, Nat.reduceMul, Int.reduceBEq, Int.reduceBNe, Nat.reduceBEq, Nat.reduceAdd, Nat.reduceSub, Nat.reduceLeDiff, Nat.reduceEqDiff, Nat.reduceLT, reduceCtorEq]) (AWpL.ofM hn rfl ?_); simp (config := { maxSteps := 2000000 }) only [go_sem, ↓reduceIte, Int.reduceToNat, Nat.reduceMul, Int.reduceBEq, Int.reduceBNe, Nat.reduceBEq, Nat.reduceAdd, Nat.reduceSub, Nat.reduceLeDiff, Nat.reduceEqDiff, Nat.reduceLT, reduceCtorEq])
      refine ⟨by omega, by omega, ?_⟩
      refine Retn.ret (π := []) hp hnp ⟨rfl, ?_⟩
      simp (config := { maxSteps := 2000000 }) only [go_sem, ↓reduceIte, Int.reduceToNat, Nat.reduceMul, Int.reduceBEq, Int.reduceBNe, Nat.reduceBEq, Nat.reduceAdd, Nat.reduceSub, Nat.reduceLeDiff, Nat.reduceEqDiff, Nat.reduceLT, reduceCtorEq, Aw.renR, Aw.pos]
    · rw [if_neg (by rw [k2]; decide), if_neg (by rw [k1]; decide)]
      refine Retn.ret (π := []) hp hnp ⟨rfl, ?_⟩
      simp (config := { maxSteps := 2000000 }) only [go_sem, ↓reduceIte, Int.reduceToNat, Nat.reduceMul, Int.reduceBEq, Int.reduceBNe, Nat.reduceBEq, Nat.reduceAdd, Nat.reduceSub, Nat.reduceLeDiff, Nat.reduceEqDiff, Nat.reduceLT, reduceCtorEq, Aw.renR, Aw.pos]
  · have e0 : (checkF c != 0) = true := by rw [bne_iff_ne]; exact h
    rw [if_neg h]
    simp (config := { maxSteps := 2000000 }) only [go_sem, ↓reduceIte, Int.reduceToNat, Nat.reduceMul, Int.reduceBEq, Int.reduceBNe, Nat.reduceBEq, Nat.reduceAdd, Nat.reduceSub, Nat.reduceLeDiff, Nat.reduceEqDiff, Nat.reduceLT, reduceCtorEq, e0]
    refine Retn.ret (π := []) hp hnp ⟨rfl, ?_⟩
    simp (config := { maxSteps := 2000000 }) only [go_sem, ↓reduceIte, Int.reduceToNat, Nat.reduceMul, Int.reduceBEq, Int.reduceBNe, Nat.reduceBEq, Nat.reduceAdd, Nat.reduceSub, Nat.reduceLeDiff, Nat.reduceEqDiff, Nat.reduceLT, reduceCtorEq, Aw.renR, Aw.pos]
def mf (v : Vb) : Nat → Nat
  | 0 => 1
  | 1 => 1 + (if v.named = true then 1 else 0)
  | _ => manyF v
theorem mf_one (v : Vb) : mf v 1 = 1 + (if v.named = true then 1 else 0) := rfl
theorem mf_two (v : Vb) : mf v 2 = 1 + (if v.named = true then 1 else 0) + (if v.number = true then 1 else 0) := rfl
set_option maxRecDepth 20000 in
set_option maxHeartbeats 1000000 in
theorem s6 {Γ : List (Nat × Array Value)} {e1 e2 : Value} (hP : powT ∈ Γ) (hE : Errs Γ e1 e2) (s : ByteArray) (hs : s.size ≤ 9223372036854775807) : Aw.SpecG Γ Tryd.prog 6 [] [S s] (Gives (· = .tup [.agg (cc (parseF s).1), I (parseF s).2])) := by
  refine SpecG.shut (Post := fun rg v => v = .tup [.agg (cc (parseF s).1), I (parseF s).2]) ?_ fun rg v h => by subst h; exact ⟨rfl, rfl, rfl⟩
  refine Aw.SpecG.regsW k6 rfl rfl fun E hn hnp hp hT => ?_
  unfold a6
  have pin : ∀ r, E.pin r = none := fun r => hp.none hnp (Nat.zero_le _)
  refine AWp.ofD [0, 1, 999] [] hn mixed rfl ?_
  unfold parseF
  by_cases hbig : s.size > 8192
  · have e0 : decide ((s.size : Int) > 8192) = true := decide_eq_true (by omega)
    rw [if_pos hbig]
    simp (config := { maxSteps := 2000000 }) only [go_sem, ↓reduceIte, Int.reduceToNat, Nat.reduceMul, Int.reduceBEq, Int.reduceBNe, Nat.reduceBEq, Nat.reduceAdd, Nat.reduceSub, Nat.reduceLeDiff, Nat.reduceEqDiff, Nat.reduceLT, reduceCtorEq, e0]
    refine Retn.ret (π := [0]) hp hnp ⟨rfl, ?_⟩
    simp (config := { maxSteps := 2000000 }) only [go_sem, ↓reduceIte, Int.reduceToNat, Nat.reduceMul, Int.reduceBEq, Int.reduceBNe, Nat.reduceBEq, Nat.reduceAdd, Nat.reduceSub, Nat.reduceLeDiff, Nat.reduceEqDiff, Nat.reduceLT, reduceCtorEq, Aw.renR, Aw.pos]
    rfl
  · have e0 : decide ((s.size : Int) > 8192) = false := decide_eq_false (by omega)
    rw [if_neg hbig]
    simp (config := { maxSteps := 2000000 }) only [go_sem, ↓reduceIte, Int.reduceToNat, Nat.reduceMul, Int.reduceBEq, Int.reduceBNe, Nat.reduceBEq, Nat.reduceAdd, Nat.reduceSub, Nat.reduceLeDiff, Nat.reduceEqDiff, Nat.reduceLT, reduceCtorEq, e0]
    refine AWpL.callA [] (s15 s 32 (by omega)) rfl rfl (by rw [hn]; rfl) rfl (fun r hr => by cases hr) fun rg v hv => ?_
    obtain ⟨rfl, rfl⟩ := hv
    refine ⟨Nat.zero_le _, ?_⟩
    rw [retS_nil]
    refine AWpL.ofM hn rfl ?_
    have hsz := split_size s 32
    have hne := split_ne s 32
    have hlen := split_len s 32
    generalize splitS s 32 = L at *
    have h0 : 0 < L.length := by obtain ⟨x, l, rfl⟩ := hne; simp
    have e1 := getD_map sc h0
    have e2 : L.getD 0 ⟨#[]⟩ = L[0] := by rw [List.getD_eq_getElem?_getD, List.getElem?_eq_getElem h0]; rfl
    unfold parseL
    rw [e2]
    simp (config := { maxSteps := 2000000 }) only [go_sem, ↓reduceIte, Int.reduceToNat, Nat.reduceMul, Int.reduceBEq, Int.reduceBNe, Nat.reduceBEq, Nat.reduceAdd, Nat.reduceSub, Nat.reduceLeDiff, Nat.reduceEqDiff, Nat.reduceLT, reduceCtorEq, e1]
    refine ⟨⟨by omega, by omega⟩, ?_⟩
    (refine AWpL.calle (s13 L[0]) rfl (by rw [hn]; rfl) (by simp (config := { maxSteps := 2000000 }) only [go_sem, ↓reduceIte, Int.reduceToNat, Nat.reduceMul, Int.reduceBEq, Int.reduceBNe, Nat.reduceBEq, Nat.reduceAdd, Nat.reduceSub, Nat.reduceLeDiff, Nat.reduceEqDiff, Nat.reduceLT, reduceCtorEq]) (AWpL.ofM hn rfl ?_); simp (config := { maxSteps := 2000000 }) only [go_sem, ↓reduceIte, Int.reduceToNat, Nat.reduceMul, Int.reduceBEq, Int.reduceBNe, Nat.reduceBEq, Nat.reduceAdd, Nat.reduceSub, Nat.reduceLeDiff, Nat.reduceEqDiff, Nat.reduceLT, reduceCtorEq])
    generalize findV L[0] = V at *
    obtain ⟨v, is⟩ := V
    dsimp only
    refine AWp.cut ⟨[(2, .ptr 0 0 0), (4, .imm none true 1 (L.map sc)), (5, .ptr 1 0 0), (6, B is), (7, I (manyF v))], [.box 23 [S ⟨#[]⟩, S ⟨#[]⟩, I 0], .box 43 (vc v)]⟩ (AWp.block ?_) ?_
    · refine AWp.loop (fun k st => ∃ i : Nat, i + k = 2 ∧ Weak E st ⟨[(2, .ptr 0 0 0), (4, .imm none true 1 (L.map sc)), (5, .ptr 1 0 0), (6, B is), (7, I (mf v i)), (31, .agg [B v.named, B v.number]), (32, I i)], [.box 23 [S ⟨#[]⟩, S ⟨#[]⟩, I 0], .box 43 (vc v)]⟩) (n := 2)
        ⟨0, by omega, weak_tm (by simp (config := { maxSteps := 2000000 }) only [go_sem, ↓reduceIte, Int.reduceToNat, Nat.reduceMul, Int.reduceBEq, Int.reduceBNe, Nat.reduceBEq, Nat.reduceAdd, Nat.reduceSub, Nat.reduceLeDiff, Nat.reduceEqDiff, Nat.reduceLT, reduceCtorEq] <;> rfl)⟩ ?_
      rintro k st ⟨i, hi, hw⟩
      refine AWp.weak hw (AWp.ofD [] [] hn mixed rfl ?_)
      match i, hi with
      | 0, hi =>
        have d0 : decide ((0 : Int) < 2) = true := rfl
        have d1 : IntKind.i64.wrap (0 + 1) = ((1 : Nat) : Int) := rfl
        simp (config := { maxSteps := 2000000 }) only [go_sem, ↓reduceIte, Int.reduceToNat, Nat.reduceMul, Int.reduceBEq, Int.reduceBNe, Nat.reduceBEq, Nat.reduceAdd, Nat.reduceSub, Nat.reduceLeDiff, Nat.reduceEqDiff, Nat.reduceLT, reduceCtorEq, d0, Int.natCast_zero]
        refine ⟨⟨by decide, by decide⟩, fun h => ?_, fun h => ?_⟩
        · have d2 : IntKind.i64.wrap ((mf v 0 : Int) + 1) = (mf v 1 : Int) := by rw [show mf v 0 = 1 from rfl, show mf v 1 = 2 by rw [mf_one, if_pos h]]; rfl
          exact ⟨k - 1, by omega, 1, by omega, weak_tm (by simp (config := { maxSteps := 2000000 }) only [go_sem, ↓reduceIte, Int.reduceToNat, Nat.reduceMul, Int.reduceBEq, Int.reduceBNe, Nat.reduceBEq, Nat.reduceAdd, Nat.reduceSub, Nat.reduceLeDiff, Nat.reduceEqDiff, Nat.reduceLT, reduceCtorEq, d1, d2])⟩
        · have d2 : mf v 0 = mf v 1 := by rw [mf_one, if_neg (by rw [h]; decide)]; rfl
          exact ⟨k - 1, by omega, 1, by omega, weak_tm (by simp (config := { maxSteps := 2000000 }) only [go_sem, ↓reduceIte, Int.reduceToNat, Nat.reduceMul, Int.reduceBEq, Int.reduceBNe, Nat.reduceBEq, Nat.reduceAdd, Nat.reduceSub, Nat.reduceLeDiff, Nat.reduceEqDiff, Nat.reduceLT, reduceCtorEq, d1, d2])⟩
      | 1, hi =>
        have d0 : decide ((1 : Int) < 2) = true := rfl
        have d1 : IntKind.i64.wrap (1 + 1) = ((2 : Nat) : Int) := rfl
        simp (config := { maxSteps := 2000000 }) only [go_sem, ↓reduceIte, Int.reduceToNat, Nat.reduceMul, Int.reduceBEq, Int.reduceBNe, Nat.reduceBEq, Nat.reduceAdd, Nat.reduceSub, Nat.reduceLeDiff, Nat.reduceEqDiff, Nat.reduceLT, reduceCtorEq, d0, Int.natCast_one]
        refine ⟨⟨by decide, by decide⟩, fun h => ?_, fun h => ?_⟩
        · have d2 : IntKind.i64.wrap ((mf v 1 : Int) + 1) = (mf v 2 : Int) := by
            have : mf v 2 = mf v 1 + 1 := by rw [mf_two, mf_one, if_pos (c := v.number = true) h]
            have h3 : mf v 1 ≤ 2 := by rw [mf_one]; split <;> omega
            rw [this, w64 (by omega) (by omega)]; omega
          exact ⟨k - 1, by omega, 2, by omega, weak_tm (by simp (config := { maxSteps := 2000000 }) only [go_sem, ↓reduceIte, Int.reduceToNat, Nat.reduceMul, Int.reduceBEq, Int.reduceBNe, Nat.reduceBEq, Nat.reduceAdd, Nat.reduceSub, Nat.reduceLeDiff, Nat.reduceEqDiff, Nat.reduceLT, reduceCtorEq, d1, d2])⟩
        · have d2 : mf v 1 = mf v 2 := by rw [mf_two, mf_one, if_neg (c := v.number = true) (by rw [h]; decide)]; rfl
          exact ⟨k - 1, by omega, 2, by omega, weak_tm (by simp (config := { maxSteps := 2000000 }) only [go_sem, ↓reduceIte, Int.reduceToNat, Nat.reduceMul, Int.reduceBEq, Int.reduceBNe, Nat.reduceBEq, Nat.reduceAdd, Nat.reduceSub, Nat.reduceLeDiff, Nat.reduceEqDiff, Nat.reduceLT, reduceCtorEq, d1, d2])⟩
      | 2, hi =>
        have d0 : decide (((2 : Nat) : Int) < 2) = false := rfl
        simp (config := { maxSteps := 2000000 }) only [go_sem, ↓reduceIte, Int.reduceToNat, Nat.reduceMul, Int.reduceBEq, Int.reduceBNe, Nat.reduceBEq, Nat.reduceAdd, Nat.reduceSub, Nat.reduceLeDiff, Nat.reduceEqDiff, Nat.reduceLT, reduceCtorEq, d0]
        have d2 : mf v 2 = manyF v := rfl
        exact weak_tm (by simp (config := { maxSteps := 2000000 }) only [go_sem, ↓reduceIte, Int.reduceToNat, Nat.reduceMul, Int.reduceBEq, Int.reduceBNe, Nat.reduceBEq, Nat.reduceAdd, Nat.reduceSub, Nat.reduceLeDiff, Nat.reduceEqDiff, Nat.reduceLT, reduceCtorEq, d2])
      | i + 3, hi => exact absurd hi (by omega)
    have hmany : 1 ≤ manyF v ∧ manyF v ≤ 3 := by unfold manyF; split <;> split <;> omega
    by_cases hbad : is = false ∨ L.length ≠ manyF v
    · have d0 : ((!is) || (((L.length : Nat) : Int) != (manyF v : Int))) = true := by
        rcases hbad with h | h
        · rw [h]; rfl
        · rw [Bool.or_eq_true]; right; rw [bne_iff_ne]; omega
      rw [if_pos hbad]
      simp (config := { maxSteps := 2000000 }) only [go_sem, ↓reduceIte, Int.reduceToNat, Nat.reduceMul, Int.reduceBEq, Int.reduceBNe, Nat.reduceBEq, Nat.reduceAdd, Nat.reduceSub, Nat.reduceLeDiff, Nat.reduceEqDiff, Nat.reduceLT, reduceCtorEq, d0]
      refine Retn.ret (π := [0]) hp hnp ⟨rfl, ?_⟩
      simp (config := { maxSteps := 2000000 }) only [go_sem, ↓reduceIte, Int.reduceToNat, Nat.reduceMul, Int.reduceBEq, Int.reduceBNe, Nat.reduceBEq, Nat.reduceAdd, Nat.reduceSub, Nat.reduceLeDiff, Nat.reduceEqDiff, Nat.reduceLT, reduceCtorEq, Aw.renR, Aw.pos]
      rfl
    · rw [if_neg hbad]
      rw [not_or] at hbad
      obtain ⟨hb1, hb2⟩ := hbad
      have hb1 : is = true := by simpa using hb1
      have hb2 : L.length = manyF v := Decidable.not_not.1 hb2
      subst hb1
      have d0 : (((L.length : Nat) : Int) != (manyF v : Int)) = false := by rw [bne_eq_false_iff_eq, hb2]
      cases hnm : v.named with
      | true =>
        cases hnu : v.number with
        | true =>
          have hmv : manyF v = 3 := by unfold manyF; rw [hnm, hnu]; rfl
          rw [hmv] at hb2 ⊢
          obtain ⟨x0, x1, x2, rfl⟩ : ∃ x0 x1 x2, L = [x0, x1, x2] := by
            match L, hb2 with
            | [x0, x1, x2], _ => exact ⟨x0, x1, x2, rfl⟩
          have zx0 := hsz x0 (by simp)
          have zx1 := hsz x1 (by simp)
          have zx2 := hsz x2 (by simp)
          have w1 : IntKind.i64.wrap (((3 : Nat) : Int) - 1) = 2 := rfl
          have w2 : ((([x0, x1, x2] : List ByteArray).length : Int) != ((3 : Nat) : Int)) = false := rfl
          have w3 : (((3 : Nat) : Int) != ((3 : Nat) : Int)) = false := rfl
          have hname : (⟨#[]⟩ : ByteArray).size = 0 := rfl
          simp only [hnm, hnu, if_true, Bool.false_eq_true, if_false]
          simp (config := { maxSteps := 2000000 }) only [go_sem, ↓reduceIte, Int.reduceToNat, Nat.reduceMul, Int.reduceBEq, Int.reduceBNe, Nat.reduceBEq, Nat.reduceAdd, Nat.reduceSub, Nat.reduceLeDiff, Nat.reduceEqDiff, Nat.reduceLT, reduceCtorEq, w1, w2, w3, hnm, hnu]
          refine ⟨⟨by decide, by decide⟩, ⟨by decide, by decide⟩, ?_⟩
          refine AWpL.callAT [] (SpecG.at (s16 _ _ hE.m1 hE.m2 hE.k1 hE.k2 x2 (by omega)) hT) rfl rfl (by rw [hn]; rfl) rfl (fun r hr => by cases hr) fun rg v1 hv => ?_
          obtain ⟨rfl, y, hy, rfl⟩ := hv
          refine ⟨Nat.zero_le _, ?_⟩
          rw [retS_nil]
          refine AWpL.ofM hn rfl ?_
          have hrng := numF_range x2
          unfold numB
          generalize numF x2 = q at *
          obtain ⟨n, ok⟩ := q
          dsimp only at hrng hy ⊢
          have hit : Aw.SpecG Γ Tryd.prog 14 [] [I n] (Gives (· = S (itoaB n))) := s14 (Γ := Γ) hP n (by omega) (by omega)
          generalize itoaB n = H at *
          cases ok with
          | false =>
            unfold errV at hy
            rw [if_neg Bool.false_ne_true] at hy
            obtain ⟨ty, vy, rfl⟩ := hy
            rw [Bool.false_and, if_pos rfl]
            simp (config := { maxSteps := 2000000 }) only [go_sem, ↓reduceIte, Int.reduceToNat, Nat.reduceMul, Int.reduceBEq, Int.reduceBNe, Nat.reduceBEq, Nat.reduceAdd, Nat.reduceSub, Nat.reduceLeDiff, Nat.reduceEqDiff, Nat.reduceLT, reduceCtorEq]
            refine AWp.draw mixed (AWpQ.upto hn 3 rfl rfl ?_)
            simp (config := { maxSteps := 2000000 }) only [go_sem, ↓reduceIte, Int.reduceToNat, Nat.reduceMul, Int.reduceBEq, Int.reduceBNe, Nat.reduceBEq, Nat.reduceAdd, Nat.reduceSub, Nat.reduceLeDiff, Nat.reduceEqDiff, Nat.reduceLT, reduceCtorEq]
            refine AWpQ.skips hn 70 false 8 (by rfl) rfl ?_
            simp (config := { maxSteps := 2000000 }) only [go_sem, ↓reduceIte, Int.reduceToNat, Nat.reduceMul, Int.reduceBEq, Int.reduceBNe, Nat.reduceBEq, Nat.reduceAdd, Nat.reduceSub, Nat.reduceLeDiff, Nat.reduceEqDiff, Nat.reduceLT, reduceCtorEq]
            refine AWpQ.weak (weak_ent 78 (y := .opt false (B false)) (by rfl) Ent.off) (AWpQ.of hn rfl ?_)
            simp (config := { maxSteps := 2000000 }) only [go_sem, ↓reduceIte, Int.reduceToNat, Nat.reduceMul, Int.reduceBEq, Int.reduceBNe, Nat.reduceBEq, Nat.reduceAdd, Nat.reduceSub, Nat.reduceLeDiff, Nat.reduceEqDiff, Nat.reduceLT, reduceCtorEq]
            refine Retn.ret (π := [0]) hp hnp ⟨rfl, ?_⟩
            simp (config := { maxSteps := 2000000 }) only [go_sem, ↓reduceIte, Int.reduceToNat, Nat.reduceMul, Int.reduceBEq, Int.reduceBNe, Nat.reduceBEq, Nat.reduceAdd, Nat.reduceSub, Nat.reduceLeDiff, Nat.reduceEqDiff, Nat.reduceLT, reduceCtorEq, Aw.renR, Aw.pos]
            rfl
          | true =>
            unfold errV at hy
            rw [if_pos rfl] at hy
            subst hy
            rw [Bool.true_and]
            simp (config := { maxSteps := 2000000 }) only [go_sem, ↓reduceIte, Int.reduceToNat, Nat.reduceMul, Int.reduceBEq, Int.reduceBNe, Nat.reduceBEq, Nat.reduceAdd, Nat.reduceSub, Nat.reduceLeDiff, Nat.reduceEqDiff, Nat.reduceLT, reduceCtorEq]
            refine AWp.draw mixed (AWpQ.upto hn 4 rfl rfl ?_)
            simp (config := { maxSteps := 2000000 }) only [go_sem, ↓reduceIte, Int.reduceToNat, Nat.reduceMul, Int.reduceBEq, Int.reduceBNe, Nat.reduceBEq, Nat.reduceAdd, Nat.reduceSub, Nat.reduceLeDiff, Nat.reduceEqDiff, Nat.reduceLT, reduceCtorEq]
            refine AWpQ.gcalleT (b := true) (y := .string H) (by rfl) (fun _ => by simp (config := { maxSteps := 2000000 }) only [go_sem, ↓reduceIte, Int.reduceToNat, Nat.reduceMul, Int.reduceBEq, Int.reduceBNe, Nat.reduceBEq, Nat.reduceAdd, Nat.reduceSub, Nat.reduceLeDiff, Nat.reduceEqDiff, Nat.reduceLT, reduceCtorEq]; exact SpecG.at hit hT) (by rw [hn]; rfl) (fun _ => by simp (config := { maxSteps := 2000000 }) only [go_sem, ↓reduceIte, Int.reduceToNat, Nat.reduceMul, Int.reduceBEq, Int.reduceBNe, Nat.reduceBEq, Nat.reduceAdd, Nat.reduceSub, Nat.reduceLeDiff, Nat.reduceEqDiff, Nat.reduceLT, reduceCtorEq]) ?_
            simp (config := { maxSteps := 2000000 }) only [go_sem, ↓reduceIte, Int.reduceToNat, Nat.reduceMul, Int.reduceBEq, Int.reduceBNe, Nat.reduceBEq, Nat.reduceAdd, Nat.reduceSub, Nat.reduceLeDiff, Nat.reduceEqDiff, Nat.reduceLT, reduceCtorEq]
            refine AWpQ.of hn rfl ?_
            simp (config := { maxSteps := 2000000 }) only [go_sem, ↓reduceIte, Int.reduceToNat, Nat.reduceMul, Int.reduceBEq, Int.reduceBNe, Nat.reduceBEq, Nat.reduceAdd, Nat.reduceSub, Nat.reduceLeDiff, Nat.reduceEqDiff, Nat.reduceLT, reduceCtorEq, w1, Int.natCast_one]
            refine ⟨⟨by decide, by decide⟩, fun h => ?_, fun h => ?_⟩
            · rw [if_pos h]
              refine Retn.ret (π := [0]) hp hnp ⟨rfl, ?_⟩
              simp (config := { maxSteps := 2000000 }) only [go_sem, ↓reduceIte, Int.reduceToNat, Nat.reduceMul, Int.reduceBEq, Int.reduceBNe, Nat.reduceBEq, Nat.reduceAdd, Nat.reduceSub, Nat.reduceLeDiff, Nat.reduceEqDiff, Nat.reduceLT, reduceCtorEq, Aw.renR, Aw.pos]
              rfl
            · rw [if_neg (by intro h9; rw [h9] at h; cases h)]
              (refine AWpL.calle (s8 ⟨v.name, x1, n⟩ (by show x1.size ≤ 9223372036854775807; omega)) rfl (by rw [hn]; rfl) (by simp (config := { maxSteps := 2000000 }) only [go_sem, ↓reduceIte, Int.reduceToNat, Nat.reduceMul, Int.reduceBEq, Int.reduceBNe, Nat.reduceBEq, Nat.reduceAdd, Nat.reduceSub, Nat.reduceLeDiff, Nat.reduceEqDiff, Nat.reduceLT, reduceCtorEq]) (AWpL.ofM hn rfl ?_); simp (config := { maxSteps := 2000000 }) only [go_sem, ↓reduceIte, Int.reduceToNat, Nat.reduceMul, Int.reduceBEq, Int.reduceBNe, Nat.reduceBEq, Nat.reduceAdd, Nat.reduceSub, Nat.reduceLeDiff, Nat.reduceEqDiff, Nat.reduceLT, reduceCtorEq])
              unfold doneF
              by_cases hck : checkF ⟨v.name, x1, n⟩ = 0
              · have c0 : (checkF ⟨v.name, x1, n⟩ != 0) = false := by rw [hck]; rfl
                rw [if_pos hck]
                simp (config := { maxSteps := 2000000 }) only [go_sem, ↓reduceIte, Int.reduceToNat, Nat.reduceMul, Int.reduceBEq, Int.reduceBNe, Nat.reduceBEq, Nat.reduceAdd, Nat.reduceSub, Nat.reduceLeDiff, Nat.reduceEqDiff, Nat.reduceLT, reduceCtorEq, c0]
                refine Retn.ret (π := [0]) hp hnp ⟨rfl, ?_⟩
                simp (config := { maxSteps := 2000000 }) only [go_sem, ↓reduceIte, Int.reduceToNat, Nat.reduceMul, Int.reduceBEq, Int.reduceBNe, Nat.reduceBEq, Nat.reduceAdd, Nat.reduceSub, Nat.reduceLeDiff, Nat.reduceEqDiff, Nat.reduceLT, reduceCtorEq, Aw.renR, Aw.pos]
              · have c0 : (checkF ⟨v.name, x1, n⟩ != 0) = true := by rw [bne_iff_ne]; exact hck
                rw [if_neg hck]
                simp (config := { maxSteps := 2000000 }) only [go_sem, ↓reduceIte, Int.reduceToNat, Nat.reduceMul, Int.reduceBEq, Int.reduceBNe, Nat.reduceBEq, Nat.reduceAdd, Nat.reduceSub, Nat.reduceLeDiff, Nat.reduceEqDiff, Nat.reduceLT, reduceCtorEq, c0]
                refine Retn.ret (π := [0]) hp hnp ⟨rfl, ?_⟩
                simp (config := { maxSteps := 2000000 }) only [go_sem, ↓reduceIte, Int.reduceToNat, Nat.reduceMul, Int.reduceBEq, Int.reduceBNe, Nat.reduceBEq, Nat.reduceAdd, Nat.reduceSub, Nat.reduceLeDiff, Nat.reduceEqDiff, Nat.reduceLT, reduceCtorEq, Aw.renR, Aw.pos]
                rfl
        | false =>
          have hmv : manyF v = 2 := by unfold manyF; rw [hnm, hnu]; rfl
          rw [hmv] at hb2 ⊢
          obtain ⟨x0, x1, rfl⟩ : ∃ x0 x1, L = [x0, x1] := by
            match L, hb2 with
            | [x0, x1], _ => exact ⟨x0, x1, rfl⟩
          have zx0 := hsz x0 (by simp)
          have zx1 := hsz x1 (by simp)
          have w1 : IntKind.i64.wrap (((2 : Nat) : Int) - 1) = 1 := rfl
          have w2 : ((([x0, x1] : List ByteArray).length : Int) != ((2 : Nat) : Int)) = false := rfl
          have w3 : (((2 : Nat) : Int) != ((2 : Nat) : Int)) = false := rfl
          have hname : (⟨#[]⟩ : ByteArray).size = 0 := rfl
          simp only [hnm, hnu, if_true, Bool.false_eq_true, if_false]
          simp (config := { maxSteps := 2000000 }) only [go_sem, ↓reduceIte, Int.reduceToNat, Nat.reduceMul, Int.reduceBEq, Int.reduceBNe, Nat.reduceBEq, Nat.reduceAdd, Nat.reduceSub, Nat.reduceLeDiff, Nat.reduceEqDiff, Nat.reduceLT, reduceCtorEq, w1, w2, w3, hnm, hnu]
          refine ⟨⟨by decide, by decide⟩, ?_⟩
          (refine AWpL.calle (s8 ⟨v.name, x1, 0⟩ (by show x1.size ≤ 9223372036854775807; omega)) rfl (by rw [hn]; rfl) (by simp (config := { maxSteps := 2000000 }) only [go_sem, ↓reduceIte, Int.reduceToNat, Nat.reduceMul, Int.reduceBEq, Int.reduceBNe, Nat.reduceBEq, Nat.reduceAdd, Nat.reduceSub, Nat.reduceLeDiff, Nat.reduceEqDiff, Nat.reduceLT, reduceCtorEq]) (AWpL.ofM hn rfl ?_); simp (config := { maxSteps := 2000000 }) only [go_sem, ↓reduceIte, Int.reduceToNat, Nat.reduceMul, Int.reduceBEq, Int.reduceBNe, Nat.reduceBEq, Nat.reduceAdd, Nat.reduceSub, Nat.reduceLeDiff, Nat.reduceEqDiff, Nat.reduceLT, reduceCtorEq])
          unfold doneF
          by_cases hck : checkF ⟨v.name, x1, 0⟩ = 0
          · have c0 : (checkF ⟨v.name, x1, 0⟩ != 0) = false := by rw [hck]; rfl
            rw [if_pos hck]
            simp (config := { maxSteps := 2000000 }) only [go_sem, ↓reduceIte, Int.reduceToNat, Nat.reduceMul, Int.reduceBEq, Int.reduceBNe, Nat.reduceBEq, Nat.reduceAdd, Nat.reduceSub, Nat.reduceLeDiff, Nat.reduceEqDiff, Nat.reduceLT, reduceCtorEq, c0]
            refine Retn.ret (π := [0]) hp hnp ⟨rfl, ?_⟩
            simp (config := { maxSteps := 2000000 }) only [go_sem, ↓reduceIte, Int.reduceToNat, Nat.reduceMul, Int.reduceBEq, Int.reduceBNe, Nat.reduceBEq, Nat.reduceAdd, Nat.reduceSub, Nat.reduceLeDiff, Nat.reduceEqDiff, Nat.reduceLT, reduceCtorEq, Aw.renR, Aw.pos]
          · have c0 : (checkF ⟨v.name, x1, 0⟩ != 0) = true := by rw [bne_iff_ne]; exact hck
            rw [if_neg hck]
            simp (config := { maxSteps := 2000000 }) only [go_sem, ↓reduceIte, Int.reduceToNat, Nat.reduceMul, Int.reduceBEq, Int.reduceBNe, Nat.reduceBEq, Nat.reduceAdd, Nat.reduceSub, Nat.reduceLeDiff, Nat.reduceEqDiff, Nat.reduceLT, reduceCtorEq, c0]
            refine Retn.ret (π := [0]) hp hnp ⟨rfl, ?_⟩
            simp (config := { maxSteps := 2000000 }) only [go_sem, ↓reduceIte, Int.reduceToNat, Nat.reduceMul, Int.reduceBEq, Int.reduceBNe, Nat.reduceBEq, Nat.reduceAdd, Nat.reduceSub, Nat.reduceLeDiff, Nat.reduceEqDiff, Nat.reduceLT, reduceCtorEq, Aw.renR, Aw.pos]
            rfl
      | false =>
        cases hnu : v.number with
        | true =>
          have hmv : manyF v = 2 := by unfold manyF; rw [hnm, hnu]; rfl
          rw [hmv] at hb2 ⊢
          obtain ⟨x0, x1, rfl⟩ : ∃ x0 x1, L = [x0, x1] := by
            match L, hb2 with
            | [x0, x1], _ => exact ⟨x0, x1, rfl⟩
          have zx0 := hsz x0 (by simp)
          have zx1 := hsz x1 (by simp)
          have w1 : IntKind.i64.wrap (((2 : Nat) : Int) - 1) = 1 := rfl
          have w2 : ((([x0, x1] : List ByteArray).length : Int) != ((2 : Nat) : Int)) = false := rfl
          have w3 : (((2 : Nat) : Int) != ((2 : Nat) : Int)) = false := rfl
          have hname : (⟨#[]⟩ : ByteArray).size = 0 := rfl
          simp only [hnm, hnu, if_true, Bool.false_eq_true, if_false]
          simp (config := { maxSteps := 2000000 }) only [go_sem, ↓reduceIte, Int.reduceToNat, Nat.reduceMul, Int.reduceBEq, Int.reduceBNe, Nat.reduceBEq, Nat.reduceAdd, Nat.reduceSub, Nat.reduceLeDiff, Nat.reduceEqDiff, Nat.reduceLT, reduceCtorEq, w1, w2, w3, hnm, hnu]
          refine ⟨⟨by decide, by decide⟩, ?_⟩
          refine AWpL.callAT [] (SpecG.at (s16 _ _ hE.m1 hE.m2 hE.k1 hE.k2 x1 (by omega)) hT) rfl rfl (by rw [hn]; rfl) rfl (fun r hr => by cases hr) fun rg v1 hv => ?_
          obtain ⟨rfl, y, hy, rfl⟩ := hv
          refine ⟨Nat.zero_le _, ?_⟩
          rw [retS_nil]
          refine AWpL.ofM hn rfl ?_
          have hrng := numF_range x1
          unfold numB
          generalize numF x1 = q at *
          obtain ⟨n, ok⟩ := q
          dsimp only at hrng hy ⊢
          have hit : Aw.SpecG Γ Tryd.prog 14 [] [I n] (Gives (· = S (itoaB n))) := s14 (Γ := Γ) hP n (by omega) (by omega)
          generalize itoaB n = H at *
          cases ok with
          | false =>
            unfold errV at hy
            rw [if_neg Bool.false_ne_true] at hy
            obtain ⟨ty, vy, rfl⟩ := hy
            rw [Bool.false_and, if_pos rfl]
            simp (config := { maxSteps := 2000000 }) only [go_sem, ↓reduceIte, Int.reduceToNat, Nat.reduceMul, Int.reduceBEq, Int.reduceBNe, Nat.reduceBEq, Nat.reduceAdd, Nat.reduceSub, Nat.reduceLeDiff, Nat.reduceEqDiff, Nat.reduceLT, reduceCtorEq]
            refine AWp.draw mixed (AWpQ.upto hn 3 rfl rfl ?_)
            simp (config := { maxSteps := 2000000 }) only [go_sem, ↓reduceIte, Int.reduceToNat, Nat.reduceMul, Int.reduceBEq, Int.reduceBNe, Nat.reduceBEq, Nat.reduceAdd, Nat.reduceSub, Nat.reduceLeDiff, Nat.reduceEqDiff, Nat.reduceLT, reduceCtorEq]
            refine AWpQ.skips hn 70 false 8 (by rfl) rfl ?_
            simp (config := { maxSteps := 2000000 }) only [go_sem, ↓reduceIte, Int.reduceToNat, Nat.reduceMul, Int.reduceBEq, Int.reduceBNe, Nat.reduceBEq, Nat.reduceAdd, Nat.reduceSub, Nat.reduceLeDiff, Nat.reduceEqDiff, Nat.reduceLT, reduceCtorEq]
            refine AWpQ.weak (weak_ent 78 (y := .opt false (B false)) (by rfl) Ent.off) (AWpQ.of hn rfl ?_)
            simp (config := { maxSteps := 2000000 }) only [go_sem, ↓reduceIte, Int.reduceToNat, Nat.reduceMul, Int.reduceBEq, Int.reduceBNe, Nat.reduceBEq, Nat.reduceAdd, Nat.reduceSub, Nat.reduceLeDiff, Nat.reduceEqDiff, Nat.reduceLT, reduceCtorEq]
            refine Retn.ret (π := [0]) hp hnp ⟨rfl, ?_⟩
            simp (config := { maxSteps := 2000000 }) only [go_sem, ↓reduceIte, Int.reduceToNat, Nat.reduceMul, Int.reduceBEq, Int.reduceBNe, Nat.reduceBEq, Nat.reduceAdd, Nat.reduceSub, Nat.reduceLeDiff, Nat.reduceEqDiff, Nat.reduceLT, reduceCtorEq, Aw.renR, Aw.pos]
            rfl
          | true =>
            unfold errV at hy
            rw [if_pos rfl] at hy
            subst hy
            rw [Bool.true_and]
            simp (config := { maxSteps := 2000000 }) only [go_sem, ↓reduceIte, Int.reduceToNat, Nat.reduceMul, Int.reduceBEq, Int.reduceBNe, Nat.reduceBEq, Nat.reduceAdd, Nat.reduceSub, Nat.reduceLeDiff, Nat.reduceEqDiff, Nat.reduceLT, reduceCtorEq]
            refine AWp.draw mixed (AWpQ.upto hn 4 rfl rfl ?_)
            simp (config := { maxSteps := 2000000 }) only [go_sem, ↓reduceIte, Int.reduceToNat, Nat.reduceMul, Int.reduceBEq, Int.reduceBNe, Nat.reduceBEq, Nat.reduceAdd, Nat.reduceSub, Nat.reduceLeDiff, Nat.reduceEqDiff, Nat.reduceLT, reduceCtorEq]
            refine AWpQ.gcalleT (b := true) (y := .string H) (by rfl) (fun _ => by simp (config := { maxSteps := 2000000 }) only [go_sem, ↓reduceIte, Int.reduceToNat, Nat.reduceMul, Int.reduceBEq, Int.reduceBNe, Nat.reduceBEq, Nat.reduceAdd, Nat.reduceSub, Nat.reduceLeDiff, Nat.reduceEqDiff, Nat.reduceLT, reduceCtorEq]; exact SpecG.at hit hT) (by rw [hn]; rfl) (fun _ => by simp (config := { maxSteps := 2000000 }) only [go_sem, ↓reduceIte, Int.reduceToNat, Nat.reduceMul, Int.reduceBEq, Int.reduceBNe, Nat.reduceBEq, Nat.reduceAdd, Nat.reduceSub, Nat.reduceLeDiff, Nat.reduceEqDiff, Nat.reduceLT, reduceCtorEq]) ?_
            simp (config := { maxSteps := 2000000 }) only [go_sem, ↓reduceIte, Int.reduceToNat, Nat.reduceMul, Int.reduceBEq, Int.reduceBNe, Nat.reduceBEq, Nat.reduceAdd, Nat.reduceSub, Nat.reduceLeDiff, Nat.reduceEqDiff, Nat.reduceLT, reduceCtorEq]
            refine AWpQ.of hn rfl ?_
            simp (config := { maxSteps := 2000000 }) only [go_sem, ↓reduceIte, Int.reduceToNat, Nat.reduceMul, Int.reduceBEq, Int.reduceBNe, Nat.reduceBEq, Nat.reduceAdd, Nat.reduceSub, Nat.reduceLeDiff, Nat.reduceEqDiff, Nat.reduceLT, reduceCtorEq, w1, Int.natCast_one]
            refine ⟨⟨by decide, by decide⟩, fun h => ?_, fun h => ?_⟩
            · rw [if_pos h]
              refine Retn.ret (π := [0]) hp hnp ⟨rfl, ?_⟩
              simp (config := { maxSteps := 2000000 }) only [go_sem, ↓reduceIte, Int.reduceToNat, Nat.reduceMul, Int.reduceBEq, Int.reduceBNe, Nat.reduceBEq, Nat.reduceAdd, Nat.reduceSub, Nat.reduceLeDiff, Nat.reduceEqDiff, Nat.reduceLT, reduceCtorEq, Aw.renR, Aw.pos]
              rfl
            · rw [if_neg (by intro h9; rw [h9] at h; cases h)]
              (refine AWpL.calle (s8 ⟨v.name, ⟨#[]⟩, n⟩ (by show (⟨#[]⟩ : ByteArray).size ≤ 9223372036854775807; omega)) rfl (by rw [hn]; rfl) (by simp (config := { maxSteps := 2000000 }) only [go_sem, ↓reduceIte, Int.reduceToNat, Nat.reduceMul, Int.reduceBEq, Int.reduceBNe, Nat.reduceBEq, Nat.reduceAdd, Nat.reduceSub, Nat.reduceLeDiff, Nat.reduceEqDiff, Nat.reduceLT, reduceCtorEq]) (AWpL.ofM hn rfl ?_); simp (config := { maxSteps := 2000000 }) only [go_sem, ↓reduceIte, Int.reduceToNat, Nat.reduceMul, Int.reduceBEq, Int.reduceBNe, Nat.reduceBEq, Nat.reduceAdd, Nat.reduceSub, Nat.reduceLeDiff, Nat.reduceEqDiff, Nat.reduceLT, reduceCtorEq])
              unfold doneF
              by_cases hck : checkF ⟨v.name, ⟨#[]⟩, n⟩ = 0
              · have c0 : (checkF ⟨v.name, ⟨#[]⟩, n⟩ != 0) = false := by rw [hck]; rfl
                rw [if_pos hck]
                simp (config := { maxSteps := 2000000 }) only [go_sem, ↓reduceIte, Int.reduceToNat, Nat.reduceMul, Int.reduceBEq, Int.reduceBNe, Nat.reduceBEq, Nat.reduceAdd, Nat.reduceSub, Nat.reduceLeDiff, Nat.reduceEqDiff, Nat.reduceLT, reduceCtorEq, c0]
                refine Retn.ret (π := [0]) hp hnp ⟨rfl, ?_⟩
                simp (config := { maxSteps := 2000000 }) only [go_sem, ↓reduceIte, Int.reduceToNat, Nat.reduceMul, Int.reduceBEq, Int.reduceBNe, Nat.reduceBEq, Nat.reduceAdd, Nat.reduceSub, Nat.reduceLeDiff, Nat.reduceEqDiff, Nat.reduceLT, reduceCtorEq, Aw.renR, Aw.pos]
              · have c0 : (checkF ⟨v.name, ⟨#[]⟩, n⟩ != 0) = true := by rw [bne_iff_ne]; exact hck
                rw [if_neg hck]
                simp (config := { maxSteps := 2000000 }) only [go_sem, ↓reduceIte, Int.reduceToNat, Nat.reduceMul, Int.reduceBEq, Int.reduceBNe, Nat.reduceBEq, Nat.reduceAdd, Nat.reduceSub, Nat.reduceLeDiff, Nat.reduceEqDiff, Nat.reduceLT, reduceCtorEq, c0]
                refine Retn.ret (π := [0]) hp hnp ⟨rfl, ?_⟩
                simp (config := { maxSteps := 2000000 }) only [go_sem, ↓reduceIte, Int.reduceToNat, Nat.reduceMul, Int.reduceBEq, Int.reduceBNe, Nat.reduceBEq, Nat.reduceAdd, Nat.reduceSub, Nat.reduceLeDiff, Nat.reduceEqDiff, Nat.reduceLT, reduceCtorEq, Aw.renR, Aw.pos]
                rfl
        | false =>
          have hmv : manyF v = 1 := by unfold manyF; rw [hnm, hnu]; rfl
          rw [hmv] at hb2 ⊢
          obtain ⟨x0, rfl⟩ : ∃ x0, L = [x0] := by
            match L, hb2 with
            | [x0], _ => exact ⟨x0, rfl⟩
          have zx0 := hsz x0 (by simp)
          have w1 : IntKind.i64.wrap (((1 : Nat) : Int) - 1) = 0 := rfl
          have w2 : ((([x0] : List ByteArray).length : Int) != ((1 : Nat) : Int)) = false := rfl
          have w3 : (((1 : Nat) : Int) != ((1 : Nat) : Int)) = false := rfl
          have hname : (⟨#[]⟩ : ByteArray).size = 0 := rfl
          simp only [hnm, hnu, if_true, Bool.false_eq_true, if_false]
          simp (config := { maxSteps := 2000000 }) only [go_sem, ↓reduceIte, Int.reduceToNat, Nat.reduceMul, Int.reduceBEq, Int.reduceBNe, Nat.reduceBEq, Nat.reduceAdd, Nat.reduceSub, Nat.reduceLeDiff, Nat.reduceEqDiff, Nat.reduceLT, reduceCtorEq, w1, w2, w3, hnm, hnu]
          (refine AWpL.calle (s8 ⟨v.name, ⟨#[]⟩, 0⟩ (by show (⟨#[]⟩ : ByteArray).size ≤ 9223372036854775807; omega)) rfl (by rw [hn]; rfl) (by simp (config := { maxSteps := 2000000 }) only [go_sem, ↓reduceIte, Int.reduceToNat, Nat.reduceMul, Int.reduceBEq, Int.reduceBNe, Nat.reduceBEq, Nat.reduceAdd, Nat.reduceSub, Nat.reduceLeDiff, Nat.reduceEqDiff, Nat.reduceLT, reduceCtorEq]) (AWpL.ofM hn rfl ?_); simp (config := { maxSteps := 2000000 }) only [go_sem, ↓reduceIte, Int.reduceToNat, Nat.reduceMul, Int.reduceBEq, Int.reduceBNe, Nat.reduceBEq, Nat.reduceAdd, Nat.reduceSub, Nat.reduceLeDiff, Nat.reduceEqDiff, Nat.reduceLT, reduceCtorEq])
          unfold doneF
          by_cases hck : checkF ⟨v.name, ⟨#[]⟩, 0⟩ = 0
          · have c0 : (checkF ⟨v.name, ⟨#[]⟩, 0⟩ != 0) = false := by rw [hck]; rfl
            rw [if_pos hck]
            simp (config := { maxSteps := 2000000 }) only [go_sem, ↓reduceIte, Int.reduceToNat, Nat.reduceMul, Int.reduceBEq, Int.reduceBNe, Nat.reduceBEq, Nat.reduceAdd, Nat.reduceSub, Nat.reduceLeDiff, Nat.reduceEqDiff, Nat.reduceLT, reduceCtorEq, c0]
            refine Retn.ret (π := [0]) hp hnp ⟨rfl, ?_⟩
            simp (config := { maxSteps := 2000000 }) only [go_sem, ↓reduceIte, Int.reduceToNat, Nat.reduceMul, Int.reduceBEq, Int.reduceBNe, Nat.reduceBEq, Nat.reduceAdd, Nat.reduceSub, Nat.reduceLeDiff, Nat.reduceEqDiff, Nat.reduceLT, reduceCtorEq, Aw.renR, Aw.pos]
          · have c0 : (checkF ⟨v.name, ⟨#[]⟩, 0⟩ != 0) = true := by rw [bne_iff_ne]; exact hck
            rw [if_neg hck]
            simp (config := { maxSteps := 2000000 }) only [go_sem, ↓reduceIte, Int.reduceToNat, Nat.reduceMul, Int.reduceBEq, Int.reduceBNe, Nat.reduceBEq, Nat.reduceAdd, Nat.reduceSub, Nat.reduceLeDiff, Nat.reduceEqDiff, Nat.reduceLT, reduceCtorEq, c0]
            refine Retn.ret (π := [0]) hp hnp ⟨rfl, ?_⟩
            simp (config := { maxSteps := 2000000 }) only [go_sem, ↓reduceIte, Int.reduceToNat, Nat.reduceMul, Int.reduceBEq, Int.reduceBNe, Nat.reduceBEq, Nat.reduceAdd, Nat.reduceSub, Nat.reduceLeDiff, Nat.reduceEqDiff, Nat.reduceLT, reduceCtorEq, Aw.renR, Aw.pos]
            rfl
end Go.Proofs.YtipknphidkdpiaaDoor
