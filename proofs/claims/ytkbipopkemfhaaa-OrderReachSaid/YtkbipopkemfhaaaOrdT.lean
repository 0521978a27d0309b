/- Orders: Reach, and the law of what can be reached. -/
import Derived.Test.YtkbipopkemfhaaaAwZg
import Derived.Test.YtkbipopkemfhaaaOrdS
import Derived.Test.YtkbipopkemfhaaaOrdM
set_option linter.unusedVariables false
set_option linter.unusedSimpArgs false
namespace Go.Proofs.Ytkbipopkemfhaaa
open Go.Proofs.Ytkbipopkemfhaaa.Aw
attribute [local go_sem] Int.natCast_zero Int.natCast_one bne_self_eq_false beq_self_eq_true Bool.not_true Bool.not_false Option.isSome_none Option.isSome_some Aw.bkM_nil Option.getD_some Option.getD_none Nat.sub_zero Int.toNat_zero Aw.frzS Aw.frzT Aw.frzA Aw.frzL Aw.frzR Aw.frzO Aw.frzOL Aw.frzOT Aw.frzOR Aw.killS Aw.mapT Aw.mapR Aw.killM Aw.resAVs Aw.resAV Aw.quietOps Aw.wpP Aw.wpT Aw.wpS Aw.AOp.mild List.getElem?_cons_zero List.getElem?_cons_succ Bool.and_false Bool.and_self Bool.false_and Aw.opOb Aw.gdB Aw.Rnd Aw.subTm List.length_map Int.toNat_natCast and_self Aw.SeqC Aw.stops Aw.Ends Aw.looks Aw.renA Aw.renL Aw.renT Aw.renS Aw.wpO Aw.aop Aw.putTm Aw.St.ev Aw.St.put Aw.St.putO Aw.binAV Aw.intBin Aw.strBin Aw.pickAV Aw.optInt Aw.AV.strip Aw.AV.guard Aw.AV.cells Aw.gdOb Aw.AOp.opds Aw.AOp.still Aw.ptrCells Aw.St.reg Aw.fillAV Aw.fillOb Aw.elsOb Aw.splice Aw.firm Aw.cellish Aw.AV.shut Aw.shutAll Aw.Seq Aw.Blk Aw.retS_nil Aw.mapA Aw.mapL Aw.borA Aw.borOb Aw.allOb Aw.tupOf Aw.params Aw.Opd.of Array.toList Value.cells List.map_cons List.map_nil List.getD_cons_zero List.getD_cons_succ List.getD_nil List.length_cons List.length_nil List.take_succ_cons List.take_zero List.take_nil List.drop_zero List.drop_succ_cons List.drop_nil List.set_cons_zero List.set_cons_succ List.append_nil List.nil_append List.cons_append List.all_cons List.all_nil cond_false cond_true if_true if_false true_and and_true Bool.and_true Bool.true_and Option.map_some Option.map_none false_implies forall_const implies_true forall_eq imp_self Bool.cond_false_right Bool.cond_true_left beq_true beq_false Bool.not_eq_true' Bool.false_eq_true Nat.zero_add Nat.add_zero Aw.eqCells Aw.stopDraw Aw.skipS Aw.exactCap Aw.revealS Aw.srcEls Aw.srcSz
attribute [local go_sem ↓] Aw.look_nil Aw.look_ite Aw.wpL_nil Aw.wpL_op Aw.wpL_gd Aw.wpQ_nil Aw.wpQ_op Aw.wpQ_gd Aw.wpC_draw Aw.wpC_reg Aw.wpC_skip Aw.wpC_ret Aw.wpC_exit Aw.wpC_seq Aw.wpC_block Aw.wpC_loop Aw.wpC_cond Aw.stopAt_nil Aw.stopAt_cons Aw.wpD_skip Aw.wpD_ret Aw.wpD_exit Aw.wpD_region Aw.wpD_draw Aw.wpM_nil Aw.wpM_op Aw.wpM_gd Aw.wpD_seq Aw.wpD_block Aw.wpD_loop Aw.wpD_cond
/- gridhall/order.Reach -/
def a13 : ACode :=
  (.seq (.region false [] [
     ⟨(some 6), none, (.mov (.v (.int .i64 0)))⟩,
     ⟨(some 7), none, (.mov (.v (.int .i64 0)))⟩])
  (.seq (.seq (.region false [] [
     ⟨(some 18), none, (.mov (.t 0))⟩,
     ⟨(some 19), none, (.mov (.t 1))⟩,
     ⟨(some 20), none, (.mov (.t 1))⟩,
     ⟨(some 21), none, (.mov (.t 2))⟩,
     ⟨(some 22), none, (.call 8 [(.t 18), (.t 19), (.t 20), (.t 21)])⟩,
     ⟨(some 17), none, (.mov (.t 22))⟩,
     ⟨(some 23), none, (.ext 0 (.t 17))⟩,
     ⟨(some 24), none, (.ext 1 (.t 17))⟩,
     ⟨(some 8), none, (.mov (.t 23))⟩,
     ⟨(some 9), none, (.mov (.t 24))⟩])
  (.seq (.region false [] [
     ⟨(some 25), none, (.mov (.t 9))⟩,
     ⟨(some 26), none, (.bin .neq 26 (.t 25) (.v (.int .i64 0)))⟩])
  (.cond (.t 26)
    (.seq (.region false [] [
       ⟨(some 27), none, (.mov (.t 9))⟩,
       ⟨(some 6), none, (.mov (.v (.int .i64 0)))⟩,
       ⟨(some 7), none, (.mov (.t 27))⟩])
    .ret)
    .skip)))
  (.seq (.region false [] [
     ⟨(some 28), none, (.mov (.t 0))⟩,
     ⟨(some 29), none, (.mov (.t 1))⟩,
     ⟨(some 30), none, (.mov (.t 2))⟩,
     ⟨(some 31), none, (.build (.agg #[(.slice none 0 0), (.slice none 0 0), (.slice none 0 0), (.slice none 0 0)]) [(0, (1, (.t 28))), (1, (1, (.t 29))), (2, (1, (.t 30)))])⟩,
     ⟨(some 32), none, (.box 60 (.t 31))⟩,
     ⟨(some 10), none, (.mov (.t 32))⟩])
  (.seq (.region false [] [
     ⟨(some 33), none, (.mov (.t 1))⟩,
     ⟨(some 34), none, (.len (.t 33))⟩,
     ⟨(some 35), none, (.bin .shl 3 (.v (.int .i64 1)) (.t 34))⟩,
     ⟨(some 36), none, (.mksl 4 1 1 (.bool false) (.t 35) (.t 35))⟩,
     ⟨(some 11), none, (.mov (.t 36))⟩])
  (.seq (.region false [] [
     ⟨(some 37), none, (.mov (.t 1))⟩,
     ⟨(some 38), none, (.call 23 [(.t 37)])⟩,
     ⟨(some 12), none, (.mov (.t 38))⟩])
  (.seq (.region false [] [
     ⟨(some 39), none, (.mov (.t 11))⟩,
     ⟨(some 40), none, (.mov (.t 12))⟩,
     ⟨(some 41), none, (.idx 1 (.t 39) (.t 40))⟩,
     ⟨none, none, (.store 1 (.t 41) (.v (.bool true)))⟩])
  (.seq (.region false [] [
     ⟨(some 42), none, (.mov (.t 12))⟩,
     ⟨(some 43), none, (.bsl 3 1 1 [(0, (.t 42))])⟩,
     ⟨(some 13), none, (.mov (.t 43))⟩])
  (.seq (.seq (.region false [] [
     ⟨(some 14), none, (.mov (.v (.int .i64 0)))⟩])
  (.block 0 (.loop (.seq (.seq (.region false [] [
       ⟨(some 44), none, (.mov (.t 14))⟩,
       ⟨(some 45), none, (.mov (.t 13))⟩,
       ⟨(some 46), none, (.len (.t 45))⟩,
       ⟨(some 47), none, (.bin .lss 3 (.t 44) (.t 46))⟩])
    (.cond (.t 47)
      .skip
      (.exit 0)))
    (.seq (.block 1 (.seq (.region false [] [
        ⟨(some 50), none, (.mov (.t 1))⟩,
        ⟨(some 51), none, (.len (.t 50))⟩,
        ⟨(some 52), none, (.mov (.v (.int .i64 0)))⟩])
     (.block 2 (.loop (.seq (.region false [] [
          ⟨(some 53), none, (.bin .lss 3 (.t 52) (.t 51))⟩])
       (.seq (.cond (.t 53)
         .skip
         (.exit 2))
       (.seq (.block 3 (.seq (.region false [] [
           ⟨(some 54), none, (.mov (.t 52))⟩,
           ⟨(some 15), none, (.mov (.t 54))⟩])
        (.seq (.region true [[], [], [0, 1], [2], [], [4], [3, 5], [6, 0, 1, 2, 3, 4, 5, 6]] [
           ⟨(some 55), none, (.mov (.t 13))⟩,
           ⟨(some 56), none, (.mov (.t 14))⟩,
           ⟨(some 57), none, (.idx 1 (.t 55) (.t 56))⟩,
           ⟨(some 58), none, (.load 1 false (.t 57))⟩,
           ⟨(some 59), none, (.mov (.t 15))⟩,
           ⟨(some 60), none, (.bin .shl 3 (.v (.int .i64 1)) (.t 59))⟩,
           ⟨(some 61), none, (.bin .xor 3 (.t 58) (.t 60))⟩,
           ⟨(some 16), none, (.mov (.t 61))⟩])
        (.seq (.region false [] [
           ⟨(some 62), none, (.mov (.t 11))⟩,
           ⟨(some 63), none, (.mov (.t 16))⟩,
           ⟨(some 64), none, (.idx 1 (.t 62) (.t 63))⟩,
           ⟨(some 65), none, (.load 1 false (.t 64))⟩,
           ⟨(some 66), none, (.un .not (.t 65))⟩,
           ⟨(some 67), none, (.mov (.t 66))⟩,
           ⟨(some 68), (some (67, true)), (.mov (.t 10))⟩,
           ⟨(some 69), (some (67, true)), (.mov (.t 13))⟩,
           ⟨(some 70), (some (67, true)), (.mov (.t 14))⟩,
           ⟨(some 71), (some (67, true)), (.idx 1 (.t 69) (.t 70))⟩,
           ⟨(some 72), (some (67, true)), (.load 1 false (.t 71))⟩,
           ⟨(some 73), (some (67, true)), (.mov (.t 15))⟩,
           ⟨(some 74), (some (67, true)), (.call 24 [(.t 68), (.t 72), (.t 73)])⟩,
           ⟨(some 75), none, (.pick (.t 67) (.t 74) (.v (.bool false)))⟩])
        (.cond (.t 75)
          (.seq (.region false [] [
             ⟨(some 76), none, (.mov (.t 11))⟩,
             ⟨(some 77), none, (.mov (.t 16))⟩,
             ⟨(some 78), none, (.idx 1 (.t 76) (.t 77))⟩,
             ⟨none, none, (.store 1 (.t 78) (.v (.bool true)))⟩])
          (.region false [] [
             ⟨(some 79), none, (.mov (.t 13))⟩,
             ⟨(some 80), none, (.mov (.t 16))⟩,
             ⟨(some 81), none, (.bsl 3 1 1 [(0, (.t 80))])⟩,
             ⟨(some 82), none, (.app 3 1 8 (.int .i64 0) (.t 79) (.t 81))⟩,
             ⟨(some 13), none, (.mov (.t 82))⟩]))
          .skip)))))
       (.region false [] [
          ⟨(some 83), none, (.bin .add 3 (.t 52) (.v (.int .i64 1)))⟩,
          ⟨(some 52), none, (.mov (.t 83))⟩]))))))))
    (.region false [] [
       ⟨(some 48), none, (.mov (.t 14))⟩,
       ⟨(some 49), none, (.bin .add 3 (.t 48) (.v (.int .i64 1)))⟩,
       ⟨(some 14), none, (.mov (.t 49))⟩]))))))
  (.seq (.region false [] [
     ⟨(some 84), none, (.mov (.t 13))⟩,
     ⟨(some 85), none, (.len (.t 84))⟩,
     ⟨(some 6), none, (.mov (.t 85))⟩,
     ⟨(some 7), none, (.mov (.v (.int .i64 0)))⟩])
  .ret)))))))))
theorem k13 : FnIs Try.prog 13 86 [.t 6, .t 7] a13 := ⟨_, _, Try.func13, rfl, by kernel_rfl, by kernel_rfl, rfl⟩
/- gridhall/gridhallkeep4.OrderReach -/
def a5 : ACode :=
  (.seq (.region false [] [
     ⟨(some 6), none, (.mov (.v (.bool false)))⟩])
  (.seq (.region false [] [
     ⟨(some 15), none, (.mov (.t 1))⟩,
     ⟨(some 16), none, (.mov (.t 1))⟩,
     ⟨(some 17), none, (.len (.t 16))⟩,
     ⟨(some 18), none, (.mni (.t 17) (.v (.int .i64 4)))⟩,
     ⟨(some 19), none, (.slc 2 (.t 15) none (some (.t 18)) none)⟩,
     ⟨(some 1), none, (.mov (.t 19))⟩])
  (.seq (.region false [] [
     ⟨(some 21), none, (.mov (.t 0))⟩,
     ⟨(some 22), none, (.mov (.t 1))⟩,
     ⟨(some 23), none, (.mov (.t 2))⟩,
     ⟨(some 24), none, (.call 13 [(.t 21), (.t 22), (.t 23)])⟩,
     ⟨(some 20), none, (.mov (.t 24))⟩,
     ⟨(some 25), none, (.ext 0 (.t 20))⟩,
     ⟨(some 26), none, (.ext 1 (.t 20))⟩,
     ⟨(some 7), none, (.mov (.t 25))⟩,
     ⟨(some 8), none, (.mov (.t 26))⟩])
  (.seq (.seq (.region false [] [
     ⟨(some 27), none, (.mov (.t 8))⟩,
     ⟨(some 28), none, (.bin .neq 26 (.t 27) (.v (.int .i64 0)))⟩])
  (.cond (.t 28)
    (.seq (.region false [] [
       ⟨(some 29), none, (.call 9 [])⟩,
       ⟨(some 30), none, (.mov (.t 29))⟩,
       ⟨(some 31), (some (30, true)), (.mov (.t 7))⟩,
       ⟨(some 32), (some (30, true)), (.bin .eql 3 (.t 31) (.v (.int .i64 0)))⟩,
       ⟨(some 33), none, (.pick (.t 30) (.t 32) (.v (.bool false)))⟩,
       ⟨(some 6), none, (.mov (.t 33))⟩])
    .ret)
    .skip))
  (.seq (.region false [] [
     ⟨(some 9), none, (.mov (.v (.int .i64 0)))⟩])
  (.seq (.seq (.region false [] [
     ⟨(some 34), none, (.mov (.t 1))⟩,
     ⟨(some 35), none, (.len (.t 34))⟩,
     ⟨(some 36), none, (.bin .shl 3 (.v (.int .i64 1)) (.t 35))⟩,
     ⟨(some 37), none, (.mov (.v (.int .i64 0)))⟩])
  (.block 0 (.loop (.seq (.region false [] [
       ⟨(some 38), none, (.bin .lss 3 (.t 37) (.t 36))⟩])
    (.seq (.cond (.t 38)
      .skip
      (.exit 0))
    (.seq (.block 1 (.seq (.region false [] [
        ⟨(some 39), none, (.mov (.t 37))⟩,
        ⟨(some 10), none, (.mov (.t 39))⟩])
     (.seq (.region false [] [
        ⟨(some 40), none, (.mov (.t 1))⟩,
        ⟨(some 41), none, (.call 14 [(.t 40)])⟩,
        ⟨(some 11), none, (.mov (.t 41))⟩])
     (.seq (.seq (.region false [] [
        ⟨(some 42), none, (.mov (.t 11))⟩,
        ⟨(some 43), none, (.len (.t 42))⟩,
        ⟨(some 44), none, (.mov (.v (.int .i64 0)))⟩])
     (.block 2 (.loop (.seq (.region false [] [
          ⟨(some 45), none, (.bin .lss 3 (.t 44) (.t 43))⟩])
       (.seq (.cond (.t 45)
         .skip
         (.exit 2))
       (.seq (.block 3 (.seq (.region false [] [
           ⟨(some 46), none, (.mov (.t 44))⟩,
           ⟨(some 12), none, (.mov (.t 46))⟩])
        (.region false [] [
           ⟨(some 47), none, (.mov (.t 11))⟩,
           ⟨(some 48), none, (.mov (.t 12))⟩,
           ⟨(some 49), none, (.mov (.t 10))⟩,
           ⟨(some 50), none, (.mov (.t 12))⟩,
           ⟨(some 51), none, (.bin .shr 3 (.t 49) (.t 50))⟩,
           ⟨(some 52), none, (.bin .and 3 (.t 51) (.v (.int .i64 1)))⟩,
           ⟨(some 53), none, (.bin .eql 3 (.t 52) (.v (.int .i64 1)))⟩,
           ⟨(some 54), none, (.idx 2 (.t 47) (.t 48))⟩,
           ⟨(some 55), none, (.fld 1 (.t 54))⟩,
           ⟨none, none, (.store 1 (.t 55) (.t 53))⟩])))
       (.region false [] [
          ⟨(some 56), none, (.bin .add 3 (.t 44) (.v (.int .i64 1)))⟩,
          ⟨(some 44), none, (.mov (.t 56))⟩])))))))
     (.seq (.region false [] [
        ⟨(some 58), none, (.mov (.t 0))⟩,
        ⟨(some 59), none, (.mov (.t 1))⟩,
        ⟨(some 60), none, (.mov (.t 11))⟩,
        ⟨(some 61), none, (.mov (.t 2))⟩,
        ⟨(some 62), none, (.call 8 [(.t 58), (.t 59), (.t 60), (.t 61)])⟩,
        ⟨(some 57), none, (.mov (.t 62))⟩,
        ⟨(some 63), none, (.ext 0 (.t 57))⟩,
        ⟨(some 64), none, (.ext 1 (.t 57))⟩,
        ⟨(some 13), none, (.mov (.t 63))⟩,
        ⟨(some 14), none, (.mov (.t 64))⟩])
     (.seq (.region false [] [
        ⟨(some 65), none, (.mov (.t 14))⟩,
        ⟨(some 66), none, (.bin .eql 26 (.t 65) (.v (.int .i64 0)))⟩])
     (.cond (.t 66)
       (.region false [] [
          ⟨(some 67), none, (.mov (.t 9))⟩,
          ⟨(some 68), none, (.bin .add 3 (.t 67) (.v (.int .i64 1)))⟩,
          ⟨(some 9), none, (.mov (.t 68))⟩])
       .skip)))))))
    (.region false [] [
       ⟨(some 69), none, (.bin .add 3 (.t 37) (.v (.int .i64 1)))⟩,
       ⟨(some 37), none, (.mov (.t 69))⟩])))))))
  (.seq (.region false [] [
     ⟨(some 70), none, (.call 9 [])⟩,
     ⟨(some 71), none, (.mov (.t 70))⟩,
     ⟨(some 72), (some (71, true)), (.mov (.t 7))⟩,
     ⟨(some 73), (some (71, true)), (.mov (.t 9))⟩,
     ⟨(some 74), (some (71, true)), (.bin .eql 3 (.t 72) (.t 73))⟩,
     ⟨(some 75), none, (.pick (.t 71) (.t 74) (.v (.bool false)))⟩,
     ⟨(some 6), none, (.mov (.t 75))⟩])
  .ret)))))))
theorem k5 : FnIs Try.prog 5 76 [.t 6] a5 := ⟨_, _, Try.func5, rfl, by kernel_rfl, by kernel_rfl, rfl⟩

theorem RO.init (may : Nat → Nat → Bool) {L a : Nat} (ha : a < 2 ^ L) : RO may L a ((List.replicate (2 ^ L) false).set a true) [a] 0 := by
  refine ⟨⟨by simp, fun m hm => by rw [List.mem_singleton.1 hm]; exact ha, by simp, fun m hm => ?_, fun m hm => ?_, List.mem_cons_self⟩, fun j _ hj => by omega⟩
  · rw [getD_setB (by simpa using ha), List.mem_singleton]
    by_cases e : m = a
    · rw [if_pos e]; simp [e]
    · rw [if_neg e, List.getD_eq_getElem?_getD, List.getElem?_replicate, if_pos hm]; simp [e]
  · rw [List.mem_singleton.1 hm]; exact ⟨0, .nil a⟩
/-- What Reach counts. -/
def reachN (p : Pln) : Int := if planE p.rules p.l p.l p.held = 0 then manyF p (2 ^ p.l.length) else 0
set_option maxRecDepth 20000 in
set_option maxHeartbeats 2000000 in
theorem s13 (p : Pln) (hh : p.held.length ≤ 9223372036854775807) (hs : ∀ r ∈ p.rules, RulOk r) (hta : ∀ x ∈ p.l, x.name.size ≤ 9223372036854775807) :
    Aw.Spec Try.prog 13 [] [rs p.nr p.fr p.rules, sts' p.nl p.fl p.l, ss p.nh p.fh p.held] (Gives (· = .tup [I (reachN p), I (planE p.rules p.l p.l p.held)])) := by
  refine Aw.Spec.givesD k13 mixed rfl rfl rfl fun E hn hnp hp => ?_
  unfold a13
  have pin : ∀ r, E.pin r = none := fun r => hp.none hnp (Nat.zero_le _)
  simp (config := { maxSteps := 2000000 }) only [go_sem, ↓reduceIte, Int.reduceToNat, Nat.reduceMul, Int.reduceBEq, Int.reduceBNe, Nat.reduceBEq, Nat.reduceAdd, Nat.reduceSub, Nat.reduceLeDiff, Nat.reduceEqDiff, Nat.reduceLT, reduceCtorEq]
  refine AWpL.callA [] (s8 p p.nl p.fl p.l hh hs hta hta) rfl rfl (by rw [hn]; rfl) rfl (fun r hr => by cases hr) fun rg v hv => ?_
  obtain ⟨rfl, rfl⟩ := hv
  refine ⟨Nat.zero_le _, AWpL.ofM hn rfl ?_⟩
  simp (config := { maxSteps := 2000000 }) only [go_sem, ↓reduceIte, Int.reduceToNat, Nat.reduceMul, Int.reduceBEq, Int.reduceBNe, Nat.reduceBEq, Nat.reduceAdd, Nat.reduceSub, Nat.reduceLeDiff, Nat.reduceEqDiff, Nat.reduceLT, reduceCtorEq, Aw.retS, Aw.retRg, Aw.kpM, Aw.bkM, Aw.pos, Aw.isBox]
  have hR : reachN p = if planE p.rules p.l p.l p.held = 0 then (manyF p (2 ^ p.l.length) : Int) else 0 := rfl
  simp only [bne_iff_ne, bne_eq_false_iff_eq, ne_eq]
  refine ⟨fun h => ?_, fun h => ?_⟩
  · rw [hR, if_neg h]
  rw [if_pos h] at hR
  obtain ⟨g1, g2, g3, g4, g5, g6, g7⟩ := planE_zero.1 h
  have hmany := fun {seen q} => reach_many (p := p) h (seen := seen) (q := q)
  have h64 : min p.l.length 64 = p.l.length := Nat.min_eq_left (by omega)
  have e1 := bitS (k := p.l.length) (by omega)
  have h256 := pow8 g4
  have hnl := numF_lt p.l
  rw [hR, h]
  simp (config := { maxSteps := 2000000 }) only [go_sem, ↓reduceIte, Int.reduceToNat, Nat.reduceMul, Int.reduceBEq, Int.reduceBNe, Nat.reduceBEq, Nat.reduceAdd, Nat.reduceSub, Nat.reduceLeDiff, Nat.reduceEqDiff, Nat.reduceLT, reduceCtorEq, h64, e1]
  (repeat (refine And.intro (by first | omega | (refine ⟨by omega, by omega⟩) | (refine ⟨by omega, by omega, by omega⟩) | (simp only [List.length_map, List.length_range, List.length_append, List.length_cons, List.length_nil, List.length_replicate, List.length_set]; omega) | (simp; omega) | (intro hgd; cases hgd) | (intro hgd; refine ⟨hgd, ?_⟩; first | omega | (refine ⟨by omega, by omega⟩) | (simp; omega))) ?_))
  (refine AWpL.calle (s23 p.nl p.fl p.l (by omega)) rfl (by rw [hn]; rfl) (by simp (config := { maxSteps := 2000000 }) only [go_sem, ↓reduceIte, Int.reduceToNat, Nat.reduceMul, Int.reduceBEq, Int.reduceBNe, Nat.reduceBEq, Nat.reduceAdd, Nat.reduceSub, Nat.reduceLeDiff, Nat.reduceEqDiff, Nat.reduceLT, reduceCtorEq]) (AWpL.ofM hn rfl ?_); simp (config := { maxSteps := 2000000 }) only [go_sem, ↓reduceIte, Int.reduceToNat, Nat.reduceMul, Int.reduceBEq, Int.reduceBNe, Nat.reduceBEq, Nat.reduceAdd, Nat.reduceSub, Nat.reduceLeDiff, Nat.reduceEqDiff, Nat.reduceLT, reduceCtorEq])
  generalize hn0 : numF p.l = n0 at *
  have hgr : (List.replicate (2 ^ p.l.length) [AV.val (Value.bool false)]).getD n0 [] = [B false] := by rw [List.getD_eq_getElem?_getD, List.getElem?_replicate, if_pos hnl]; rfl
  simp (config := { maxSteps := 2000000 }) only [go_sem, ↓reduceIte, Int.reduceToNat, Nat.reduceMul, Int.reduceBEq, Int.reduceBNe, Nat.reduceBEq, Nat.reduceAdd, Nat.reduceSub, Nat.reduceLeDiff, Nat.reduceEqDiff, Nat.reduceLT, reduceCtorEq, List.length_replicate, hgr]
  (repeat (refine And.intro (by first | omega | (refine ⟨by omega, by omega⟩) | (refine ⟨by omega, by omega, by omega⟩) | (simp only [List.length_map, List.length_range, List.length_append, List.length_cons, List.length_nil, List.length_replicate, List.length_set]; omega) | (simp; omega) | (intro hgd; cases hgd) | (intro hgd; refine ⟨hgd, ?_⟩; first | omega | (refine ⟨by omega, by omega⟩) | (simp; omega))) ?_))
  have hset : (List.replicate (2 ^ p.l.length) [B false]).set n0 [B true] = ((List.replicate (2 ^ p.l.length) false).set n0 true).map bc := by rw [List.map_set, List.map_replicate]
  have hinit := RO.init p.may hnl
  refine AWp.weak (weak_ent 13 (by rfl) (Ent.cap _ _ _ _ _)) ?_
  simp (config := { maxSteps := 2000000 }) only [go_sem, ↓reduceIte, Int.reduceToNat, Nat.reduceMul, Int.reduceBEq, Int.reduceBNe, Nat.reduceBEq, Nat.reduceAdd, Nat.reduceSub, Nat.reduceLeDiff, Nat.reduceEqDiff, Nat.reduceLT, reduceCtorEq]
  refine AWp.loop (fun k s => ∃ (seen : List Bool) (q : List Nat) (j : Nat), 2 ^ p.l.length ≤ j + k ∧ j ≤ q.length ∧ RO p.may p.l.length n0 seen q j ∧
      Weak E s ⟨[(1, sts' p.nl p.fl p.l), (10, .ptr 0 0 0), (11, .hnd 1 0 (2 ^ p.l.length) (2 ^ p.l.length) true), (13, .hnd 2 0 q.length q.length false), (14, I j)], [.box 60 (plC p (.val (.slice none 0 0))), .arr 4 1 (seen.map bc), .arr 3 1 (q.map nic)]⟩) (n := 2 ^ p.l.length)
    ⟨(List.replicate (2 ^ p.l.length) false).set n0 true, [n0], 0, by omega, Nat.zero_le _, hinit, weak_to [0, 1, 2] hp hnp rfl (by simp (config := { maxSteps := 2000000 }) only [go_sem, ↓reduceIte, Int.reduceToNat, Nat.reduceMul, Int.reduceBEq, Int.reduceBNe, Nat.reduceBEq, Nat.reduceAdd, Nat.reduceSub, Nat.reduceLeDiff, Nat.reduceEqDiff, Nat.reduceLT, reduceCtorEq, Aw.pos, Int.natCast_zero]) (by rw [← hset]; simp (config := { maxSteps := 2000000 }) only [go_sem, ↓reduceIte, Int.reduceToNat, Nat.reduceMul, Int.reduceBEq, Int.reduceBNe, Nat.reduceBEq, Nat.reduceAdd, Nat.reduceSub, Nat.reduceLeDiff, Nat.reduceEqDiff, Nat.reduceLT, reduceCtorEq, Aw.renR, Aw.pos, plC, List.map_replicate])⟩ ?_
  rintro k s ⟨seen, q, j, hjk, hjq, hRO, hw⟩
  refine AWp.weak hw (AWp.ofD [] [] hn mixed rfl ?_)
  have hsm := hRO.small
  rcases Nat.lt_or_ge j q.length with hlt | hge
  case inr =>
    have e0 : decide ((j : Int) < (q.length : Int)) = false := decide_eq_false (by omega)
    obtain rfl : j = q.length := by omega
    have hq := hmany hRO
    simp (config := { maxSteps := 2000000 }) only [go_sem, ↓reduceIte, Int.reduceToNat, Nat.reduceMul, Int.reduceBEq, Int.reduceBNe, Nat.reduceBEq, Nat.reduceAdd, Nat.reduceSub, Nat.reduceLeDiff, Nat.reduceEqDiff, Nat.reduceLT, reduceCtorEq, e0, plC]
    rw [hq]
  have e0 : decide ((j : Int) < (q.length : Int)) = true := decide_eq_true (by omega)
  have e2j : IntKind.i64.wrap ((j : Int) + 1) = ((j + 1 : Nat) : Int) := by rw [w64 (by omega) (by omega)]; omega
  simp (config := { maxSteps := 2000000 }) only [go_sem, ↓reduceIte, Int.reduceToNat, Nat.reduceMul, Int.reduceBEq, Int.reduceBNe, Nat.reduceBEq, Nat.reduceAdd, Nat.reduceSub, Nat.reduceLeDiff, Nat.reduceEqDiff, Nat.reduceLT, reduceCtorEq, e0, plC]
  have hst := hRO.step hlt
  have hrun := (hRO.start hlt).run
  have hn1 := hRO.lt _ (List.getElem_mem hlt)
  have hqj : q[j]? = some q[j] := List.getElem?_eq_getElem hlt
  generalize q[j] = n at *
  refine AWp.loop (fun k s => ∃ i : Nat, i + k = p.l.length ∧ Weak E s ⟨[(1, sts' p.nl p.fl p.l), (10, .ptr 0 0 0), (11, .hnd 1 0 (2 ^ p.l.length) (2 ^ p.l.length) true), (13, .hnd 2 0 (stepsR p.may n i (seen, q)).2.length (stepsR p.may n i (seen, q)).2.length false), (14, I j), (51, I p.l.length), (52, I i)],
      [.box 60 (plC p (.val (.slice none 0 0))), .arr 4 1 ((stepsR p.may n i (seen, q)).1.map bc), .arr 3 1 ((stepsR p.may n i (seen, q)).2.map nic)]⟩) (n := p.l.length)
    ⟨0, by omega, weak_to [0, 1, 2] hp hnp rfl (by simp (config := { maxSteps := 2000000 }) only [go_sem, ↓reduceIte, Int.reduceToNat, Nat.reduceMul, Int.reduceBEq, Int.reduceBNe, Nat.reduceBEq, Nat.reduceAdd, Nat.reduceSub, Nat.reduceLeDiff, Nat.reduceEqDiff, Nat.reduceLT, reduceCtorEq, Aw.pos, Int.natCast_zero]; rfl) (by simp (config := { maxSteps := 2000000 }) only [go_sem, ↓reduceIte, Int.reduceToNat, Nat.reduceMul, Int.reduceBEq, Int.reduceBNe, Nat.reduceBEq, Nat.reduceAdd, Nat.reduceSub, Nat.reduceLeDiff, Nat.reduceEqDiff, Nat.reduceLT, reduceCtorEq, Aw.renR, Aw.pos, plC]; rfl)⟩ ?_
  clear hw
  rintro k2 s ⟨i, hik, hw⟩
  refine AWp.weak hw (AWp.ofD [] [] hn mixed rfl ?_)
  rcases Nat.lt_or_ge i p.l.length with hil | hig
  case inr =>
    obtain rfl : i = p.l.length := by omega
    have e1 : decide ((p.l.length : Int) < (p.l.length : Int)) = false := decide_eq_false (by omega)
    obtain ⟨hRJ, t, ht⟩ := hrun p.l.length (Nat.le_refl _)
    have hlq : j + 1 ≤ (stepsR p.may n p.l.length (seen, q)).2.length := by rw [ht, List.length_append]; omega
    generalize stepsR p.may n p.l.length (seen, q) = sq at *
    obtain ⟨seen1, q1⟩ := sq
    simp (config := { maxSteps := 2000000 }) only [go_sem, ↓reduceIte, Int.reduceToNat, Nat.reduceMul, Int.reduceBEq, Int.reduceBNe, Nat.reduceBEq, Nat.reduceAdd, Nat.reduceSub, Nat.reduceLeDiff, Nat.reduceEqDiff, Nat.reduceLT, reduceCtorEq, e1, plC, e2j]
    exact ⟨k - 1, by omega, seen1, q1, j + 1, by omega, hlq, hst, weak_to [0, 1, 2] hp hnp rfl (by simp (config := { maxSteps := 2000000 }) only [go_sem, ↓reduceIte, Int.reduceToNat, Nat.reduceMul, Int.reduceBEq, Int.reduceBNe, Nat.reduceBEq, Nat.reduceAdd, Nat.reduceSub, Nat.reduceLeDiff, Nat.reduceEqDiff, Nat.reduceLT, reduceCtorEq, Aw.pos]) (by simp (config := { maxSteps := 2000000 }) only [go_sem, ↓reduceIte, Int.reduceToNat, Nat.reduceMul, Int.reduceBEq, Int.reduceBNe, Nat.reduceBEq, Nat.reduceAdd, Nat.reduceSub, Nat.reduceLeDiff, Nat.reduceEqDiff, Nat.reduceLT, reduceCtorEq, Aw.renR, Aw.pos, plC])⟩
  obtain ⟨hRJ, t, ht⟩ := hrun i (by omega)
  have hsu := stepsR_succ p.may n i (seen, q)
  have hsK : stepR p.may n (stepsR p.may n i (seen, q)) i = if (stepsR p.may n i (seen, q)).1.getD (flip n i) false = false ∧ p.may n i = true then ((stepsR p.may n i (seen, q)).1.set (flip n i) true, (stepsR p.may n i (seen, q)).2 ++ [flip n i]) else stepsR p.may n i (seen, q) := rfl
  have hln := hRJ.len
  have hsm1 := hRJ.small
  have hg : ((stepsR p.may n i (seen, q)).2.map nic).getD j [] = nic n := by
    rw [ht, List.getD_eq_getElem?_getD, List.getElem?_map, List.getElem?_append_left hlt, hqj]; rfl
  have hlq : j < (stepsR p.may n i (seen, q)).2.length := by rw [ht, List.length_append]; omega
  generalize stepsR p.may n i (seen, q) = sq at *
  obtain ⟨seen1, q1⟩ := sq
  dsimp only at hln hsK hsm1 hg hlq
  have e1 : decide ((i : Int) < (p.l.length : Int)) = true := decide_eq_true (by omega)
  have e2 : IntKind.i64.wrap ((i : Int) + 1) = ((i + 1 : Nat) : Int) := by rw [w64 (by omega) (by omega)]; omega
  have h64i : min i 64 = i := Nat.min_eq_left (by omega)
  have eS := bitS (k := i) (by omega)
  have eX := bitX (n := n) (k := i) (by omega) (by omega)
  have hml := flip_lt hn1 hil
  have em := getD_mapD false bc (l := seen1) (i := flip n i) (by omega)
  generalize flip n i = m at *
  simp (config := { maxSteps := 2000000 }) only [go_sem, ↓reduceIte, Int.reduceToNat, Nat.reduceMul, Int.reduceBEq, Int.reduceBNe, Nat.reduceBEq, Nat.reduceAdd, Nat.reduceSub, Nat.reduceLeDiff, Nat.reduceEqDiff, Nat.reduceLT, reduceCtorEq, e1, plC, h64i, eS, eX, hg, em, List.length_map, hln]
  (repeat (refine And.intro (by first | omega | (refine ⟨by omega, by omega⟩) | (refine ⟨by omega, by omega, by omega⟩) | (simp only [List.length_map, List.length_range, List.length_append, List.length_cons, List.length_nil, List.length_replicate, List.length_set]; omega) | (simp; omega) | (intro hgd; cases hgd) | (intro hgd; refine ⟨hgd, ?_⟩; first | omega | (refine ⟨by omega, by omega⟩) | (simp; omega))) ?_))
  refine AWpL.gcalle (b := !seen1.getD m false) (by simp (config := { maxSteps := 2000000 }) only [go_sem, ↓reduceIte, Int.reduceToNat, Nat.reduceMul, Int.reduceBEq, Int.reduceBNe, Nat.reduceBEq, Nat.reduceAdd, Nat.reduceSub, Nat.reduceLeDiff, Nat.reduceEqDiff, Nat.reduceLT, reduceCtorEq]) (fun _ => s24 p.nr p.fr p.rules p.nl p.fl p.l p.nh p.fh p.held _ n i g4 hil (by omega) (by omega) hs hta) rfl (by rw [hn]; rfl) (fun hb => by simp (config := { maxSteps := 2000000 }) only [go_sem, ↓reduceIte, Int.reduceToNat, Nat.reduceMul, Int.reduceBEq, Int.reduceBNe, Nat.reduceBEq, Nat.reduceAdd, Nat.reduceSub, Nat.reduceLeDiff, Nat.reduceEqDiff, Nat.reduceLT, reduceCtorEq]; simpa using hb) (AWpL.ofM hn rfl ?_)
  have hpm : mayF p.rules p.l p.held n i = p.may n i := rfl
  simp (config := { maxSteps := 2000000 }) only [go_sem, ↓reduceIte, Int.reduceToNat, Nat.reduceMul, Int.reduceBEq, Int.reduceBNe, Nat.reduceBEq, Nat.reduceAdd, Nat.reduceSub, Nat.reduceLeDiff, Nat.reduceEqDiff, Nat.reduceLT, reduceCtorEq, hpm, List.length_map, hln]
  refine ⟨fun h2 => ?_, fun h2 => ?_⟩
  · rw [if_pos (by simpa using h2)] at hsK
    (repeat (refine And.intro (by first | omega | (refine ⟨by omega, by omega⟩) | (refine ⟨by omega, by omega, by omega⟩) | (simp only [List.length_map, List.length_range, List.length_append, List.length_cons, List.length_nil, List.length_replicate, List.length_set]; omega) | (simp; omega) | (intro hgd; cases hgd) | (intro hgd; refine ⟨hgd, ?_⟩; first | omega | (refine ⟨by omega, by omega⟩) | (simp; omega))) ?_))
    have em2 : List.drop 1 ((seen1.map bc).getD m []) = [] := by rw [em]; rfl
    have h7 := List.map_set (f := bc) (l := seen1) (i := m) (a := true)
    refine AWpL.app (r := 2) (els := q1.map nic) (ys := [[I m]]) rfl rfl rfl rfl (by rw [hn]; rfl) (by simp) (pin 2) (Nat.le_refl 1) (fun el hm y hy => ?_) (by simp only [List.length_cons, List.length_nil]; omega) (by simp only [List.length_cons, List.length_nil]; omega) (AWpL.ofM hn rfl ?_)
    · rw [List.mem_singleton.1 hm] at hy
      rw [List.mem_singleton.1 hy]; rfl
    simp (config := { maxSteps := 2000000 }) only [go_sem, ↓reduceIte, Int.reduceToNat, Nat.reduceMul, Int.reduceBEq, Int.reduceBNe, Nat.reduceBEq, Nat.reduceAdd, Nat.reduceSub, Nat.reduceLeDiff, Nat.reduceEqDiff, Nat.reduceLT, reduceCtorEq, e2]
    exact ⟨k2 - 1, by omega, i + 1, by omega, weak_to [0, 1, 2] hp hnp rfl (by simp (config := { maxSteps := 2000000 }) only [go_sem, ↓reduceIte, Int.reduceToNat, Nat.reduceMul, Int.reduceBEq, Int.reduceBNe, Nat.reduceBEq, Nat.reduceAdd, Nat.reduceSub, Nat.reduceLeDiff, Nat.reduceEqDiff, Nat.reduceLT, reduceCtorEq, Aw.pos, hsu, hsK, List.length_append]) (by simp (config := { maxSteps := 2000000 }) only [go_sem, ↓reduceIte, Int.reduceToNat, Nat.reduceMul, Int.reduceBEq, Int.reduceBNe, Nat.reduceBEq, Nat.reduceAdd, Nat.reduceSub, Nat.reduceLeDiff, Nat.reduceEqDiff, Nat.reduceLT, reduceCtorEq, Aw.renR, Aw.pos, hsu, hsK, plC, List.map_append, h7, em2])⟩
  · rw [if_neg (by simpa using h2)] at hsK
    simp (config := { maxSteps := 2000000 }) only [go_sem, ↓reduceIte, Int.reduceToNat, Nat.reduceMul, Int.reduceBEq, Int.reduceBNe, Nat.reduceBEq, Nat.reduceAdd, Nat.reduceSub, Nat.reduceLeDiff, Nat.reduceEqDiff, Nat.reduceLT, reduceCtorEq, e2]
    exact ⟨k2 - 1, by omega, i + 1, by omega, weak_to [0, 1, 2] hp hnp rfl (by simp (config := { maxSteps := 2000000 }) only [go_sem, ↓reduceIte, Int.reduceToNat, Nat.reduceMul, Int.reduceBEq, Int.reduceBNe, Nat.reduceBEq, Nat.reduceAdd, Nat.reduceSub, Nat.reduceLeDiff, Nat.reduceEqDiff, Nat.reduceLT, reduceCtorEq, Aw.pos, hsu, hsK]) (by simp (config := { maxSteps := 2000000 }) only [go_sem, ↓reduceIte, Int.reduceToNat, Nat.reduceMul, Int.reduceBEq, Int.reduceBNe, Nat.reduceBEq, Nat.reduceAdd, Nat.reduceSub, Nat.reduceLeDiff, Nat.reduceEqDiff, Nat.reduceLT, reduceCtorEq, Aw.renR, Aw.pos, hsu, hsK, plC])⟩
/-- The states, the first i of them changed. -/
def mixS (l : List Sta) (n i : Nat) : List Sta := (stL l n).take i ++ l.drop i
theorem mixS_len (l : List Sta) (n i : Nat) : (mixS l n i).length = l.length := by unfold mixS; rw [List.length_append, List.length_take, List.length_drop, stL_len]; omega
theorem mixS_get {l : List Sta} {n i : Nat} (h : i < l.length) : ((mixS l n i).map stc).getD i [] = stc l[i] := by
  unfold mixS
  rw [getD_map stc (by rw [List.length_append, List.length_take, List.length_drop, stL_len]; omega), List.getElem_append_right (by rw [List.length_take]; omega)]
  simp only [List.length_take, stL_len, List.getElem_drop]
  congr 2; omega
theorem mixS_set {l : List Sta} {n i : Nat} (h : i < l.length) : ((mixS l n i).map stc).set i [S l[i].name, B (n.testBit i)] = (mixS l n (i + 1)).map stc := by
  unfold mixS
  have h7 : [S l[i].name, B (n.testBit i)] = stc ⟨l[i].name, n.testBit i⟩ := rfl
  have h8 : (stL l n).take (i + 1) = (stL l n).take i ++ [⟨l[i].name, n.testBit i⟩] := by
    rw [take_get (by rw [stL_len]; exact h)]
    congr 2
    unfold stL; simp
  rw [h7, ← List.map_set, h8, List.set_append, if_neg (by rw [List.length_take]; omega), List.append_assoc]
  congr 2
  rw [List.length_take, stL_len, Nat.min_eq_left (by omega), Nat.sub_self, List.drop_eq_getElem_cons h]; rfl
theorem mixS_all (l : List Sta) (n : Nat) : mixS l n l.length = stL l n := by unfold mixS; rw [List.drop_length, List.append_nil, List.take_of_length_le (by rw [stL_len]; exact Nat.le_refl _)]
theorem stL_ok {l : List Sta} {n : Nat} (h : ∀ x ∈ l, x.name.size ≤ 9223372036854775807) : ∀ x ∈ stL l n, x.name.size ≤ 9223372036854775807 := fun x hx => by
  unfold stL at hx
  obtain ⟨i, hi, rfl⟩ := List.mem_iff_getElem.1 hx
  rw [List.getElem_mapIdx]
  rw [List.length_mapIdx] at hi
  exact h l[i] (List.getElem_mem hi)
theorem manyF_le (p : Pln) (n : Nat) : manyF p n ≤ n := by
  unfold manyF
  have := List.countP_le_length (p := fun m => planE p.rules p.l (stL p.l m) p.held == 0) (l := List.range n)
  rwa [List.length_range] at this
theorem minT4 (l : List Sta) : (l.map stc).take (min (l.length : Int) 4).toNat = (l.take 4).map stc := minT l 4
set_option maxRecDepth 20000 in
set_option maxHeartbeats 2000000 in
theorem s5 (nr fr) (rules : List Rul) (na fa) (a0 : List Sta) (nh fh) (held : List ByteArray) (hh : held.length ≤ 9223372036854775807) (hs : ∀ r ∈ rules, RulOk r) (ha : ∀ x ∈ a0, x.name.size ≤ 9223372036854775807) :
    Aw.Spec Try.prog 5 [] [rs nr fr rules, sts' na fa a0, ss nh fh held] (Gives (· = B true)) := by
  refine Aw.Spec.givesD k5 mixed rfl rfl rfl fun E hn hnp hp => ?_
  unfold a5
  have pin : ∀ r, E.pin r = none := fun r => hp.none hnp (Nat.zero_le _)
  have ha2 : ∀ x ∈ a0.take 4, x.name.size ≤ 9223372036854775807 := fun x hx => ha x (List.mem_of_mem_take hx)
  have hl4 : (a0.take 4).length ≤ 4 := by rw [List.length_take]; omega
  simp (config := { maxSteps := 2000000 }) only [go_sem, ↓reduceIte, Int.reduceToNat, Nat.reduceMul, Int.reduceBEq, Int.reduceBNe, Nat.reduceBEq, Nat.reduceAdd, Nat.reduceSub, Nat.reduceLeDiff, Nat.reduceEqDiff, Nat.reduceLT, reduceCtorEq, minT4]
  (repeat (refine And.intro (by first | omega | (refine ⟨by omega, by omega⟩) | (refine ⟨by omega, by omega, by omega⟩) | (simp only [List.length_map, List.length_range, List.length_append, List.length_cons, List.length_nil, List.length_replicate, List.length_set]; omega) | (simp; omega) | (intro hgd; cases hgd) | (intro hgd; refine ⟨hgd, ?_⟩; first | omega | (refine ⟨by omega, by omega⟩) | (simp; omega))) ?_))
  generalize a0.take 4 = a at *
  (refine AWpL.calle (s13 ⟨nr, fr, rules, na, false, a, nh, fh, held⟩ hh hs ha2) rfl (by rw [hn]; rfl) (by simp (config := { maxSteps := 2000000 }) only [go_sem, ↓reduceIte, Int.reduceToNat, Nat.reduceMul, Int.reduceBEq, Int.reduceBNe, Nat.reduceBEq, Nat.reduceAdd, Nat.reduceSub, Nat.reduceLeDiff, Nat.reduceEqDiff, Nat.reduceLT, reduceCtorEq]) (AWpL.ofM hn rfl ?_); simp (config := { maxSteps := 2000000 }) only [go_sem, ↓reduceIte, Int.reduceToNat, Nat.reduceMul, Int.reduceBEq, Int.reduceBNe, Nat.reduceBEq, Nat.reduceAdd, Nat.reduceSub, Nat.reduceLeDiff, Nat.reduceEqDiff, Nat.reduceLT, reduceCtorEq])
  have hR : reachN ⟨nr, fr, rules, na, false, a, nh, fh, held⟩ = if planE rules a a held = 0 then (manyF ⟨nr, fr, rules, na, false, a, nh, fh, held⟩ (2 ^ a.length) : Int) else 0 := rfl
  simp only [bne_iff_ne, bne_eq_false_iff_eq, ne_eq]
  refine ⟨fun h => ?_, fun h => ?_⟩
  · rw [if_neg h] at hR
    rw [hR]
    (refine AWpL.calle (s9) rfl (by rw [hn]; rfl) (by simp (config := { maxSteps := 2000000 }) only [go_sem, ↓reduceIte, Int.reduceToNat, Nat.reduceMul, Int.reduceBEq, Int.reduceBNe, Nat.reduceBEq, Nat.reduceAdd, Nat.reduceSub, Nat.reduceLeDiff, Nat.reduceEqDiff, Nat.reduceLT, reduceCtorEq]) (AWpL.ofM hn rfl ?_); simp (config := { maxSteps := 2000000 }) only [go_sem, ↓reduceIte, Int.reduceToNat, Nat.reduceMul, Int.reduceBEq, Int.reduceBNe, Nat.reduceBEq, Nat.reduceAdd, Nat.reduceSub, Nat.reduceLeDiff, Nat.reduceEqDiff, Nat.reduceLT, reduceCtorEq])
  rw [if_pos h] at hR
  rw [hR]
  have h64 : min a.length 64 = a.length := Nat.min_eq_left (by omega)
  have e1 := bitS (k := a.length) (by omega)
  have h16 : 2 ^ a.length ≤ 16 := Nat.pow_le_pow_right (n := 2) (by decide) hl4
  have hms := manyF_succ ⟨nr, fr, rules, na, false, a, nh, fh, held⟩
  dsimp only at hms
  have hml := manyF_le ⟨nr, fr, rules, na, false, a, nh, fh, held⟩
  simp (config := { maxSteps := 2000000 }) only [go_sem, ↓reduceIte, Int.reduceToNat, Nat.reduceMul, Int.reduceBEq, Int.reduceBNe, Nat.reduceBEq, Nat.reduceAdd, Nat.reduceSub, Nat.reduceLeDiff, Nat.reduceEqDiff, Nat.reduceLT, reduceCtorEq, h64, e1]
  refine ⟨by omega, ?_⟩
  generalize hNN : 2 ^ a.length = N at *
  refine AWp.loop (fun k s => ∃ n : Nat, n + k = N ∧ Weak E s ⟨[(0, rs nr fr rules), (1, sts' na false a), (2, ss nh fh held), (7, I (manyF ⟨nr, fr, rules, na, false, a, nh, fh, held⟩ N)), (9, I (manyF ⟨nr, fr, rules, na, false, a, nh, fh, held⟩ n)), (36, I N), (37, I n)], []⟩) (n := N)
    ⟨0, by omega, weak_to [] hp hnp rfl (by simp (config := { maxSteps := 2000000 }) only [go_sem, ↓reduceIte, Int.reduceToNat, Nat.reduceMul, Int.reduceBEq, Int.reduceBNe, Nat.reduceBEq, Nat.reduceAdd, Nat.reduceSub, Nat.reduceLeDiff, Nat.reduceEqDiff, Nat.reduceLT, reduceCtorEq, Int.natCast_zero]; rfl) rfl⟩ ?_
  rintro k s ⟨n, hnk, hw⟩
  refine AWp.weak hw (AWp.ofD [] [] hn mixed rfl ?_)
  rcases Nat.lt_or_ge n N with hlt | hge
  case inr =>
    obtain rfl : n = N := by omega
    have e0 : decide ((n : Int) < (n : Int)) = false := decide_eq_false (by omega)
    have e3 : ∀ m : Int, (m == m) = true := fun m => by simp
    simp (config := { maxSteps := 2000000 }) only [go_sem, ↓reduceIte, Int.reduceToNat, Nat.reduceMul, Int.reduceBEq, Int.reduceBNe, Nat.reduceBEq, Nat.reduceAdd, Nat.reduceSub, Nat.reduceLeDiff, Nat.reduceEqDiff, Nat.reduceLT, reduceCtorEq, e0]
    (refine AWpL.calle (s9) rfl (by rw [hn]; rfl) (by simp (config := { maxSteps := 2000000 }) only [go_sem, ↓reduceIte, Int.reduceToNat, Nat.reduceMul, Int.reduceBEq, Int.reduceBNe, Nat.reduceBEq, Nat.reduceAdd, Nat.reduceSub, Nat.reduceLeDiff, Nat.reduceEqDiff, Nat.reduceLT, reduceCtorEq]) (AWpL.ofM hn rfl ?_); simp (config := { maxSteps := 2000000 }) only [go_sem, ↓reduceIte, Int.reduceToNat, Nat.reduceMul, Int.reduceBEq, Int.reduceBNe, Nat.reduceBEq, Nat.reduceAdd, Nat.reduceSub, Nat.reduceLeDiff, Nat.reduceEqDiff, Nat.reduceLT, reduceCtorEq])
  have e0 : decide ((n : Int) < (N : Int)) = true := decide_eq_true (by omega)
  have e2 : IntKind.i64.wrap ((n : Int) + 1) = ((n + 1 : Nat) : Int) := by rw [w64 (by omega) (by omega)]; omega
  have hm := hml n
  have e4 : IntKind.i64.wrap (((manyF ⟨nr, fr, rules, na, false, a, nh, fh, held⟩ n : Nat) : Int) + 1) = ((manyF ⟨nr, fr, rules, na, false, a, nh, fh, held⟩ n + 1 : Nat) : Int) := by rw [w64 (by omega) (by omega)]; omega
  have hsu := hms n
  simp (config := { maxSteps := 2000000 }) only [go_sem, ↓reduceIte, Int.reduceToNat, Nat.reduceMul, Int.reduceBEq, Int.reduceBNe, Nat.reduceBEq, Nat.reduceAdd, Nat.reduceSub, Nat.reduceLeDiff, Nat.reduceEqDiff, Nat.reduceLT, reduceCtorEq, e0]
  refine AWpL.callA [] (o14 na false a (by omega)) rfl rfl (by rw [hn]; rfl) rfl (fun r hr => by cases hr) fun rg v hv => ?_
  obtain ⟨rfl, rfl⟩ := hv
  refine ⟨Nat.zero_le _, AWpL.ofM hn rfl ?_⟩
  simp (config := { maxSteps := 2000000 }) only [go_sem, ↓reduceIte, Int.reduceToNat, Nat.reduceMul, Int.reduceBEq, Int.reduceBNe, Nat.reduceBEq, Nat.reduceAdd, Nat.reduceSub, Nat.reduceLeDiff, Nat.reduceEqDiff, Nat.reduceLT, reduceCtorEq, Aw.retS, Aw.retRg, Aw.kpM, Aw.bkM, Aw.pos, Aw.isBox, List.getElem?_nil, List.length_map]
  refine AWp.loop (fun k s => ∃ i : Nat, i + k = a.length ∧ Weak E s ⟨[(0, rs nr fr rules), (1, sts' na false a), (2, ss nh fh held), (7, I (manyF ⟨nr, fr, rules, na, false, a, nh, fh, held⟩ N)), (9, I (manyF ⟨nr, fr, rules, na, false, a, nh, fh, held⟩ n)), (10, I n), (11, .hnd 0 0 a.length a.length false), (36, I N), (37, I n), (43, I a.length), (44, I i)], [.arr 33 2 ((mixS a n i).map stc)]⟩) (n := a.length)
    ⟨0, by omega, weak_to [0] hp hnp rfl (by simp (config := { maxSteps := 2000000 }) only [go_sem, ↓reduceIte, Int.reduceToNat, Nat.reduceMul, Int.reduceBEq, Int.reduceBNe, Nat.reduceBEq, Nat.reduceAdd, Nat.reduceSub, Nat.reduceLeDiff, Nat.reduceEqDiff, Nat.reduceLT, reduceCtorEq, Aw.pos, Int.natCast_zero]) (by simp (config := { maxSteps := 2000000 }) only [go_sem, ↓reduceIte, Int.reduceToNat, Nat.reduceMul, Int.reduceBEq, Int.reduceBNe, Nat.reduceBEq, Nat.reduceAdd, Nat.reduceSub, Nat.reduceLeDiff, Nat.reduceEqDiff, Nat.reduceLT, reduceCtorEq, Aw.renR, Aw.pos]; rfl)⟩ ?_
  clear hw
  rintro k2 s ⟨i, hik, hw⟩
  refine AWp.weak hw (AWp.ofD [] [] hn mixed rfl ?_)
  have hxl := mixS_len a n i
  rcases Nat.lt_or_ge i a.length with hil | hig
  · have e5 : decide ((i : Int) < (a.length : Int)) = true := decide_eq_true (by omega)
    have e6 : IntKind.i64.wrap ((i : Int) + 1) = ((i + 1 : Nat) : Int) := by rw [w64 (by omega) (by omega)]; omega
    have h64i : min i 64 = i := Nat.min_eq_left (by omega)
    have hb := bitA (n := n) (k := i) (by omega) (by omega)
    have e7 := mixS_get (n := n) hil
    have e8 := mixS_set (n := n) hil
    simp (config := { maxSteps := 2000000 }) only [go_sem, ↓reduceIte, Int.reduceToNat, Nat.reduceMul, Int.reduceBEq, Int.reduceBNe, Nat.reduceBEq, Nat.reduceAdd, Nat.reduceSub, Nat.reduceLeDiff, Nat.reduceEqDiff, Nat.reduceLT, reduceCtorEq, e5, e6, e7, List.length_map, hxl, h64i, hb, e8]
    (repeat (refine And.intro (by first | omega | (refine ⟨by omega, by omega⟩) | (refine ⟨by omega, by omega, by omega⟩) | (simp only [List.length_map, List.length_range, List.length_append, List.length_cons, List.length_nil, List.length_replicate, List.length_set]; omega) | (simp; omega) | (intro hgd; cases hgd) | (intro hgd; refine ⟨hgd, ?_⟩; first | omega | (refine ⟨by omega, by omega⟩) | (simp; omega))) ?_))
    exact ⟨k2 - 1, by omega, i + 1, by omega, weak_to [0] hp hnp rfl (by simp (config := { maxSteps := 2000000 }) only [go_sem, ↓reduceIte, Int.reduceToNat, Nat.reduceMul, Int.reduceBEq, Int.reduceBNe, Nat.reduceBEq, Nat.reduceAdd, Nat.reduceSub, Nat.reduceLeDiff, Nat.reduceEqDiff, Nat.reduceLT, reduceCtorEq, Aw.pos]) (by simp (config := { maxSteps := 2000000 }) only [go_sem, ↓reduceIte, Int.reduceToNat, Nat.reduceMul, Int.reduceBEq, Int.reduceBNe, Nat.reduceBEq, Nat.reduceAdd, Nat.reduceSub, Nat.reduceLeDiff, Nat.reduceEqDiff, Nat.reduceLT, reduceCtorEq, Aw.renR, Aw.pos])⟩
  obtain rfl : i = a.length := by omega
  have e5 : decide ((a.length : Int) < (a.length : Int)) = false := decide_eq_false (by omega)
  have hall := mixS_all a n
  have hsl := stL_len a n
  rw [hall] at hw ⊢
  have htk : ((stL a n).map stc).take a.length = (stL a n).map stc := List.take_of_length_le (by simp [hsl])
  simp (config := { maxSteps := 2000000 }) only [go_sem, ↓reduceIte, Int.reduceToNat, Nat.reduceMul, Int.reduceBEq, Int.reduceBNe, Nat.reduceBEq, Nat.reduceAdd, Nat.reduceSub, Nat.reduceLeDiff, Nat.reduceEqDiff, Nat.reduceLT, reduceCtorEq, e5]
  refine AWpL.weak (weak_freeze 0 rfl (pin 0) (by simp (config := { maxSteps := 2000000 }) only [go_sem, ↓reduceIte, Int.reduceToNat, Nat.reduceMul, Int.reduceBEq, Int.reduceBNe, Nat.reduceBEq, Nat.reduceAdd, Nat.reduceSub, Nat.reduceLeDiff, Nat.reduceEqDiff, Nat.reduceLT, reduceCtorEq, List.length_map, hsl, Nat.le_refl])) (AWpL.ofM hn rfl ?_)
  simp (config := { maxSteps := 2000000 }) only [go_sem, ↓reduceIte, Int.reduceToNat, Nat.reduceMul, Int.reduceBEq, Int.reduceBNe, Nat.reduceBEq, Nat.reduceAdd, Nat.reduceSub, Nat.reduceLeDiff, Nat.reduceEqDiff, Nat.reduceLT, reduceCtorEq, htk]
  refine AWpL.callA [] (s8 ⟨nr, fr, rules, na, false, a, nh, fh, held⟩ none false (stL a n) hh hs ha2 (stL_ok ha2)) rfl rfl (by rw [hn]; rfl) rfl (fun r hr => by cases hr) fun rg v hv => ?_
  obtain ⟨rfl, rfl⟩ := hv
  refine ⟨Nat.zero_le _, AWpL.ofM hn rfl ?_⟩
  simp (config := { maxSteps := 2000000 }) only [go_sem, ↓reduceIte, Int.reduceToNat, Nat.reduceMul, Int.reduceBEq, Int.reduceBNe, Nat.reduceBEq, Nat.reduceAdd, Nat.reduceSub, Nat.reduceLeDiff, Nat.reduceEqDiff, Nat.reduceLT, reduceCtorEq, Aw.retS, Aw.retRg, Aw.kpM, Aw.bkM, Aw.pos, Aw.isBox]
  simp only [beq_iff_eq, beq_eq_false_iff_ne, ne_eq]
  refine ⟨fun h2 => ?_, fun h2 => ?_⟩
  · rw [if_pos h2] at hsu
    exact ⟨k - 1, by omega, n + 1, by omega, weak_to [] hp hnp rfl (by simp (config := { maxSteps := 2000000 }) only [go_sem, ↓reduceIte, Int.reduceToNat, Nat.reduceMul, Int.reduceBEq, Int.reduceBNe, Nat.reduceBEq, Nat.reduceAdd, Nat.reduceSub, Nat.reduceLeDiff, Nat.reduceEqDiff, Nat.reduceLT, reduceCtorEq, e2, e4, hsu]) rfl⟩
  · rw [if_neg h2, Nat.add_zero] at hsu
    exact ⟨k - 1, by omega, n + 1, by omega, weak_to [] hp hnp rfl (by simp (config := { maxSteps := 2000000 }) only [go_sem, ↓reduceIte, Int.reduceToNat, Nat.reduceMul, Int.reduceBEq, Int.reduceBNe, Nat.reduceBEq, Nat.reduceAdd, Nat.reduceSub, Nat.reduceLeDiff, Nat.reduceEqDiff, Nat.reduceLT, reduceCtorEq, e2, e4, hsu]) rfl⟩
end Go.Proofs.Ytkbipopkemfhaaa
