/- Telemetry: the fixed example and the law of ages. -/
import Derived.Test.YtfbddidlipeegaaAwZg
import Derived.Test.YtfbddidlipeegaaTemJ
set_option linter.unusedVariables false
set_option linter.unusedSimpArgs false
namespace Go.Proofs.Ytfbddidlipeegaa
open Go.Proofs.Ytfbddidlipeegaa.Aw
attribute [local go_sem] Int.natCast_zero Int.natCast_one bne_self_eq_false beq_self_eq_true Bool.not_true Bool.not_false Option.isSome_none Option.isSome_some Aw.bkM_nil Option.getD_some Option.getD_none Nat.sub_zero Int.toNat_zero Aw.frzS Aw.frzT Aw.frzA Aw.frzL Aw.frzR Aw.frzO Aw.frzOL Aw.frzOT Aw.frzOR Aw.killS Aw.mapT Aw.mapR Aw.killM Aw.resAVs Aw.resAV Aw.quietOps Aw.wpP Aw.wpT Aw.wpS Aw.AOp.mild List.getElem?_cons_zero List.getElem?_cons_succ Bool.and_false Bool.and_self Bool.false_and Aw.opOb Aw.gdB Aw.Rnd Aw.subTm List.length_map Int.toNat_natCast and_self Aw.SeqC Aw.stops Aw.Ends Aw.looks Aw.renA Aw.renL Aw.renT Aw.renS Aw.wpO Aw.aop Aw.putTm Aw.St.ev Aw.St.put Aw.St.putO Aw.binAV Aw.intBin Aw.strBin Aw.pickAV Aw.optInt Aw.AV.strip Aw.AV.guard Aw.AV.cells Aw.gdOb Aw.AOp.opds Aw.AOp.still Aw.ptrCells Aw.St.reg Aw.fillAV Aw.fillOb Aw.elsOb Aw.splice Aw.firm Aw.cellish Aw.AV.shut Aw.shutAll Aw.Seq Aw.Blk Aw.retS_nil Aw.mapA Aw.mapL Aw.borA Aw.borOb Aw.allOb Aw.tupOf Aw.params Aw.Opd.of Array.toList Value.cells List.map_cons List.map_nil List.getD_cons_zero List.getD_cons_succ List.getD_nil List.length_cons List.length_nil List.take_succ_cons List.take_zero List.take_nil List.drop_zero List.drop_succ_cons List.drop_nil List.set_cons_zero List.set_cons_succ List.append_nil List.nil_append List.cons_append List.all_cons List.all_nil cond_false cond_true if_true if_false true_and and_true Bool.and_true Bool.true_and Option.map_some Option.map_none false_implies forall_const implies_true forall_eq imp_self Bool.cond_false_right Bool.cond_true_left beq_true beq_false Bool.not_eq_true' Bool.false_eq_true Nat.zero_add Nat.add_zero Aw.eqCells Aw.exactCap Aw.revealS Aw.srcEls Aw.srcSz
attribute [local go_sem ↓] Aw.look_nil Aw.look_ite Aw.wpL_nil Aw.wpL_op Aw.wpL_gd Aw.wpQ_nil Aw.wpQ_op Aw.wpQ_gd Aw.wpC_draw Aw.wpC_reg Aw.wpC_skip Aw.wpC_ret Aw.wpC_exit Aw.wpC_seq Aw.wpC_block Aw.wpC_loop Aw.wpC_cond Aw.stopAt_nil Aw.stopAt_cons Aw.wpD_skip Aw.wpD_ret Aw.wpD_exit Aw.wpD_region Aw.wpD_draw Aw.wpM_nil Aw.wpM_op Aw.wpM_gd Aw.wpD_seq Aw.wpD_block Aw.wpD_loop Aw.wpD_cond
/- gridhall/gridhallkeep4.telemetryFact -/
def a6 : ACode :=
  (.seq (.region false [] [
     ⟨(some 0), none, (.mov (.v (.bool false)))⟩])
  (.seq (.region false [] [
     ⟨(some 9), none, (.call 5 [(.v (.int .i64 10))])⟩,
     ⟨(some 8), none, (.mov (.t 9))⟩,
     ⟨(some 10), none, (.ext 0 (.t 8))⟩,
     ⟨(some 11), none, (.ext 1 (.t 8))⟩,
     ⟨(some 1), none, (.mov (.t 10))⟩,
     ⟨(some 2), none, (.mov (.t 11))⟩])
  (.seq (.seq (.region false [] [
     ⟨(some 12), none, (.mov (.t 2))⟩,
     ⟨(some 13), none, (.bin .neq 24 (.t 12) (.v (.int .i64 0)))⟩,
     ⟨(some 14), none, (.mov (.t 13))⟩,
     ⟨(some 15), (some (14, false)), (.mov (.t 1))⟩,
     ⟨(some 16), (some (14, false)), (.nilP false (.t 15))⟩,
     ⟨(some 17), none, (.pick (.t 14) (.v (.bool true)) (.t 16))⟩])
  (.cond (.t 17)
    (.seq (.region false [] [
       ⟨(some 0), none, (.mov (.v (.bool false)))⟩])
    .ret)
    .skip))
  (.seq (.region false [] [
     ⟨(some 19), none, (.mov (.t 1))⟩,
     ⟨(some 20), none, (.build (.agg #[(.string ⟨#[]⟩), (.int .i64 0), (.int .i64 0), (.int .i64 0)]) [(0, (1, (.v (.string ⟨#[65]⟩)))), (1, (1, (.v (.int .i64 3)))), (2, (1, (.v (.int .i64 100)))), (3, (1, (.v (.int .i64 7))))])⟩,
     ⟨(some 21), none, (.call 7 [(.t 19), (.t 20)])⟩,
     ⟨(some 18), none, (.mov (.t 21))⟩,
     ⟨(some 22), none, (.ext 0 (.t 18))⟩,
     ⟨(some 23), none, (.ext 1 (.t 18))⟩,
     ⟨(some 3), none, (.mov (.t 22))⟩,
     ⟨(some 4), none, (.mov (.t 23))⟩])
  (.seq (.region false [] [
     ⟨(some 25), none, (.mov (.t 1))⟩,
     ⟨(some 26), none, (.call 10 [(.t 25), (.v (.string ⟨#[65]⟩)), (.v (.int .i64 111))])⟩,
     ⟨(some 24), none, (.mov (.t 26))⟩,
     ⟨(some 27), none, (.ext 0 (.t 24))⟩,
     ⟨(some 28), none, (.ext 1 (.t 24))⟩,
     ⟨(some 29), none, (.ext 2 (.t 24))⟩,
     ⟨(some 5), none, (.mov (.t 27))⟩,
     ⟨(some 6), none, (.mov (.t 28))⟩,
     ⟨(some 7), none, (.mov (.t 29))⟩])
  (.seq (.region false [] [
     ⟨(some 30), none, (.mov (.t 3))⟩,
     ⟨(some 31), none, (.mov (.t 30))⟩,
     ⟨(some 32), (some (31, true)), (.mov (.t 4))⟩,
     ⟨(some 33), (some (31, true)), (.bin .eql 24 (.t 32) (.v (.int .i64 0)))⟩,
     ⟨(some 34), none, (.pick (.t 31) (.t 33) (.v (.bool false)))⟩,
     ⟨(some 35), none, (.mov (.t 34))⟩,
     ⟨(some 36), (some (35, true)), (.mov (.t 7))⟩,
     ⟨(some 37), (some (35, true)), (.bin .eql 24 (.t 36) (.v (.int .i64 0)))⟩,
     ⟨(some 38), none, (.pick (.t 35) (.t 37) (.v (.bool false)))⟩,
     ⟨(some 39), none, (.mov (.t 38))⟩,
     ⟨(some 40), (some (39, true)), (.mov (.t 5))⟩,
     ⟨(some 41), (some (39, true)), (.bin .eql 3 (.t 40) (.v (.int .i64 7)))⟩,
     ⟨(some 42), none, (.pick (.t 39) (.t 41) (.v (.bool false)))⟩,
     ⟨(some 43), none, (.mov (.t 42))⟩,
     ⟨(some 44), (some (43, true)), (.mov (.t 6))⟩,
     ⟨(some 45), (some (43, true)), (.bin .eql 3 (.t 44) (.v (.int .i64 1)))⟩,
     ⟨(some 46), none, (.pick (.t 43) (.t 45) (.v (.bool false)))⟩,
     ⟨(some 0), none, (.mov (.t 46))⟩])
  .ret))))))
theorem k6 : FnIs Try.prog 6 47 [.t 0] a6 := ⟨_, _, Try.func6, rfl, by kernel_rfl, by kernel_rfl, rfl⟩
/- gridhall/gridhallkeep4.TelemetryAges -/
def a3 : ACode :=
  (.seq (.region false [] [
     ⟨(some 8), none, (.mov (.v (.bool false)))⟩])
  (.seq (.region false [] [
     ⟨(some 22), none, (.mov (.t 0))⟩,
     ⟨(some 23), none, (.call 5 [(.t 22)])⟩,
     ⟨(some 21), none, (.mov (.t 23))⟩,
     ⟨(some 24), none, (.ext 0 (.t 21))⟩,
     ⟨(some 25), none, (.ext 1 (.t 21))⟩,
     ⟨(some 9), none, (.mov (.t 24))⟩,
     ⟨(some 10), none, (.mov (.t 25))⟩])
  (.seq (.seq (.region false [] [
     ⟨(some 26), none, (.mov (.t 10))⟩,
     ⟨(some 27), none, (.bin .neq 24 (.t 26) (.v (.int .i64 0)))⟩,
     ⟨(some 28), none, (.mov (.t 27))⟩,
     ⟨(some 29), (some (28, false)), (.mov (.t 9))⟩,
     ⟨(some 30), (some (28, false)), (.nilP false (.t 29))⟩,
     ⟨(some 31), none, (.pick (.t 28) (.v (.bool true)) (.t 30))⟩])
  (.cond (.t 31)
    (.seq (.region false [] [
       ⟨(some 32), none, (.call 6 [])⟩,
       ⟨(some 33), none, (.mov (.t 32))⟩,
       ⟨(some 34), (some (33, true)), (.mov (.t 9))⟩,
       ⟨(some 35), (some (33, true)), (.nilP false (.t 34))⟩,
       ⟨(some 36), none, (.pick (.t 33) (.t 35) (.v (.bool false)))⟩,
       ⟨(some 8), none, (.mov (.t 36))⟩])
    .ret)
    .skip))
  (.seq (.seq (.region false [] [
     ⟨(some 37), none, (.mov (.t 1))⟩,
     ⟨(some 38), none, (.mov (.t 1))⟩,
     ⟨(some 39), none, (.len (.t 38))⟩,
     ⟨(some 40), none, (.mni (.t 39) (.v (.int .i64 8)))⟩,
     ⟨(some 41), none, (.slc 4 (.t 37) none (some (.t 40)) none)⟩,
     ⟨(some 42), none, (.len (.t 41))⟩,
     ⟨(some 43), none, (.mov (.v (.int .i64 0)))⟩])
  (.block 0 (.loop (.seq (.region false [] [
       ⟨(some 44), none, (.bin .lss 3 (.t 43) (.t 42))⟩])
    (.seq (.cond (.t 44)
      .skip
      (.exit 0))
    (.seq (.block 1 (.seq (.region false [] [
        ⟨(some 45), none, (.idx 4 (.t 41) (.t 43))⟩,
        ⟨(some 46), none, (.load 4 true (.t 45))⟩,
        ⟨(some 12), none, (.alloc 29 (.agg #[(.string ⟨#[]⟩), (.int .i64 0), (.int .i64 0), (.int .i64 0)]))⟩,
        ⟨none, none, (.store 4 (.t 12) (.t 46))⟩])
     (.region false [] [
        ⟨(some 47), none, (.mov (.t 9))⟩,
        ⟨(some 48), none, (.load 4 true (.t 12))⟩,
        ⟨(some 49), none, (.call 7 [(.t 47), (.t 48)])⟩])))
    (.region false [] [
       ⟨(some 50), none, (.bin .add 3 (.t 43) (.v (.int .i64 1)))⟩,
       ⟨(some 43), none, (.mov (.t 50))⟩])))))))
  (.seq (.region false [] [
     ⟨(some 51), none, (.mov (.t 2))⟩,
     ⟨(some 52), none, (.call 8 [(.t 51), (.v (.int .i64 0)), (.v (.int .i64 1000))])⟩,
     ⟨(some 53), none, (.mov (.t 3))⟩,
     ⟨(some 54), none, (.call 8 [(.t 53), (.v (.int .i64 0)), (.v (.int .i64 1000))])⟩,
     ⟨(some 2), none, (.mov (.t 52))⟩,
     ⟨(some 3), none, (.mov (.t 54))⟩])
  (.seq (.seq (.region false [] [
     ⟨(some 55), none, (.mov (.t 9))⟩,
     ⟨(some 56), none, (.call 9 [(.t 55)])⟩,
     ⟨(some 57), none, (.len (.t 56))⟩,
     ⟨(some 58), none, (.mov (.v (.int .i64 0)))⟩])
  (.block 2 (.loop (.seq (.region false [] [
       ⟨(some 59), none, (.bin .lss 3 (.t 58) (.t 57))⟩])
    (.seq (.cond (.t 59)
      .skip
      (.exit 2))
    (.seq (.block 3 (.seq (.region false [] [
        ⟨(some 60), none, (.idx 4 (.t 56) (.t 58))⟩,
        ⟨(some 61), none, (.load 4 true (.t 60))⟩,
        ⟨(some 14), none, (.alloc 29 (.agg #[(.string ⟨#[]⟩), (.int .i64 0), (.int .i64 0), (.int .i64 0)]))⟩,
        ⟨none, none, (.store 4 (.t 14) (.t 61))⟩])
     (.seq (.region false [] [
        ⟨(some 63), none, (.mov (.t 9))⟩,
        ⟨(some 64), none, (.fld 0 (.t 14))⟩,
        ⟨(some 65), none, (.load 1 false (.t 64))⟩,
        ⟨(some 66), none, (.mov (.t 2))⟩,
        ⟨(some 67), none, (.call 10 [(.t 63), (.t 65), (.t 66)])⟩,
        ⟨(some 62), none, (.mov (.t 67))⟩,
        ⟨(some 68), none, (.ext 0 (.t 62))⟩,
        ⟨(some 69), none, (.ext 1 (.t 62))⟩,
        ⟨(some 70), none, (.ext 2 (.t 62))⟩,
        ⟨(some 15), none, (.mov (.t 68))⟩,
        ⟨(some 16), none, (.mov (.t 69))⟩,
        ⟨(some 17), none, (.mov (.t 70))⟩])
     (.seq (.region false [] [
        ⟨(some 72), none, (.mov (.t 9))⟩,
        ⟨(some 73), none, (.fld 0 (.t 14))⟩,
        ⟨(some 74), none, (.load 1 false (.t 73))⟩,
        ⟨(some 75), none, (.mov (.t 2))⟩,
        ⟨(some 76), none, (.mov (.t 3))⟩,
        ⟨(some 77), none, (.bin .add 3 (.t 75) (.t 76))⟩,
        ⟨(some 78), none, (.call 10 [(.t 72), (.t 74), (.t 77)])⟩,
        ⟨(some 71), none, (.mov (.t 78))⟩,
        ⟨(some 79), none, (.ext 0 (.t 71))⟩,
        ⟨(some 80), none, (.ext 1 (.t 71))⟩,
        ⟨(some 81), none, (.ext 2 (.t 71))⟩,
        ⟨(some 18), none, (.mov (.t 79))⟩,
        ⟨(some 19), none, (.mov (.t 80))⟩,
        ⟨(some 20), none, (.mov (.t 81))⟩])
     (.seq (.region false [] [
        ⟨(some 82), none, (.mov (.t 17))⟩,
        ⟨(some 83), none, (.bin .eql 24 (.t 82) (.v (.int .i64 0)))⟩,
        ⟨(some 84), none, (.mov (.t 83))⟩,
        ⟨(some 85), (some (84, true)), (.mov (.t 20))⟩,
        ⟨(some 86), (some (84, true)), (.bin .neq 24 (.t 85) (.v (.int .i64 0)))⟩,
        ⟨(some 87), (some (84, true)), (.mov (.t 86))⟩,
        ⟨(some 88), (some (87, false)), (.mov (.t 15))⟩,
        ⟨(some 89), (some (87, false)), (.mov (.t 18))⟩,
        ⟨(some 90), (some (87, false)), (.bin .neq 3 (.t 88) (.t 89))⟩,
        ⟨(some 91), (some (84, true)), (.pick (.t 87) (.v (.bool true)) (.t 90))⟩,
        ⟨(some 92), (some (84, true)), (.mov (.t 91))⟩,
        ⟨(some 93), (some (92, false)), (.mov (.t 15))⟩,
        ⟨(some 94), (some (92, false)), (.fld 3 (.t 14))⟩,
        ⟨(some 95), (some (92, false)), (.load 1 false (.t 94))⟩,
        ⟨(some 96), (some (92, false)), (.bin .neq 3 (.t 93) (.t 95))⟩,
        ⟨(some 97), (some (84, true)), (.pick (.t 92) (.v (.bool true)) (.t 96))⟩,
        ⟨(some 98), (some (84, true)), (.mov (.t 97))⟩,
        ⟨(some 99), (some (98, false)), (.mov (.t 16))⟩,
        ⟨(some 100), (some (98, false)), (.mov (.t 19))⟩,
        ⟨(some 101), (some (98, false)), (.bin .gtr 3 (.t 99) (.t 100))⟩,
        ⟨(some 102), (some (84, true)), (.pick (.t 98) (.v (.bool true)) (.t 101))⟩,
        ⟨(some 103), (some (84, true)), (.mov (.t 102))⟩,
        ⟨(some 104), (some (103, false)), (.mov (.t 16))⟩,
        ⟨(some 105), (some (103, false)), (.bin .eql 3 (.t 104) (.v (.int .i64 2)))⟩,
        ⟨(some 106), (some (84, true)), (.pick (.t 103) (.v (.bool true)) (.t 105))⟩,
        ⟨(some 107), (some (84, true)), (.mov (.t 106))⟩,
        ⟨(some 108), (some (107, false)), (.mov (.t 16))⟩,
        ⟨(some 109), (some (107, false)), (.bin .eql 3 (.t 108) (.v (.int .i64 0)))⟩,
        ⟨(some 110), (some (107, false)), (.mov (.t 2))⟩,
        ⟨(some 111), (some (107, false)), (.fld 2 (.t 14))⟩,
        ⟨(some 112), (some (107, false)), (.load 1 false (.t 111))⟩,
        ⟨(some 113), (some (107, false)), (.bin .sub 3 (.t 110) (.t 112))⟩,
        ⟨(some 114), (some (107, false)), (.mov (.t 0))⟩,
        ⟨(some 115), (some (107, false)), (.bin .leq 3 (.t 113) (.t 114))⟩,
        ⟨(some 116), (some (107, false)), (.beq true (.t 109) (.t 115))⟩,
        ⟨(some 117), (some (84, true)), (.pick (.t 107) (.v (.bool true)) (.t 116))⟩,
        ⟨(some 118), none, (.pick (.t 84) (.t 117) (.v (.bool false)))⟩])
     (.cond (.t 118)
       (.seq (.region false [] [
          ⟨(some 8), none, (.mov (.v (.bool false)))⟩])
       .ret)
       .skip))))))
    (.region false [] [
       ⟨(some 119), none, (.bin .add 3 (.t 58) (.v (.int .i64 1)))⟩,
       ⟨(some 58), none, (.mov (.t 119))⟩])))))))
  (.seq (.region false [] [
     ⟨(some 120), none, (.call 6 [])⟩,
     ⟨(some 8), none, (.mov (.t 120))⟩])
  .ret)))))))
theorem k3 : FnIs Try.prog 3 121 [.t 8] a3 := ⟨_, _, Try.func3, rfl, by kernel_rfl, by kernel_rfl, rfl⟩

/-- The points after some messages. -/
def stT (age : Int) (l : List Msg) : Tk := l.foldl takD ⟨age, [], []⟩
theorem stT_succ (age : Int) (l : List Msg) {i : Nat} (h : i < l.length) : stT age (l.take (i + 1)) = takD (stT age (l.take i)) l[i] := by
  unfold stT
  rw [take_get h, List.foldl_append]; rfl
structure StOk (age : Int) (l : List Msg) (d : Tk) : Prop where
  ok : TkOk d
  age : d.age = age
  mem : ∀ q ∈ d.ps, q ∈ l ∧ telChk q = 0
theorem takD_age (d : Tk) (m : Msg) : (takD d m).age = d.age := by
  unfold takD
  repeat' split
  all_goals rfl
theorem fold_ok (age : Int) : ∀ (l l0 : List Msg) (d : Tk), StOk age l0 d → StOk age (l0 ++ l) (l.foldl takD d)
  | [], l0, d, h => by rw [List.append_nil]; exact h
  | m :: l, l0, d, h => by
    have h1 : StOk age (l0 ++ [m]) (takD d m) := ⟨h.ok.take m, by rw [takD_age]; exact h.age, fun q hq => by
      rcases takD_mem hq with hq | ⟨rfl, hq⟩
      · exact ⟨List.mem_append_left _ (h.mem q hq).1, (h.mem q hq).2⟩
      · exact ⟨List.mem_append_right _ List.mem_cons_self, hq⟩⟩
    have := fold_ok age l _ _ h1
    rw [List.append_assoc] at this; exact this
theorem stT_ok (age : Int) (l : List Msg) : StOk age l (stT age l) := by
  have h0 : StOk age [] ⟨age, [], []⟩ := ⟨⟨Nat.zero_le _, List.Pairwise.nil, rfl⟩, rfl, fun q hq => by cases hq⟩
  exact fold_ok age l [] _ h0
def factM : Msg := ⟨⟨#[65]⟩, 3, 100, 7⟩
set_option maxRecDepth 20000 in
theorem s6 : Aw.Spec Try.prog 6 [] [] (Gives (· = B true)) := by
  refine Aw.Spec.givesW k6 rfl rfl fun E hn hnp hp => ?_
  unfold a6
  have pin : ∀ r, E.pin r = none := fun r => hp.none hnp (Nat.zero_le _)
  refine AWp.seq (AWp.ofD [] [] hn mixed rfl ?_)
  simp (config := { maxSteps := 2000000 }) only [go_sem, ↓reduceIte, Int.reduceToNat, Nat.reduceMul, Int.reduceBEq, Int.reduceBNe, Nat.reduceBEq, Nat.reduceAdd, Nat.reduceSub, Nat.reduceLeDiff, Nat.reduceEqDiff, Nat.reduceLT, reduceCtorEq]
  refine AWp.seq (AWp.ofD [] [] hn mixed rfl ?_)
  simp (config := { maxSteps := 2000000 }) only [go_sem, ↓reduceIte, Int.reduceToNat, Nat.reduceMul, Int.reduceBEq, Int.reduceBNe, Nat.reduceBEq, Nat.reduceAdd, Nat.reduceSub, Nat.reduceLeDiff, Nat.reduceEqDiff, Nat.reduceLT, reduceCtorEq]
  refine AWpL.callA [] (s5 10 (by decide)) rfl rfl (by rw [hn]; rfl) rfl (fun r hr => by cases hr) fun rg v hv => ?_
  obtain ⟨rfl, rfl⟩ := hv.2 (by decide)
  refine ⟨Nat.zero_le _, AWpL.ofM hn rfl ?_⟩
  simp (config := { maxSteps := 2000000 }) only [go_sem, ↓reduceIte, Int.reduceToNat, Nat.reduceMul, Int.reduceBEq, Int.reduceBNe, Nat.reduceBEq, Nat.reduceAdd, Nat.reduceSub, Nat.reduceLeDiff, Nat.reduceEqDiff, Nat.reduceLT, reduceCtorEq, Aw.retS, Aw.retRg, Aw.kpM, Aw.bkM, Aw.pos, Aw.isBox, List.getElem?_nil]
  refine AWp.weak ((weak_nilbox 0 1 29 4 rfl rfl).trans (weak_nilbox 0 2 3 1 rfl rfl)) ?_
  simp (config := { maxSteps := 2000000 }) only [go_sem, ↓reduceIte, Int.reduceToNat, Nat.reduceMul, Int.reduceBEq, Int.reduceBNe, Nat.reduceBEq, Nat.reduceAdd, Nat.reduceSub, Nat.reduceLeDiff, Nat.reduceEqDiff, Nat.reduceLT, reduceCtorEq]
  refine AWp.ofD [] [] hn mixed rfl ?_
  simp (config := { maxSteps := 2000000 }) only [go_sem, ↓reduceIte, Int.reduceToNat, Nat.reduceMul, Int.reduceBEq, Int.reduceBNe, Nat.reduceBEq, Nat.reduceAdd, Nat.reduceSub, Nat.reduceLeDiff, Nat.reduceEqDiff, Nat.reduceLT, reduceCtorEq]
  (refine AWpL.callA [0, 1, 2] (s7 ⟨10, [], []⟩ factM ⟨Nat.zero_le _, List.Pairwise.nil, rfl⟩ (by decide)) rfl rfl (by rw [hn]; rfl) rfl (fun r hr => .inr (pin r)) fun rg v hv => ?_; obtain ⟨rfl, rfl⟩ := hv; refine ⟨Nat.le_refl _, AWpL.ofM hn rfl ?_⟩)
  have h1 : takA ⟨10, [], []⟩ factM = (true, 0) := by decide +kernel
  have h2 : takD ⟨10, [], []⟩ factM = ⟨10, [factM], [2]⟩ := by
    unfold takD
    have h3 : telChk factM = 0 := by decide +kernel
    have h4 : fdS ([] : List Msg) factM.pt = false := rfl
    rw [if_neg (by rw [h3]; decide), if_pos h4, if_neg (by decide)]
    have h5 : IntKind.i64.wrap (factM.num - 1) = 2 := by decide +kernel
    rw [h5]; rfl
  have hst : Sorted [factM] := List.pairwise_singleton _ _
  simp (config := { maxSteps := 2000000 }) only [go_sem, ↓reduceIte, Int.reduceToNat, Nat.reduceMul, Int.reduceBEq, Int.reduceBNe, Nat.reduceBEq, Nat.reduceAdd, Nat.reduceSub, Nat.reduceLeDiff, Nat.reduceEqDiff, Nat.reduceLT, reduceCtorEq, Aw.retS, Aw.retRg, Aw.kpM, Aw.bkM, Aw.pos, Aw.isBox, h1, h2, tkR]
  have hv1 : valF 10 [factM] ⟨#[65]⟩ 111 = (7, 1, 0) := by decide +kernel
  refine AWpL.calleA (s10 10 none false [factM] (.imm none false 1 ([2].map ic)) ⟨#[65]⟩ 111 (by decide) hst (fun m hm => by cases List.mem_singleton.1 hm; decide)) (by simp (config := { maxSteps := 2000000 }) only [go_sem, ↓reduceIte, Int.reduceToNat, Nat.reduceMul, Int.reduceBEq, Int.reduceBNe, Nat.reduceBEq, Nat.reduceAdd, Nat.reduceSub, Nat.reduceLeDiff, Nat.reduceEqDiff, Nat.reduceLT, reduceCtorEq]) rfl (by rw [hn]; rfl) (by simp (config := { maxSteps := 2000000 }) only [go_sem, ↓reduceIte, Int.reduceToNat, Nat.reduceMul, Int.reduceBEq, Int.reduceBNe, Nat.reduceBEq, Nat.reduceAdd, Nat.reduceSub, Nat.reduceLeDiff, Nat.reduceEqDiff, Nat.reduceLT, reduceCtorEq]) (AWpL.ofM hn rfl ?_)
  rw [hv1]
  simp (config := { maxSteps := 2000000 }) only [go_sem, ↓reduceIte, Int.reduceToNat, Nat.reduceMul, Int.reduceBEq, Int.reduceBNe, Nat.reduceBEq, Nat.reduceAdd, Nat.reduceSub, Nat.reduceLeDiff, Nat.reduceEqDiff, Nat.reduceLT, reduceCtorEq]
theorem cut0 (n : Int) : 0 ≤ cut n 0 1000 ∧ cut n 0 1000 ≤ 1000 := cut_range n 0 1000 (by decide)
/-- What Value answers for a message of the points. -/
theorem valF_mem {age : Int} {ps : List Msg} (hs : Sorted ps) {m : Msg} (hm : m ∈ ps) {now : Int} (h0 : 0 ≤ now ∧ now ≤ 200000) :
    valF age ps m.pt now = if now < m.time then (0, 0, 12) else if age < now - m.time then (m.val, 1, 0) else (m.val, 0, 0) := by
  obtain ⟨h1, h2⟩ := find_mem hs hm
  unfold valF
  rw [if_neg (by omega), if_neg (by rw [h1]; decide), h2]
set_option maxRecDepth 20000 in
set_option maxHeartbeats 2000000 in
theorem s3 (age : Int) (ha : -9223372036854775808 ≤ age ∧ age ≤ 9223372036854775807) (nl fl) (l : List Msg) (hs : ∀ m ∈ l, m.pt.size ≤ 9223372036854775807) (hl63 : l.length ≤ 9223372036854775807) (now later : Int) :
    Aw.Spec Try.prog 3 [] [I age, .imm nl fl 4 (l.map mc), I now, I later] (Gives (· = B true)) := by
  refine Aw.Spec.givesD k3 mixed rfl rfl rfl fun E hn hnp hp => ?_
  unfold a3
  have pin : ∀ r, E.pin r = none := fun r => hp.none hnp (Nat.zero_le _)
  simp (config := { maxSteps := 2000000 }) only [go_sem, ↓reduceIte, Int.reduceToNat, Nat.reduceMul, Int.reduceBEq, Int.reduceBNe, Nat.reduceBEq, Nat.reduceAdd, Nat.reduceSub, Nat.reduceLeDiff, Nat.reduceEqDiff, Nat.reduceLT, reduceCtorEq]
  refine AWpL.callA [] (s5 age ha) rfl rfl (by rw [hn]; rfl) rfl (fun r hr => by cases hr) fun rg v hv => ?_
  refine ⟨Nat.zero_le _, ?_⟩
  by_cases hc : 0 ≤ age ∧ age ≤ 200000
  case neg =>
    obtain ⟨rfl, rfl⟩ := hv.1 hc
    rw [retS_nil]
    refine AWpL.ofM hn rfl ?_
    simp (config := { maxSteps := 2000000 }) only [go_sem, ↓reduceIte, Int.reduceToNat, Nat.reduceMul, Int.reduceBEq, Int.reduceBNe, Nat.reduceBEq, Nat.reduceAdd, Nat.reduceSub, Nat.reduceLeDiff, Nat.reduceEqDiff, Nat.reduceLT, reduceCtorEq, beq_self_eq_true]
    (refine AWpL.calle (s6) rfl (by rw [hn]; rfl) (by simp (config := { maxSteps := 2000000 }) only [go_sem, ↓reduceIte, Int.reduceToNat, Nat.reduceMul, Int.reduceBEq, Int.reduceBNe, Nat.reduceBEq, Nat.reduceAdd, Nat.reduceSub, Nat.reduceLeDiff, Nat.reduceEqDiff, Nat.reduceLT, reduceCtorEq]) (AWpL.ofM hn rfl ?_); simp (config := { maxSteps := 2000000 }) only [go_sem, ↓reduceIte, Int.reduceToNat, Nat.reduceMul, Int.reduceBEq, Int.reduceBNe, Nat.reduceBEq, Nat.reduceAdd, Nat.reduceSub, Nat.reduceLeDiff, Nat.reduceEqDiff, Nat.reduceLT, reduceCtorEq])
  obtain ⟨rfl, rfl⟩ := hv.2 hc
  refine AWpL.ofM hn rfl ?_
  have hmin : ((l.map mc).take (min (l.length : Int) 8).toNat) = (l.take 8).map mc := by
    rw [List.map_take]
    rcases Nat.le_total l.length 8 with h | h
    · rw [List.take_of_length_le (by simp; omega), List.take_of_length_le (by simp; omega)]
    · congr 1; omega
  simp (config := { maxSteps := 2000000 }) only [go_sem, ↓reduceIte, Int.reduceToNat, Nat.reduceMul, Int.reduceBEq, Int.reduceBNe, Nat.reduceBEq, Nat.reduceAdd, Nat.reduceSub, Nat.reduceLeDiff, Nat.reduceEqDiff, Nat.reduceLT, reduceCtorEq, Aw.retS, Aw.retRg, Aw.kpM, Aw.bkM, Aw.pos, Aw.isBox, hmin, List.getElem?_nil]
  (repeat (refine And.intro (by first | omega | (refine ⟨by omega, by omega⟩) | (refine ⟨by omega, by omega, by omega⟩) | (simp only [List.length_map, List.length_range, List.length_append, List.length_cons, List.length_nil, List.length_replicate, List.length_set]; omega) | (simp; omega) | (intro hgd; cases hgd) | (intro hgd; refine ⟨hgd, ?_⟩; first | omega | (refine ⟨by omega, by omega⟩) | (simp; omega))) ?_))
  generalize hH : l.take 8 = M at *
  have hM8 : M.length ≤ 8 := by rw [← hH]; simp; omega
  have hMs : ∀ m ∈ M, m.pt.size ≤ 9223372036854775807 := fun m hm => hs m (List.mem_of_mem_take (by rw [hH]; exact hm))
  refine AWp.weak ((weak_nilbox 0 1 29 4 rfl rfl).trans (weak_nilbox 0 2 3 1 rfl rfl)) ?_
  simp (config := { maxSteps := 2000000 }) only [go_sem, ↓reduceIte, Int.reduceToNat, Nat.reduceMul, Int.reduceBEq, Int.reduceBNe, Nat.reduceBEq, Nat.reduceAdd, Nat.reduceSub, Nat.reduceLeDiff, Nat.reduceEqDiff, Nat.reduceLT, reduceCtorEq]
  refine AWp.loop (fun k s => ∃ i : Nat, i + k = M.length ∧ Weak E s ⟨[(0, I age), (2, I now), (3, I later), (9, .ptr 0 0 0), (41, .imm nl false 4 (M.map mc)), (42, I M.length), (43, I i)], tkR (stT age (M.take i))⟩) (n := M.length)
    ⟨0, by omega, weak_to [0, 1, 2] hp hnp rfl (by simp (config := { maxSteps := 2000000 }) only [go_sem, ↓reduceIte, Int.reduceToNat, Nat.reduceMul, Int.reduceBEq, Int.reduceBNe, Nat.reduceBEq, Nat.reduceAdd, Nat.reduceSub, Nat.reduceLeDiff, Nat.reduceEqDiff, Nat.reduceLT, reduceCtorEq, Aw.pos, Int.natCast_zero]) (by simp (config := { maxSteps := 2000000 }) only [go_sem, ↓reduceIte, Int.reduceToNat, Nat.reduceMul, Int.reduceBEq, Int.reduceBNe, Nat.reduceBEq, Nat.reduceAdd, Nat.reduceSub, Nat.reduceLeDiff, Nat.reduceEqDiff, Nat.reduceLT, reduceCtorEq, Aw.renR, Aw.pos]; rfl)⟩ ?_
  rintro k s ⟨i, hik, hw⟩
  refine AWp.weak hw (AWp.ofD [] [] hn mixed rfl ?_)
  have hok := stT_ok age (M.take i)
  rcases Nat.lt_or_ge i M.length with hlt | hge
  · have e0 : decide ((i : Int) < (M.length : Int)) = true := decide_eq_true (by omega)
    have e1 := getD_map mc hlt
    have e2 : IntKind.i64.wrap ((i : Int) + 1) = ((i + 1 : Nat) : Int) := by rw [w64 (by omega) (by omega)]; omega
    have hsu := stT_succ age M hlt
    have hx := hMs _ (List.getElem_mem hlt)
    generalize M[i] = m at *
    generalize stT age (M.take i) = d at *
    simp (config := { maxSteps := 2000000 }) only [go_sem, ↓reduceIte, Int.reduceToNat, Nat.reduceMul, Int.reduceBEq, Int.reduceBNe, Nat.reduceBEq, Nat.reduceAdd, Nat.reduceSub, Nat.reduceLeDiff, Nat.reduceEqDiff, Nat.reduceLT, reduceCtorEq, e0, e1, tkR]
    (repeat (refine And.intro (by first | omega | (refine ⟨by omega, by omega⟩) | (refine ⟨by omega, by omega, by omega⟩) | (simp only [List.length_map, List.length_range, List.length_append, List.length_cons, List.length_nil, List.length_replicate, List.length_set]; omega) | (simp; omega) | (intro hgd; cases hgd) | (intro hgd; refine ⟨hgd, ?_⟩; first | omega | (refine ⟨by omega, by omega⟩) | (simp; omega))) ?_))
    (refine AWpL.callA [0, 1, 2] (s7 d m hok.ok hx) rfl rfl (by rw [hn]; rfl) rfl (fun r hr => .inr (pin r)) fun rg v hv => ?_; obtain ⟨rfl, rfl⟩ := hv; refine ⟨Nat.le_refl _, AWpL.ofM hn rfl ?_⟩)
    simp (config := { maxSteps := 2000000 }) only [go_sem, ↓reduceIte, Int.reduceToNat, Nat.reduceMul, Int.reduceBEq, Int.reduceBNe, Nat.reduceBEq, Nat.reduceAdd, Nat.reduceSub, Nat.reduceLeDiff, Nat.reduceEqDiff, Nat.reduceLT, reduceCtorEq, Aw.retS, Aw.retRg, Aw.kpM, Aw.bkM, Aw.pos, Aw.isBox, e2]
    exact ⟨k - 1, by omega, i + 1, by omega, weak_to [0, 1, 2] hp hnp rfl (by simp (config := { maxSteps := 2000000 }) only [go_sem, ↓reduceIte, Int.reduceToNat, Nat.reduceMul, Int.reduceBEq, Int.reduceBNe, Nat.reduceBEq, Nat.reduceAdd, Nat.reduceSub, Nat.reduceLeDiff, Nat.reduceEqDiff, Nat.reduceLT, reduceCtorEq, Aw.pos]) (by rw [hsu]; simp (config := { maxSteps := 2000000 }) only [go_sem, ↓reduceIte, Int.reduceToNat, Nat.reduceMul, Int.reduceBEq, Int.reduceBNe, Nat.reduceBEq, Nat.reduceAdd, Nat.reduceSub, Nat.reduceLeDiff, Nat.reduceEqDiff, Nat.reduceLT, reduceCtorEq, Aw.renR, Aw.pos, tkR])⟩
  have e0 : decide ((i : Int) < (M.length : Int)) = false := decide_eq_false (by omega)
  generalize M.take i = M' at *
  generalize stT age M' = d at *
  have hc0 := cut0 now
  have hc1 := cut0 later
  simp (config := { maxSteps := 2000000 }) only [go_sem, ↓reduceIte, Int.reduceToNat, Nat.reduceMul, Int.reduceBEq, Int.reduceBNe, Nat.reduceBEq, Nat.reduceAdd, Nat.reduceSub, Nat.reduceLeDiff, Nat.reduceEqDiff, Nat.reduceLT, reduceCtorEq, e0, tkR]
  (refine AWpL.calle (s8 now 0 1000 (by decide) (by decide) (by decide)) rfl (by rw [hn]; rfl) (by simp (config := { maxSteps := 2000000 }) only [go_sem, ↓reduceIte, Int.reduceToNat, Nat.reduceMul, Int.reduceBEq, Int.reduceBNe, Nat.reduceBEq, Nat.reduceAdd, Nat.reduceSub, Nat.reduceLeDiff, Nat.reduceEqDiff, Nat.reduceLT, reduceCtorEq]) (AWpL.ofM hn rfl ?_); simp (config := { maxSteps := 2000000 }) only [go_sem, ↓reduceIte, Int.reduceToNat, Nat.reduceMul, Int.reduceBEq, Int.reduceBNe, Nat.reduceBEq, Nat.reduceAdd, Nat.reduceSub, Nat.reduceLeDiff, Nat.reduceEqDiff, Nat.reduceLT, reduceCtorEq])
  (refine AWpL.calle (s8 later 0 1000 (by decide) (by decide) (by decide)) rfl (by rw [hn]; rfl) (by simp (config := { maxSteps := 2000000 }) only [go_sem, ↓reduceIte, Int.reduceToNat, Nat.reduceMul, Int.reduceBEq, Int.reduceBNe, Nat.reduceBEq, Nat.reduceAdd, Nat.reduceSub, Nat.reduceLeDiff, Nat.reduceEqDiff, Nat.reduceLT, reduceCtorEq]) (AWpL.ofM hn rfl ?_); simp (config := { maxSteps := 2000000 }) only [go_sem, ↓reduceIte, Int.reduceToNat, Nat.reduceMul, Int.reduceBEq, Int.reduceBNe, Nat.reduceBEq, Nat.reduceAdd, Nat.reduceSub, Nat.reduceLeDiff, Nat.reduceEqDiff, Nat.reduceLT, reduceCtorEq])
  generalize cut now 0 1000 = now' at *
  generalize cut later 0 1000 = later' at *
  (refine AWpL.callA [0, 1, 2] (s9 d hok.ok.few) rfl rfl (by rw [hn]; rfl) rfl (fun r hr => .inr (pin r)) fun rg v hv => ?_; obtain ⟨rfl, rfl⟩ := hv; refine ⟨Nat.le_refl _, AWpL.ofM hn rfl ?_⟩)
  simp (config := { maxSteps := 2000000 }) only [go_sem, ↓reduceIte, Int.reduceToNat, Nat.reduceMul, Int.reduceBEq, Int.reduceBNe, Nat.reduceBEq, Nat.reduceAdd, Nat.reduceSub, Nat.reduceLeDiff, Nat.reduceEqDiff, Nat.reduceLT, reduceCtorEq, Aw.retS, Aw.retRg, Aw.kpM, Aw.bkM, Aw.pos, Aw.isBox, tkR]
  refine AWp.loop (fun k s => ∃ i : Nat, i + k = d.ps.length ∧ Weak E s ⟨[(0, I age), (2, I now'), (3, I later'), (9, .ptr 0 0 0), (56, .imm none false 4 (d.ps.map mc)), (57, I d.ps.length), (58, I i)], tkR d⟩) (n := d.ps.length)
    ⟨0, by omega, weak_to [0, 1, 2] hp hnp rfl (by simp (config := { maxSteps := 2000000 }) only [go_sem, ↓reduceIte, Int.reduceToNat, Nat.reduceMul, Int.reduceBEq, Int.reduceBNe, Nat.reduceBEq, Nat.reduceAdd, Nat.reduceSub, Nat.reduceLeDiff, Nat.reduceEqDiff, Nat.reduceLT, reduceCtorEq, Aw.pos, Int.natCast_zero]) (by simp (config := { maxSteps := 2000000 }) only [go_sem, ↓reduceIte, Int.reduceToNat, Nat.reduceMul, Int.reduceBEq, Int.reduceBNe, Nat.reduceBEq, Nat.reduceAdd, Nat.reduceSub, Nat.reduceLeDiff, Nat.reduceEqDiff, Nat.reduceLT, reduceCtorEq, Aw.renR, Aw.pos])⟩ ?_
  clear hw
  rintro k s ⟨i, hik, hw⟩
  refine AWp.weak hw (AWp.ofD [] [] hn mixed rfl ?_)
  have h24 := hok.ok.few
  rcases Nat.lt_or_ge i d.ps.length with hlt | hge
  · have e0 : decide ((i : Int) < (d.ps.length : Int)) = true := decide_eq_true (by omega)
    have e1 := getD_map mc hlt
    have e2 : IntKind.i64.wrap ((i : Int) + 1) = ((i + 1 : Nat) : Int) := by rw [w64 (by omega) (by omega)]; omega
    have hm := List.getElem_mem hlt
    have hti : ∀ m ∈ d.ps, 0 ≤ m.time ∧ m.time ≤ 200000 := fun m hm => (telChk_ok (hok.mem m hm).2).2.2.2
    have hv1 := valF_mem (age := d.age) hok.ok.sor hm (now := now') (by omega)
    have hv2 := valF_mem (age := d.age) hok.ok.sor hm (now := now' + later') (by omega)
    have htm := hti _ hm
    rw [hok.age] at hv1 hv2
    generalize d.ps[i] = m at *
    have e3 : IntKind.i64.wrap (now' + later') = now' + later' := w64 (by omega) (by omega)
    have e4 : IntKind.i64.wrap (now' - m.time) = now' - m.time := w64 (by omega) (by omega)
    have htk : (d.ps.map mc).take d.ps.length = d.ps.map mc := List.take_of_length_le (by simp)
    have hage := hok.age
    simp (config := { maxSteps := 2000000 }) only [go_sem, ↓reduceIte, Int.reduceToNat, Nat.reduceMul, Int.reduceBEq, Int.reduceBNe, Nat.reduceBEq, Nat.reduceAdd, Nat.reduceSub, Nat.reduceLeDiff, Nat.reduceEqDiff, Nat.reduceLT, reduceCtorEq, e0, e1, tkR]
    (repeat (refine And.intro (by first | omega | (refine ⟨by omega, by omega⟩) | (refine ⟨by omega, by omega, by omega⟩) | (simp only [List.length_map, List.length_range, List.length_append, List.length_cons, List.length_nil, List.length_replicate, List.length_set]; omega) | (simp; omega) | (intro hgd; cases hgd) | (intro hgd; refine ⟨hgd, ?_⟩; first | omega | (refine ⟨by omega, by omega⟩) | (simp; omega))) ?_))
    refine AWpL.calleA (s10 d.age none false d.ps (.imm none false 1 ((d.sk.map ic).take d.sk.length)) m.pt now' (by omega) hok.ok.sor hti) (by simp (config := { maxSteps := 2000000 }) only [go_sem, ↓reduceIte, Int.reduceToNat, Nat.reduceMul, Int.reduceBEq, Int.reduceBNe, Nat.reduceBEq, Nat.reduceAdd, Nat.reduceSub, Nat.reduceLeDiff, Nat.reduceEqDiff, Nat.reduceLT, reduceCtorEq, htk]) rfl (by rw [hn]; rfl) (by simp (config := { maxSteps := 2000000 }) only [go_sem, ↓reduceIte, Int.reduceToNat, Nat.reduceMul, Int.reduceBEq, Int.reduceBNe, Nat.reduceBEq, Nat.reduceAdd, Nat.reduceSub, Nat.reduceLeDiff, Nat.reduceEqDiff, Nat.reduceLT, reduceCtorEq, List.length_map]; omega) (AWpL.ofM hn rfl ?_)
    simp (config := { maxSteps := 2000000 }) only [go_sem, ↓reduceIte, Int.reduceToNat, Nat.reduceMul, Int.reduceBEq, Int.reduceBNe, Nat.reduceBEq, Nat.reduceAdd, Nat.reduceSub, Nat.reduceLeDiff, Nat.reduceEqDiff, Nat.reduceLT, reduceCtorEq, e3]
    refine AWpL.calleA (s10 d.age none false d.ps (.imm none false 1 ((d.sk.map ic).take d.sk.length)) m.pt (now' + later') (by omega) hok.ok.sor hti) (by simp (config := { maxSteps := 2000000 }) only [go_sem, ↓reduceIte, Int.reduceToNat, Nat.reduceMul, Int.reduceBEq, Int.reduceBNe, Nat.reduceBEq, Nat.reduceAdd, Nat.reduceSub, Nat.reduceLeDiff, Nat.reduceEqDiff, Nat.reduceLT, reduceCtorEq, htk]) rfl (by rw [hn]; rfl) (by simp (config := { maxSteps := 2000000 }) only [go_sem, ↓reduceIte, Int.reduceToNat, Nat.reduceMul, Int.reduceBEq, Int.reduceBNe, Nat.reduceBEq, Nat.reduceAdd, Nat.reduceSub, Nat.reduceLeDiff, Nat.reduceEqDiff, Nat.reduceLT, reduceCtorEq, List.length_map]; omega) (AWpL.ofM hn rfl ?_)
    have d1 : decide ((1 : Int) > 1) = false := rfl
    have d2 : decide ((0 : Int) > 1) = false := rfl
    have d3 : decide ((0 : Int) > 0) = false := rfl
    by_cases c1 : now' < m.time
    · rw [if_pos c1] at hv1
      rw [hage, hv1, hv2]
      simp (config := { maxSteps := 2000000 }) only [go_sem, ↓reduceIte, Int.reduceToNat, Nat.reduceMul, Int.reduceBEq, Int.reduceBNe, Nat.reduceBEq, Nat.reduceAdd, Nat.reduceSub, Nat.reduceLeDiff, Nat.reduceEqDiff, Nat.reduceLT, reduceCtorEq, e2]
      exact ⟨k - 1, by omega, i + 1, by omega, weak_to [0, 1, 2] hp hnp rfl (by simp (config := { maxSteps := 2000000 }) only [go_sem, ↓reduceIte, Int.reduceToNat, Nat.reduceMul, Int.reduceBEq, Int.reduceBNe, Nat.reduceBEq, Nat.reduceAdd, Nat.reduceSub, Nat.reduceLeDiff, Nat.reduceEqDiff, Nat.reduceLT, reduceCtorEq, Aw.pos]) (by simp (config := { maxSteps := 2000000 }) only [go_sem, ↓reduceIte, Int.reduceToNat, Nat.reduceMul, Int.reduceBEq, Int.reduceBNe, Nat.reduceBEq, Nat.reduceAdd, Nat.reduceSub, Nat.reduceLeDiff, Nat.reduceEqDiff, Nat.reduceLT, reduceCtorEq, Aw.renR, Aw.pos, tkR, hage])⟩
    rw [if_neg c1] at hv1
    rw [if_neg (by omega)] at hv2
    by_cases c2 : age < now' - m.time
    · rw [if_pos c2] at hv1
      rw [if_pos (by omega)] at hv2
      have e5 : decide (now' - m.time ≤ age) = false := decide_eq_false (by omega)
      rw [hage, hv1, hv2]
      simp (config := { maxSteps := 2000000 }) only [go_sem, ↓reduceIte, Int.reduceToNat, Nat.reduceMul, Int.reduceBEq, Int.reduceBNe, Nat.reduceBEq, Nat.reduceAdd, Nat.reduceSub, Nat.reduceLeDiff, Nat.reduceEqDiff, Nat.reduceLT, reduceCtorEq, e2, e4, e5, d1, d2, d3]
      exact ⟨k - 1, by omega, i + 1, by omega, weak_to [0, 1, 2] hp hnp rfl (by simp (config := { maxSteps := 2000000 }) only [go_sem, ↓reduceIte, Int.reduceToNat, Nat.reduceMul, Int.reduceBEq, Int.reduceBNe, Nat.reduceBEq, Nat.reduceAdd, Nat.reduceSub, Nat.reduceLeDiff, Nat.reduceEqDiff, Nat.reduceLT, reduceCtorEq, Aw.pos]) (by simp (config := { maxSteps := 2000000 }) only [go_sem, ↓reduceIte, Int.reduceToNat, Nat.reduceMul, Int.reduceBEq, Int.reduceBNe, Nat.reduceBEq, Nat.reduceAdd, Nat.reduceSub, Nat.reduceLeDiff, Nat.reduceEqDiff, Nat.reduceLT, reduceCtorEq, Aw.renR, Aw.pos, tkR, hage])⟩
    rw [if_neg c2] at hv1
    have e5 : decide (now' - m.time ≤ age) = true := decide_eq_true (by omega)
    by_cases c3 : age < now' + later' - m.time
    · rw [if_pos c3] at hv2
      rw [hage, hv1, hv2]
      simp (config := { maxSteps := 2000000 }) only [go_sem, ↓reduceIte, Int.reduceToNat, Nat.reduceMul, Int.reduceBEq, Int.reduceBNe, Nat.reduceBEq, Nat.reduceAdd, Nat.reduceSub, Nat.reduceLeDiff, Nat.reduceEqDiff, Nat.reduceLT, reduceCtorEq, e2, e4, e5, d1, d2, d3]
      exact ⟨k - 1, by omega, i + 1, by omega, weak_to [0, 1, 2] hp hnp rfl (by simp (config := { maxSteps := 2000000 }) only [go_sem, ↓reduceIte, Int.reduceToNat, Nat.reduceMul, Int.reduceBEq, Int.reduceBNe, Nat.reduceBEq, Nat.reduceAdd, Nat.reduceSub, Nat.reduceLeDiff, Nat.reduceEqDiff, Nat.reduceLT, reduceCtorEq, Aw.pos]) (by simp (config := { maxSteps := 2000000 }) only [go_sem, ↓reduceIte, Int.reduceToNat, Nat.reduceMul, Int.reduceBEq, Int.reduceBNe, Nat.reduceBEq, Nat.reduceAdd, Nat.reduceSub, Nat.reduceLeDiff, Nat.reduceEqDiff, Nat.reduceLT, reduceCtorEq, Aw.renR, Aw.pos, tkR, hage])⟩
    rw [if_neg c3] at hv2
    rw [hage, hv1, hv2]
    simp (config := { maxSteps := 2000000 }) only [go_sem, ↓reduceIte, Int.reduceToNat, Nat.reduceMul, Int.reduceBEq, Int.reduceBNe, Nat.reduceBEq, Nat.reduceAdd, Nat.reduceSub, Nat.reduceLeDiff, Nat.reduceEqDiff, Nat.reduceLT, reduceCtorEq, e2, e4, e5, d1, d2, d3]
    exact ⟨k - 1, by omega, i + 1, by omega, weak_to [0, 1, 2] hp hnp rfl (by simp (config := { maxSteps := 2000000 }) only [go_sem, ↓reduceIte, Int.reduceToNat, Nat.reduceMul, Int.reduceBEq, Int.reduceBNe, Nat.reduceBEq, Nat.reduceAdd, Nat.reduceSub, Nat.reduceLeDiff, Nat.reduceEqDiff, Nat.reduceLT, reduceCtorEq, Aw.pos]) (by simp (config := { maxSteps := 2000000 }) only [go_sem, ↓reduceIte, Int.reduceToNat, Nat.reduceMul, Int.reduceBEq, Int.reduceBNe, Nat.reduceBEq, Nat.reduceAdd, Nat.reduceSub, Nat.reduceLeDiff, Nat.reduceEqDiff, Nat.reduceLT, reduceCtorEq, Aw.renR, Aw.pos, tkR, hage])⟩
  · have e0 : decide ((i : Int) < (d.ps.length : Int)) = false := decide_eq_false (by omega)
    simp (config := { maxSteps := 2000000 }) only [go_sem, ↓reduceIte, Int.reduceToNat, Nat.reduceMul, Int.reduceBEq, Int.reduceBNe, Nat.reduceBEq, Nat.reduceAdd, Nat.reduceSub, Nat.reduceLeDiff, Nat.reduceEqDiff, Nat.reduceLT, reduceCtorEq, e0]
    (refine AWpL.calle (s6) rfl (by rw [hn]; rfl) (by simp (config := { maxSteps := 2000000 }) only [go_sem, ↓reduceIte, Int.reduceToNat, Nat.reduceMul, Int.reduceBEq, Int.reduceBNe, Nat.reduceBEq, Nat.reduceAdd, Nat.reduceSub, Nat.reduceLeDiff, Nat.reduceEqDiff, Nat.reduceLT, reduceCtorEq]) (AWpL.ofM hn rfl ?_); simp (config := { maxSteps := 2000000 }) only [go_sem, ↓reduceIte, Int.reduceToNat, Nat.reduceMul, Int.reduceBEq, Int.reduceBNe, Nat.reduceBEq, Nat.reduceAdd, Nat.reduceSub, Nat.reduceLeDiff, Nat.reduceEqDiff, Nat.reduceLT, reduceCtorEq])
end Go.Proofs.Ytfbddidlipeegaa
