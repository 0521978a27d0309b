/- Forecasts: the law of smoothing. -/
import Derived.Test.YtjaakbkneeojnaaDoorAwZl
import Derived.Test.YtjaakbkneeojnaaDoorFcaL
set_option linter.unusedVariables false
set_option linter.unusedSimpArgs false
namespace Go.Proofs.YtjaakbkneeojnaaDoor
open Go.Proofs.YtjaakbkneeojnaaDoor.Aw
attribute [local go_sem] Int.natCast_zero Int.natCast_one bne_self_eq_false beq_self_eq_true Bool.not_true Bool.not_false Option.isSome_none Option.isSome_some Aw.bkM_nil Option.getD_some Option.getD_none Nat.sub_zero Int.toNat_zero Aw.frzS Aw.frzT Aw.frzA Aw.frzL Aw.frzR Aw.frzO Aw.frzOL Aw.frzOT Aw.frzOR Aw.killS Aw.mapT Aw.mapR Aw.killM Aw.resAVs Aw.resAV Aw.quietOps Aw.wpP Aw.wpT Aw.wpS Aw.AOp.mild List.getElem?_cons_zero List.getElem?_cons_succ Bool.and_false Bool.and_self Bool.false_and Aw.opOb Aw.gdB Aw.Rnd Aw.subTm List.length_map Int.toNat_natCast and_self Aw.SeqC Aw.stops Aw.Ends Aw.looks Aw.renA Aw.renL Aw.renT Aw.renS Aw.wpO Aw.aop Aw.putTm Aw.St.ev Aw.St.put Aw.St.putO Aw.binAV Aw.intBin Aw.strBin Aw.pickAV Aw.optInt Aw.AV.strip Aw.AV.guard Aw.AV.cells Aw.gdOb Aw.AOp.opds Aw.AOp.still Aw.ptrCells Aw.St.reg Aw.fillAV Aw.fillOb Aw.elsOb Aw.splice Aw.firm Aw.cellish Aw.AV.shut Aw.shutAll Aw.Seq Aw.Blk Aw.retS_nil Aw.mapA Aw.mapL Aw.borA Aw.borOb Aw.allOb Aw.tupOf Aw.params Aw.Opd.of Array.toList Value.cells List.map_cons List.map_nil List.getD_cons_zero List.getD_cons_succ List.getD_nil List.length_cons List.length_nil List.take_succ_cons List.take_zero List.take_nil List.drop_zero List.drop_succ_cons List.drop_nil List.set_cons_zero List.set_cons_succ List.append_nil List.nil_append List.cons_append List.all_cons List.all_nil cond_false cond_true if_true if_false true_and and_true Bool.and_true Bool.true_and Option.map_some Option.map_none false_implies forall_const implies_true forall_eq imp_self Bool.cond_false_right Bool.cond_true_left beq_true beq_false Bool.not_eq_true' Bool.false_eq_true Nat.zero_add Nat.add_zero Aw.eqCells Aw.stopDraw Aw.skipS Aw.exactCap Aw.revealS Aw.srcEls Aw.srcSz
attribute [local go_sem ↓] Aw.look_nil Aw.look_ite Aw.wpL_nil Aw.wpL_op Aw.wpL_gd Aw.wpQ_nil Aw.wpQ_op Aw.wpQ_gd Aw.wpC_draw Aw.wpC_reg Aw.wpC_skip Aw.wpC_ret Aw.wpC_exit Aw.wpC_seq Aw.wpC_block Aw.wpC_loop Aw.wpC_cond Aw.stopAt_nil Aw.stopAt_cons Aw.wpD_skip Aw.wpD_ret Aw.wpD_exit Aw.wpD_region Aw.wpD_draw Aw.wpM_nil Aw.wpM_op Aw.wpM_gd Aw.wpD_seq Aw.wpD_block Aw.wpD_loop Aw.wpD_cond
/- slices.Min[[]int,int] -/
def a36 : ACode :=
  (.seq (.region false [] [
     ⟨(some 2), none, (.mov (.v (.int .i64 0)))⟩])
  (.seq (.seq (.region false [] [
     ⟨(some 5), none, (.mov (.t 0))⟩,
     ⟨(some 6), none, (.len (.t 5))⟩,
     ⟨(some 7), none, (.bin .lss 3 (.t 6) (.v (.int .i64 1)))⟩])
  (.cond (.t 7)
    (.region false [] [
       ⟨(some 8), none, (.bad none [])⟩,
       ⟨none, none, (.bad none [])⟩])
    .skip))
  (.seq (.region false [] [
     ⟨(some 9), none, (.mov (.t 0))⟩,
     ⟨(some 10), none, (.idx 1 (.t 9) (.v (.int .i64 0)))⟩,
     ⟨(some 11), none, (.load 1 false (.t 10))⟩,
     ⟨(some 3), none, (.mov (.t 11))⟩])
  (.seq (.seq (.region false [] [
     ⟨(some 4), none, (.mov (.v (.int .i64 1)))⟩])
  (.block 0 (.loop (.seq (.seq (.region false [] [
       ⟨(some 12), none, (.mov (.t 4))⟩,
       ⟨(some 13), none, (.mov (.t 0))⟩,
       ⟨(some 14), none, (.len (.t 13))⟩,
       ⟨(some 15), none, (.bin .lss 3 (.t 12) (.t 14))⟩])
    (.cond (.t 15)
      .skip
      (.exit 0)))
    (.seq (.block 1 (.region false [] [
        ⟨(some 18), none, (.mov (.t 3))⟩,
        ⟨(some 19), none, (.mov (.t 0))⟩,
        ⟨(some 20), none, (.mov (.t 4))⟩,
        ⟨(some 21), none, (.idx 1 (.t 19) (.t 20))⟩,
        ⟨(some 22), none, (.load 1 false (.t 21))⟩,
        ⟨(some 23), none, (.mni (.t 18) (.t 22))⟩,
        ⟨(some 3), none, (.mov (.t 23))⟩]))
    (.region false [] [
       ⟨(some 16), none, (.mov (.t 4))⟩,
       ⟨(some 17), none, (.bin .add 3 (.t 16) (.v (.int .i64 1)))⟩,
       ⟨(some 4), none, (.mov (.t 17))⟩]))))))
  (.seq (.region false [] [
     ⟨(some 24), none, (.mov (.t 3))⟩,
     ⟨(some 2), none, (.mov (.t 24))⟩])
  .ret)))))
theorem k36 : FnIs Tryd.prog 36 25 [.t 2] a36 := ⟨_, _, Tryd.func36, rfl, by kernel_rfl, by kernel_rfl, rfl⟩
/- slices.Max[[]int,int] -/
def a37 : ACode :=
  (.seq (.region false [] [
     ⟨(some 2), none, (.mov (.v (.int .i64 0)))⟩])
  (.seq (.seq (.region false [] [
     ⟨(some 5), none, (.mov (.t 0))⟩,
     ⟨(some 6), none, (.len (.t 5))⟩,
     ⟨(some 7), none, (.bin .lss 3 (.t 6) (.v (.int .i64 1)))⟩])
  (.cond (.t 7)
    (.region false [] [
       ⟨(some 8), none, (.bad none [])⟩,
       ⟨none, none, (.bad none [])⟩])
    .skip))
  (.seq (.region false [] [
     ⟨(some 9), none, (.mov (.t 0))⟩,
     ⟨(some 10), none, (.idx 1 (.t 9) (.v (.int .i64 0)))⟩,
     ⟨(some 11), none, (.load 1 false (.t 10))⟩,
     ⟨(some 3), none, (.mov (.t 11))⟩])
  (.seq (.seq (.region false [] [
     ⟨(some 4), none, (.mov (.v (.int .i64 1)))⟩])
  (.block 0 (.loop (.seq (.seq (.region false [] [
       ⟨(some 12), none, (.mov (.t 4))⟩,
       ⟨(some 13), none, (.mov (.t 0))⟩,
       ⟨(some 14), none, (.len (.t 13))⟩,
       ⟨(some 15), none, (.bin .lss 3 (.t 12) (.t 14))⟩])
    (.cond (.t 15)
      .skip
      (.exit 0)))
    (.seq (.block 1 (.region false [] [
        ⟨(some 18), none, (.mov (.t 3))⟩,
        ⟨(some 19), none, (.mov (.t 0))⟩,
        ⟨(some 20), none, (.mov (.t 4))⟩,
        ⟨(some 21), none, (.idx 1 (.t 19) (.t 20))⟩,
        ⟨(some 22), none, (.load 1 false (.t 21))⟩,
        ⟨(some 23), none, (.mxi (.t 18) (.t 22))⟩,
        ⟨(some 3), none, (.mov (.t 23))⟩]))
    (.region false [] [
       ⟨(some 16), none, (.mov (.t 4))⟩,
       ⟨(some 17), none, (.bin .add 3 (.t 16) (.v (.int .i64 1)))⟩,
       ⟨(some 4), none, (.mov (.t 17))⟩]))))))
  (.seq (.region false [] [
     ⟨(some 24), none, (.mov (.t 3))⟩,
     ⟨(some 2), none, (.mov (.t 24))⟩])
  .ret)))))
theorem k37 : FnIs Tryd.prog 37 25 [.t 2] a37 := ⟨_, _, Tryd.func37, rfl, by kernel_rfl, by kernel_rfl, rfl⟩
/- gridhall/gridhallkeep4.ForecastSmooths -/
def a11 : ACode :=
  (.seq (.region false [] [
     ⟨(some 6), none, (.mov (.v (.bool false)))⟩])
  (.seq (.region false [] [
     ⟨(some 25), none, (.mov (.t 0))⟩,
     ⟨(some 26), none, (.mov (.t 0))⟩,
     ⟨(some 27), none, (.len (.t 26))⟩,
     ⟨(some 28), none, (.mni (.t 27) (.v (.int .i64 20)))⟩,
     ⟨(some 29), none, (.slc 1 (.t 25) none (some (.t 28)) none)⟩,
     ⟨(some 0), none, (.mov (.t 29))⟩])
  (.seq (.region false [] [
     ⟨(some 31), none, (.mov (.t 0))⟩,
     ⟨(some 32), none, (.mov (.t 1))⟩,
     ⟨(some 33), none, (.mov (.t 2))⟩,
     ⟨(some 34), none, (.call 35 [(.t 31), (.t 32), (.t 33)])⟩,
     ⟨(some 30), none, (.mov (.t 34))⟩,
     ⟨(some 35), none, (.ext 0 (.t 30))⟩,
     ⟨(some 36), none, (.ext 1 (.t 30))⟩,
     ⟨(some 7), none, (.mov (.t 35))⟩,
     ⟨(some 8), none, (.mov (.t 36))⟩])
  (.seq (.seq (.region false [] [
     ⟨(some 37), none, (.mov (.t 8))⟩,
     ⟨(some 38), none, (.bin .neq 25 (.t 37) (.v (.int .i64 0)))⟩])
  (.cond (.t 38)
    (.seq (.region false [] [
       ⟨(some 39), none, (.call 24 [])⟩,
       ⟨(some 40), none, (.mov (.t 39))⟩,
       ⟨(some 41), (some (40, true)), (.mov (.t 7))⟩,
       ⟨(some 42), (some (40, true)), (.bin .eql 22 (.t 41) (.v (.string ⟨#[]⟩)))⟩,
       ⟨(some 43), none, (.pick (.t 40) (.t 42) (.v (.bool false)))⟩,
       ⟨(some 6), none, (.mov (.t 43))⟩])
    .ret)
    .skip))
  (.seq (.region false [] [
     ⟨(some 45), none, (.mov (.t 0))⟩,
     ⟨(some 46), none, (.call 35 [(.t 45), (.v (.int .i64 0)), (.v (.int .i64 1))])⟩,
     ⟨(some 44), none, (.mov (.t 46))⟩,
     ⟨(some 47), none, (.ext 0 (.t 44))⟩,
     ⟨(some 48), none, (.ext 1 (.t 44))⟩,
     ⟨(some 9), none, (.mov (.t 47))⟩,
     ⟨(some 10), none, (.mov (.t 48))⟩])
  (.seq (.region false [] [
     ⟨(some 50), none, (.mov (.t 0))⟩,
     ⟨(some 51), none, (.call 35 [(.t 50), (.v (.int .i64 7)), (.v (.int .i64 7))])⟩,
     ⟨(some 49), none, (.mov (.t 51))⟩,
     ⟨(some 52), none, (.ext 0 (.t 49))⟩,
     ⟨(some 53), none, (.ext 1 (.t 49))⟩,
     ⟨(some 11), none, (.mov (.t 52))⟩,
     ⟨(some 12), none, (.mov (.t 53))⟩])
  (.seq (.seq (.region false [] [
     ⟨(some 54), none, (.mov (.t 10))⟩,
     ⟨(some 55), none, (.bin .neq 25 (.t 54) (.v (.int .i64 0)))⟩,
     ⟨(some 56), none, (.mov (.t 55))⟩,
     ⟨(some 57), (some (56, false)), (.mov (.t 12))⟩,
     ⟨(some 58), (some (56, false)), (.bin .neq 25 (.t 57) (.v (.int .i64 0)))⟩,
     ⟨(some 59), none, (.pick (.t 56) (.v (.bool true)) (.t 58))⟩,
     ⟨(some 60), none, (.mov (.t 59))⟩,
     ⟨(some 61), (some (60, false)), (.mov (.t 0))⟩,
     ⟨(some 62), (some (60, false)), (.len (.t 61))⟩,
     ⟨(some 63), (some (60, false)), (.bin .eql 3 (.t 62) (.v (.int .i64 0)))⟩,
     ⟨(some 64), none, (.pick (.t 60) (.v (.bool true)) (.t 63))⟩])
  (.cond (.t 64)
    (.seq (.region false [] [
       ⟨(some 6), none, (.mov (.v (.bool false)))⟩])
    .ret)
    .skip))
  (.seq (.region false [] [
     ⟨(some 66), none, (.mov (.t 0))⟩,
     ⟨(some 67), none, (.call 36 [(.t 66)])⟩,
     ⟨(some 68), none, (.call 20 [(.t 67), (.v (.int .i64 1))])⟩,
     ⟨(some 65), none, (.mov (.t 68))⟩,
     ⟨(some 69), none, (.ext 0 (.t 65))⟩,
     ⟨(some 70), none, (.ext 1 (.t 65))⟩,
     ⟨(some 13), none, (.mov (.t 69))⟩,
     ⟨(some 14), none, (.mov (.t 70))⟩])
  (.seq (.region false [] [
     ⟨(some 72), none, (.mov (.t 0))⟩,
     ⟨(some 73), none, (.call 37 [(.t 72)])⟩,
     ⟨(some 74), none, (.call 20 [(.t 73), (.v (.int .i64 1))])⟩,
     ⟨(some 71), none, (.mov (.t 74))⟩,
     ⟨(some 75), none, (.ext 0 (.t 71))⟩,
     ⟨(some 76), none, (.ext 1 (.t 71))⟩,
     ⟨(some 15), none, (.mov (.t 75))⟩,
     ⟨(some 16), none, (.mov (.t 76))⟩])
  (.seq (.region false [] [
     ⟨(some 78), none, (.mov (.t 0))⟩,
     ⟨(some 79), none, (.idx 1 (.t 78) (.v (.int .i64 0)))⟩,
     ⟨(some 80), none, (.load 1 false (.t 79))⟩,
     ⟨(some 81), none, (.call 20 [(.t 80), (.v (.int .i64 1))])⟩,
     ⟨(some 77), none, (.mov (.t 81))⟩,
     ⟨(some 82), none, (.ext 0 (.t 77))⟩,
     ⟨(some 83), none, (.ext 1 (.t 77))⟩,
     ⟨(some 17), none, (.mov (.t 82))⟩,
     ⟨(some 18), none, (.mov (.t 83))⟩])
  (.seq (.region false [] [
     ⟨(some 85), none, (.mov (.t 0))⟩,
     ⟨(some 86), none, (.mov (.t 0))⟩,
     ⟨(some 87), none, (.len (.t 86))⟩,
     ⟨(some 88), none, (.bin .sub 3 (.t 87) (.v (.int .i64 1)))⟩,
     ⟨(some 89), none, (.idx 1 (.t 85) (.t 88))⟩,
     ⟨(some 90), none, (.load 1 false (.t 89))⟩,
     ⟨(some 91), none, (.call 20 [(.t 90), (.v (.int .i64 1))])⟩,
     ⟨(some 84), none, (.mov (.t 91))⟩,
     ⟨(some 92), none, (.ext 0 (.t 84))⟩,
     ⟨(some 93), none, (.ext 1 (.t 84))⟩,
     ⟨(some 19), none, (.mov (.t 92))⟩,
     ⟨(some 20), none, (.mov (.t 93))⟩])
  (.seq (.region false [] [
     ⟨(some 95), none, (.mov (.t 7))⟩,
     ⟨(some 96), none, (.mov (.t 13))⟩,
     ⟨(some 97), none, (.call 38 [(.t 95), (.t 96)])⟩,
     ⟨(some 94), none, (.mov (.t 97))⟩,
     ⟨(some 98), none, (.ext 0 (.t 94))⟩,
     ⟨(some 99), none, (.ext 1 (.t 94))⟩,
     ⟨(some 21), none, (.mov (.t 98))⟩,
     ⟨(some 22), none, (.mov (.t 99))⟩])
  (.seq (.region false [] [
     ⟨(some 101), none, (.mov (.t 7))⟩,
     ⟨(some 102), none, (.mov (.t 15))⟩,
     ⟨(some 103), none, (.call 38 [(.t 101), (.t 102)])⟩,
     ⟨(some 100), none, (.mov (.t 103))⟩,
     ⟨(some 104), none, (.ext 0 (.t 100))⟩,
     ⟨(some 105), none, (.ext 1 (.t 100))⟩,
     ⟨(some 23), none, (.mov (.t 104))⟩,
     ⟨(some 24), none, (.mov (.t 105))⟩])
  (.seq (.region false [] [
     ⟨(some 106), none, (.call 24 [])⟩,
     ⟨(some 107), none, (.mov (.t 106))⟩,
     ⟨(some 108), (some (107, true)), (.mov (.t 14))⟩,
     ⟨(some 109), (some (107, true)), (.bin .eql 25 (.t 108) (.v (.int .i64 0)))⟩,
     ⟨(some 110), none, (.pick (.t 107) (.t 109) (.v (.bool false)))⟩,
     ⟨(some 111), none, (.mov (.t 110))⟩,
     ⟨(some 112), (some (111, true)), (.mov (.t 16))⟩,
     ⟨(some 113), (some (111, true)), (.bin .eql 25 (.t 112) (.v (.int .i64 0)))⟩,
     ⟨(some 114), none, (.pick (.t 111) (.t 113) (.v (.bool false)))⟩,
     ⟨(some 115), none, (.mov (.t 114))⟩,
     ⟨(some 116), (some (115, true)), (.mov (.t 18))⟩,
     ⟨(some 117), (some (115, true)), (.bin .eql 25 (.t 116) (.v (.int .i64 0)))⟩,
     ⟨(some 118), none, (.pick (.t 115) (.t 117) (.v (.bool false)))⟩,
     ⟨(some 119), none, (.mov (.t 118))⟩,
     ⟨(some 120), (some (119, true)), (.mov (.t 20))⟩,
     ⟨(some 121), (some (119, true)), (.bin .eql 25 (.t 120) (.v (.int .i64 0)))⟩,
     ⟨(some 122), none, (.pick (.t 119) (.t 121) (.v (.bool false)))⟩,
     ⟨(some 123), none, (.mov (.t 122))⟩,
     ⟨(some 124), (some (123, true)), (.mov (.t 22))⟩,
     ⟨(some 125), (some (123, true)), (.bin .eql 25 (.t 124) (.v (.int .i64 0)))⟩,
     ⟨(some 126), none, (.pick (.t 123) (.t 125) (.v (.bool false)))⟩,
     ⟨(some 127), none, (.mov (.t 126))⟩,
     ⟨(some 128), (some (127, true)), (.mov (.t 24))⟩,
     ⟨(some 129), (some (127, true)), (.bin .eql 25 (.t 128) (.v (.int .i64 0)))⟩,
     ⟨(some 130), none, (.pick (.t 127) (.t 129) (.v (.bool false)))⟩,
     ⟨(some 131), none, (.mov (.t 130))⟩,
     ⟨(some 132), (some (131, true)), (.mov (.t 9))⟩,
     ⟨(some 133), (some (131, true)), (.mov (.t 17))⟩,
     ⟨(some 134), (some (131, true)), (.bin .eql 22 (.t 132) (.t 133))⟩,
     ⟨(some 135), none, (.pick (.t 131) (.t 134) (.v (.bool false)))⟩,
     ⟨(some 136), none, (.mov (.t 135))⟩,
     ⟨(some 137), (some (136, true)), (.mov (.t 11))⟩,
     ⟨(some 138), (some (136, true)), (.mov (.t 19))⟩,
     ⟨(some 139), (some (136, true)), (.bin .eql 22 (.t 137) (.t 138))⟩,
     ⟨(some 140), none, (.pick (.t 136) (.t 139) (.v (.bool false)))⟩,
     ⟨(some 141), none, (.mov (.t 140))⟩,
     ⟨(some 142), (some (141, true)), (.mov (.t 21))⟩,
     ⟨(some 143), (some (141, true)), (.bin .geq 3 (.t 142) (.v (.int .i64 0)))⟩,
     ⟨(some 144), none, (.pick (.t 141) (.t 143) (.v (.bool false)))⟩,
     ⟨(some 145), none, (.mov (.t 144))⟩,
     ⟨(some 146), (some (145, true)), (.mov (.t 23))⟩,
     ⟨(some 147), (some (145, true)), (.bin .leq 3 (.t 146) (.v (.int .i64 0)))⟩,
     ⟨(some 148), none, (.pick (.t 145) (.t 147) (.v (.bool false)))⟩,
     ⟨(some 6), none, (.mov (.t 148))⟩])
  .ret))))))))))))))
theorem k11 : FnIs Tryd.prog 11 149 [.t 6] a11 := ⟨_, _, Tryd.func11, rfl, by kernel_rfl, by kernel_rfl, rfl⟩

/-- The least one of the first values. -/
def minT (l : List Int) : Nat → Int
  | 0 => l.getD 0 0
  | i + 1 => min (minT l i) (l.getD i 0)
def maxT (l : List Int) : Nat → Int
  | 0 => l.getD 0 0
  | i + 1 => max (maxT l i) (l.getD i 0)
theorem getD_get {l : List Int} {i : Nat} (h : i < l.length) : l.getD i 0 = l[i] := by rw [List.getD_eq_getElem?_getD, List.getElem?_eq_getElem h]; rfl
theorem minT_le {l : List Int} : ∀ {i j : Nat}, j < i → minT l i ≤ l.getD j 0
  | 0, _, h => by omega
  | i + 1, j, h => by
    rw [minT]
    rcases Nat.lt_or_ge j i with h2 | h2
    · have := minT_le (l := l) h2; omega
    · have : j = i := by omega
      subst this; omega
theorem maxT_ge {l : List Int} : ∀ {i j : Nat}, j < i → l.getD j 0 ≤ maxT l i
  | 0, _, h => by omega
  | i + 1, j, h => by
    rw [maxT]
    rcases Nat.lt_or_ge j i with h2 | h2
    · have := maxT_ge (l := l) h2; omega
    · have : j = i := by omega
      subst this; omega
theorem minT_rng {l : List Int} (hv : valsOk l) (h0 : 0 < l.length) : ∀ {i : Nat}, i ≤ l.length → -100000 ≤ minT l i ∧ minT l i ≤ 100000
  | 0, _ => by rw [minT, getD_get h0]; exact hv _ (List.getElem_mem h0)
  | i + 1, h => by
    have h1 := minT_rng hv h0 (i := i) (by omega)
    have h2 := hv _ (List.getElem_mem (show i < l.length by omega))
    rw [minT, getD_get (by omega)]
    omega
theorem maxT_rng {l : List Int} (hv : valsOk l) (h0 : 0 < l.length) : ∀ {i : Nat}, i ≤ l.length → -100000 ≤ maxT l i ∧ maxT l i ≤ 100000
  | 0, _ => by rw [maxT, getD_get h0]; exact hv _ (List.getElem_mem h0)
  | i + 1, h => by
    have h1 := maxT_rng hv h0 (i := i) (by omega)
    have h2 := hv _ (List.getElem_mem (show i < l.length by omega))
    rw [maxT, getD_get (by omega)]
    omega
theorem s36 (nl' fl) (l : List Int) (h0 : 0 < l.length) (hl : l.length ≤ 9223372036854775807) : Aw.Spec Tryd.prog 36 [] [ints nl' fl l] (Gives (· = I (minT l l.length))) := by
  refine Aw.Spec.givesD k36 mixed rfl rfl rfl fun E hn hnp hp => ?_
  unfold a36
  simp (config := { maxSteps := 2000000 }) only [go_sem, ↓reduceIte, Int.reduceToNat, Nat.reduceMul, Int.reduceBEq, Int.reduceBNe, Nat.reduceBEq, Nat.reduceAdd, Nat.reduceSub, Nat.reduceLeDiff, Nat.reduceEqDiff, Nat.reduceLT, reduceCtorEq]
  have e1 := getD_map icn h0
  have e2 : minT l 1 = l[0] := by rw [minT, minT, getD_get h0]; exact Int.min_self _
  refine ⟨fun h => absurd (of_decide_eq_true h) (by omega), fun h => ?_⟩
  simp (config := { maxSteps := 2000000 }) only [go_sem, ↓reduceIte, Int.reduceToNat, Nat.reduceMul, Int.reduceBEq, Int.reduceBNe, Nat.reduceBEq, Nat.reduceAdd, Nat.reduceSub, Nat.reduceLeDiff, Nat.reduceEqDiff, Nat.reduceLT, reduceCtorEq, e1]
  (repeat (refine And.intro (by first | omega | (refine ⟨by omega, by omega⟩) | (refine ⟨by omega, by omega, by omega⟩) | (simp only [List.length_map, List.length_range, List.length_append, List.length_cons, List.length_nil, List.length_replicate, List.length_set]; omega) | (simp; omega) | (intro hgd; cases hgd) | (intro hgd; refine ⟨hgd, ?_⟩; first | omega | (refine ⟨by omega, by omega⟩) | (simp; omega))) ?_))
  refine AWp.loop (fun k s => ∃ i : Nat, i + k = l.length ∧ 1 ≤ i ∧ Weak E s ⟨[(0, ints nl' fl l), (3, I (minT l i)), (4, I i)], []⟩) (n := l.length - 1)
    ⟨1, by omega, Nat.le_refl 1, weak_to [] hp hnp rfl (by simp (config := { maxSteps := 2000000 }) only [go_sem, ↓reduceIte, Int.reduceToNat, Nat.reduceMul, Int.reduceBEq, Int.reduceBNe, Nat.reduceBEq, Nat.reduceAdd, Nat.reduceSub, Nat.reduceLeDiff, Nat.reduceEqDiff, Nat.reduceLT, reduceCtorEq, e2] <;> rfl) rfl⟩ ?_
  rintro k s ⟨i, hi, h1, hw⟩
  refine AWp.weak hw (AWp.ofD [] [] hn mixed rfl ?_)
  rcases Nat.lt_or_ge i l.length with hlt | hge
  · have d0 : decide ((i : Int) < (l.length : Int)) = true := decide_eq_true (by omega)
    have d1 := getD_map icn hlt
    have d2 : IntKind.i64.wrap ((i : Int) + 1) = ((i + 1 : Nat) : Int) := by rw [w64 (by omega) (by omega)]; rfl
    have d3 : min (minT l i) l[i] = minT l (i + 1) := by rw [minT, getD_get hlt]
    simp (config := { maxSteps := 2000000 }) only [go_sem, ↓reduceIte, Int.reduceToNat, Nat.reduceMul, Int.reduceBEq, Int.reduceBNe, Nat.reduceBEq, Nat.reduceAdd, Nat.reduceSub, Nat.reduceLeDiff, Nat.reduceEqDiff, Nat.reduceLT, reduceCtorEq, d0, d1, d2, d3]
    (repeat (refine And.intro (by first | omega | (refine ⟨by omega, by omega⟩) | (refine ⟨by omega, by omega, by omega⟩) | (simp only [List.length_map, List.length_range, List.length_append, List.length_cons, List.length_nil, List.length_replicate, List.length_set]; omega) | (simp; omega) | (intro hgd; cases hgd) | (intro hgd; refine ⟨hgd, ?_⟩; first | omega | (refine ⟨by omega, by omega⟩) | (simp; omega))) ?_))
    exact ⟨k - 1, by omega, i + 1, by omega, by omega, weak_to [] hp hnp rfl (by simp (config := { maxSteps := 2000000 }) only [go_sem, ↓reduceIte, Int.reduceToNat, Nat.reduceMul, Int.reduceBEq, Int.reduceBNe, Nat.reduceBEq, Nat.reduceAdd, Nat.reduceSub, Nat.reduceLeDiff, Nat.reduceEqDiff, Nat.reduceLT, reduceCtorEq, d2, d3]) rfl⟩
  · have d0 : decide ((i : Int) < (l.length : Int)) = false := decide_eq_false (by omega)
    have hi2 : i = l.length := by omega
    subst hi2
    simp (config := { maxSteps := 2000000 }) only [go_sem, ↓reduceIte, Int.reduceToNat, Nat.reduceMul, Int.reduceBEq, Int.reduceBNe, Nat.reduceBEq, Nat.reduceAdd, Nat.reduceSub, Nat.reduceLeDiff, Nat.reduceEqDiff, Nat.reduceLT, reduceCtorEq, d0]

theorem s37 (nl' fl) (l : List Int) (h0 : 0 < l.length) (hl : l.length ≤ 9223372036854775807) : Aw.Spec Tryd.prog 37 [] [ints nl' fl l] (Gives (· = I (maxT l l.length))) := by
  refine Aw.Spec.givesD k37 mixed rfl rfl rfl fun E hn hnp hp => ?_
  unfold a37
  simp (config := { maxSteps := 2000000 }) only [go_sem, ↓reduceIte, Int.reduceToNat, Nat.reduceMul, Int.reduceBEq, Int.reduceBNe, Nat.reduceBEq, Nat.reduceAdd, Nat.reduceSub, Nat.reduceLeDiff, Nat.reduceEqDiff, Nat.reduceLT, reduceCtorEq]
  have e1 := getD_map icn h0
  have e2 : maxT l 1 = l[0] := by rw [maxT, maxT, getD_get h0]; exact Int.max_self _
  refine ⟨fun h => absurd (of_decide_eq_true h) (by omega), fun h => ?_⟩
  simp (config := { maxSteps := 2000000 }) only [go_sem, ↓reduceIte, Int.reduceToNat, Nat.reduceMul, Int.reduceBEq, Int.reduceBNe, Nat.reduceBEq, Nat.reduceAdd, Nat.reduceSub, Nat.reduceLeDiff, Nat.reduceEqDiff, Nat.reduceLT, reduceCtorEq, e1]
  (repeat (refine And.intro (by first | omega | (refine ⟨by omega, by omega⟩) | (refine ⟨by omega, by omega, by omega⟩) | (simp only [List.length_map, List.length_range, List.length_append, List.length_cons, List.length_nil, List.length_replicate, List.length_set]; omega) | (simp; omega) | (intro hgd; cases hgd) | (intro hgd; refine ⟨hgd, ?_⟩; first | omega | (refine ⟨by omega, by omega⟩) | (simp; omega))) ?_))
  refine AWp.loop (fun k s => ∃ i : Nat, i + k = l.length ∧ 1 ≤ i ∧ Weak E s ⟨[(0, ints nl' fl l), (3, I (maxT l i)), (4, I i)], []⟩) (n := l.length - 1)
    ⟨1, by omega, Nat.le_refl 1, weak_to [] hp hnp rfl (by simp (config := { maxSteps := 2000000 }) only [go_sem, ↓reduceIte, Int.reduceToNat, Nat.reduceMul, Int.reduceBEq, Int.reduceBNe, Nat.reduceBEq, Nat.reduceAdd, Nat.reduceSub, Nat.reduceLeDiff, Nat.reduceEqDiff, Nat.reduceLT, reduceCtorEq, e2] <;> rfl) rfl⟩ ?_
  rintro k s ⟨i, hi, h1, hw⟩
  refine AWp.weak hw (AWp.ofD [] [] hn mixed rfl ?_)
  rcases Nat.lt_or_ge i l.length with hlt | hge
  · have d0 : decide ((i : Int) < (l.length : Int)) = true := decide_eq_true (by omega)
    have d1 := getD_map icn hlt
    have d2 : IntKind.i64.wrap ((i : Int) + 1) = ((i + 1 : Nat) : Int) := by rw [w64 (by omega) (by omega)]; rfl
    have d3 : max (maxT l i) l[i] = maxT l (i + 1) := by rw [maxT, getD_get hlt]
    simp (config := { maxSteps := 2000000 }) only [go_sem, ↓reduceIte, Int.reduceToNat, Nat.reduceMul, Int.reduceBEq, Int.reduceBNe, Nat.reduceBEq, Nat.reduceAdd, Nat.reduceSub, Nat.reduceLeDiff, Nat.reduceEqDiff, Nat.reduceLT, reduceCtorEq, d0, d1, d2, d3]
    (repeat (refine And.intro (by first | omega | (refine ⟨by omega, by omega⟩) | (refine ⟨by omega, by omega, by omega⟩) | (simp only [List.length_map, List.length_range, List.length_append, List.length_cons, List.length_nil, List.length_replicate, List.length_set]; omega) | (simp; omega) | (intro hgd; cases hgd) | (intro hgd; refine ⟨hgd, ?_⟩; first | omega | (refine ⟨by omega, by omega⟩) | (simp; omega))) ?_))
    exact ⟨k - 1, by omega, i + 1, by omega, by omega, weak_to [] hp hnp rfl (by simp (config := { maxSteps := 2000000 }) only [go_sem, ↓reduceIte, Int.reduceToNat, Nat.reduceMul, Int.reduceBEq, Int.reduceBNe, Nat.reduceBEq, Nat.reduceAdd, Nat.reduceSub, Nat.reduceLeDiff, Nat.reduceEqDiff, Nat.reduceLT, reduceCtorEq, d2, d3]) rfl⟩
  · have d0 : decide ((i : Int) < (l.length : Int)) = false := decide_eq_false (by omega)
    have hi2 : i = l.length := by omega
    subst hi2
    simp (config := { maxSteps := 2000000 }) only [go_sem, ↓reduceIte, Int.reduceToNat, Nat.reduceMul, Int.reduceBEq, Int.reduceBNe, Nat.reduceBEq, Nat.reduceAdd, Nat.reduceSub, Nat.reduceLeDiff, Nat.reduceEqDiff, Nat.reduceLT, reduceCtorEq, d0]

theorem smI_ge {p q lo : Int} (ha : smArg p q) : ∀ (l : List Int) (x : Int × Int), 0 < x.2 → lo * x.2 ≤ x.1 → (∀ v ∈ l, lo ≤ v) → 0 < (smI p q x l).2 ∧ lo * (smI p q x l).2 ≤ (smI p q x l).1
  | [], x, h1, h2, _ => ⟨h1, h2⟩
  | v :: l, (N, D), h1, h2, h3 => by
    obtain ⟨a1, a2, a3, a4⟩ := ha
    have hv := h3 v List.mem_cons_self
    rw [smI]
    refine smI_ge ⟨a1, a2, a3, a4⟩ l _ (Int.mul_pos h1 (by omega)) ?_ fun w hw => h3 w (List.mem_cons_of_mem _ hw)
    show lo * (D * q) ≤ N * (q - p) + p * v * D
    dsimp only at h1 h2
    have e1 : lo * D * (q - p) ≤ N * (q - p) := Int.mul_le_mul_of_nonneg_right h2 (by omega)
    have e3 : p * D * lo ≤ p * D * v := Int.mul_le_mul_of_nonneg_left hv (Int.mul_nonneg a3 (by omega))
    have e5 : p * v * D = p * D * v := by rw [Int.mul_assoc, Int.mul_comm v D, ← Int.mul_assoc]
    rw [e5]
    grind
theorem smI_le {p q hi : Int} (ha : smArg p q) : ∀ (l : List Int) (x : Int × Int), 0 < x.2 → x.1 ≤ hi * x.2 → (∀ v ∈ l, v ≤ hi) → (smI p q x l).1 ≤ hi * (smI p q x l).2
  | [], x, h1, h2, _ => h2
  | v :: l, (N, D), h1, h2, h3 => by
    obtain ⟨a1, a2, a3, a4⟩ := ha
    have hv := h3 v List.mem_cons_self
    rw [smI]
    refine smI_le ⟨a1, a2, a3, a4⟩ l _ (Int.mul_pos h1 (by omega)) ?_ fun w hw => h3 w (List.mem_cons_of_mem _ hw)
    show N * (q - p) + p * v * D ≤ hi * (D * q)
    dsimp only at h1 h2
    have e1 : N * (q - p) ≤ hi * D * (q - p) := Int.mul_le_mul_of_nonneg_right h2 (by omega)
    have e3 : p * D * v ≤ p * D * hi := Int.mul_le_mul_of_nonneg_left hv (Int.mul_nonneg a3 (by omega))
    have e5 : p * v * D = p * D * v := by rw [Int.mul_assoc, Int.mul_comm v D, ← Int.mul_assoc]
    rw [e5]
    grind
theorem smI_ok {p q : Int} (ha : smArg p q) : ∀ (l : List Int) (i : Nat) (x : Int × Int), SmOk i x → (∀ v ∈ l, -100000 ≤ v ∧ v ≤ 100000) → SmOk (i + l.length) (smI p q x l)
  | [], i, x, h, _ => h
  | v :: l, i, x, h, hv => by
    rw [smI, List.length_cons, show i + (l.length + 1) = (i + 1) + l.length by omega]
    exact smI_ok ha l (i + 1) _ (smOk_step ha h (hv v List.mem_cons_self)) fun w hw => hv w (List.mem_cons_of_mem _ hw)
theorem smV_ok {l : List Int} {p q : Int} (ha : smArg p q) (hv : valsOk l) (h0 : 0 < l.length) (h48 : l.length ≤ 48) : SmOk (l.length - 1) (smV l p q) := by
  cases l with
  | nil => cases h0
  | cons x0 t =>
    have hx0 := hv x0 List.mem_cons_self
    have := smI_ok ha t 0 (x0, 1) ⟨by show (0 : Int) < 1; decide, by show (1 : Int) ≤ 10 ^ (3 * 0); decide, by show -(100000 * 1) ≤ x0; omega, by show x0 ≤ 100000 * 1; omega⟩ fun v h => hv v (List.mem_cons_of_mem _ h)
    rw [Nat.zero_add] at this
    exact this
theorem smR_fits {l : List Int} {p q : Int} (ha : smArg p q) (hv : valsOk l) (h0 : 0 < l.length) (h48 : l.length ≤ 48) : fitsR (smR l p q) := by
  have h := smV_ok ha hv h0 h48
  obtain ⟨n1, n2⟩ := smOk_nl (by omega) h
  exact frac_fits h.1 (Nat.le_trans n1 (by decide)) (Nat.le_trans n2 (by decide))
theorem div_ge {N D lo : Int} (hD : 0 < D) (h : lo * D ≤ N) : (lo : Rat) ≤ (N : Rat) / (D : Rat) := by
  have hd : (0 : Rat) < (D : Rat) := Rat.intCast_pos.2 hD
  have h2 : (lo : Rat) * (D : Rat) ≤ (N : Rat) := by rw [← Rat.intCast_mul]; exact Rat.intCast_le_intCast.2 h
  apply Rat.not_lt.1
  intro h3
  rw [Rat.div_lt_iff hd] at h3
  grind
theorem div_le' {N D hi : Int} (hD : 0 < D) (h : N ≤ hi * D) : (N : Rat) / (D : Rat) ≤ (hi : Rat) := by
  have hd : (0 : Rat) < (D : Rat) := Rat.intCast_pos.2 hD
  have h2 : (N : Rat) ≤ (hi : Rat) * (D : Rat) := by rw [← Rat.intCast_mul]; exact Rat.intCast_le_intCast.2 h
  have hne : (D : Rat) ≠ 0 := cast_ne (by omega)
  apply Rat.not_lt.1
  intro h3
  have h4 := Rat.mul_lt_mul_of_pos_right h3 hd
  have h5 : (N : Rat) / (D : Rat) * (D : Rat) = (N : Rat) := by grind
  rw [h5] at h4
  grind
theorem smR_ge {l : List Int} {p q lo : Int} (ha : smArg p q) (h0 : 0 < l.length) (h : ∀ v ∈ l, lo ≤ v) : (lo : Rat) ≤ smR l p q := by
  cases l with
  | nil => cases h0
  | cons x0 t =>
    obtain ⟨h1, h2⟩ := smI_ge ha t (x0, 1) (by show (0 : Int) < 1; decide) (by show lo * 1 ≤ x0; have := h x0 List.mem_cons_self; omega) fun v hv => h v (List.mem_cons_of_mem _ hv)
    exact div_ge h1 h2
theorem smR_le {l : List Int} {p q hi : Int} (ha : smArg p q) (h0 : 0 < l.length) (h : ∀ v ∈ l, v ≤ hi) : smR l p q ≤ (hi : Rat) := by
  cases l with
  | nil => cases h0
  | cons x0 t =>
    have h1 := (smI_ge (lo := x0 - 1 - (t.foldl (fun a v => a + v.natAbs) 0 : Nat)) ha [] (x0, 1) (by show (0 : Int) < 1; decide) (by show _ * 1 ≤ x0; omega) fun v hv => by cases hv).1
    have h2 := smI_le ha t (x0, 1) (by show (0 : Int) < 1; decide) (by show x0 ≤ hi * 1; have := h x0 List.mem_cons_self; omega) fun v hv => h v (List.mem_cons_of_mem _ hv)
    have h3 : ∀ (l : List Int) (x : Int × Int), 0 < x.2 → 0 < (smI p q x l).2 := fun l => by
      induction l with
      | nil => exact fun x hx => hx
      | cons v l ih => exact fun x hx => ih _ (Int.mul_pos hx (by have := ha.1; omega))
    exact div_le' (h3 t (x0, 1) (by show (0 : Int) < 1; decide)) h2
/-- The factor 0: the first value. -/
theorem smI_zero : ∀ (l : List Int) (x : Int × Int), smI 0 1 x l = x
  | [], x => rfl
  | v :: l, (N, D) => by
    rw [smI, show (N * (1 - 0) + 0 * v * D, D * 1) = (N, D) by simp]
    exact smI_zero l _
theorem one_div' (x : Int) : ((x : Int) : Rat) / ((1 : Int) : Rat) = (x : Rat) := by rw [show ((1 : Int) : Rat) = 1 from rfl]; grind
theorem smR_first {l : List Int} (h0 : 0 < l.length) : smR l 0 1 = ((l[0] : Int) : Rat) := by
  cases l with
  | nil => cases h0
  | cons x0 t =>
    unfold smR smV
    rw [smI_zero]
    exact one_div' x0
/-- The factor 1: the last value. -/
theorem smI_one : ∀ (l : List Int) (x : Int × Int), 0 < x.2 → x.1 = x.1 → ∀ v, 0 < (smI 7 7 x (l ++ [v])).2 ∧ (smI 7 7 x (l ++ [v])).1 = v * (smI 7 7 x (l ++ [v])).2
  | [], (N, D), h, _, v => by
    show 0 < D * 7 ∧ N * (7 - 7) + 7 * v * D = v * (D * 7)
    dsimp only at h
    refine ⟨by omega, ?_⟩
    grind
  | w :: l, (N, D), h, _, v => by
    rw [List.cons_append, smI]
    exact smI_one l _ (Int.mul_pos h (by decide)) rfl v
theorem div_of {N D v : Int} (hD : 0 < D) (h : N = v * D) : (N : Rat) / (D : Rat) = (v : Rat) := by
  have hne : (D : Rat) ≠ 0 := cast_ne (by omega)
  rw [h, Rat.intCast_mul]
  grind
theorem smR_last {l : List Int} (h0 : l.length - 1 < l.length) : smR l 7 7 = ((l[l.length - 1] : Int) : Rat) := by
  have hne : l ≠ [] := fun h => by rw [h] at h0; cases h0
  have e := List.getLast_eq_getElem hne
  rw [← e]
  cases l with
  | nil => exact absurd rfl hne
  | cons x0 t =>
    rcases List.eq_nil_or_concat t with rfl | ⟨t', v, ht⟩
    · exact one_div' x0
    · rw [List.concat_eq_append] at ht
      subst ht
      obtain ⟨h1, h2⟩ := smI_one t' (x0, 1) (by show (0 : Int) < 1; decide) rfl v
      have h3 : (x0 :: (t' ++ [v])).getLast hne = v := by
        show ((x0 :: t') ++ [v]).getLast _ = v
        exact List.getLast_concat
      rw [h3]
      exact div_of h1 h2
theorem cmp_txt {r s : Rat} (hr : fitsR r) (hs : fitsR s) : cmpQ (txtR r) (txtR s) = (if r - s = 0 then 0 else if r - s < 0 then -1 else 1, 0) := by
  obtain ⟨h1, h2⟩ := txt_ok hr
  obtain ⟨h3, h4⟩ := txt_ok hs
  unfold inR at h2 h4
  unfold cmpQ
  rw [if_neg (by rw [checkAll2 h1 h3]; simp), sign_r (sub_can (in_can h1) (in_can h3)), sub_r, h2, h4]
theorem cmp_ge {r s : Rat} (hr : fitsR r) (hs : fitsR s) (h : s ≤ r) : ∃ c, cmpQ (txtR r) (txtR s) = (c, 0) ∧ 0 ≤ c := by
  rw [cmp_txt hr hs]
  refine ⟨_, rfl, ?_⟩
  split
  · decide
  · rw [if_neg (by grind)]; decide
theorem cmp_le {r s : Rat} (hr : fitsR r) (hs : fitsR s) (h : r ≤ s) : ∃ c, cmpQ (txtR r) (txtR s) = (c, 0) ∧ c ≤ 0 := by
  rw [cmp_txt hr hs]
  refine ⟨_, rfl, ?_⟩
  split
  · decide
  · rw [if_pos (by grind)]; decide
theorem smoothS_bad {l : List Int} {p q : Int} (h : (smoothS l p q).2 ≠ 0) : (smoothS l p q).1 = [] := by
  unfold smoothS at h ⊢
  split
  · rfl
  · rename_i h1
    rw [if_neg h1] at h
    split
    · rename_i h2
      rw [if_pos h2] at h
      split
      · rfl
      · rename_i h3
        rw [if_neg h3] at h
        exact absurd rfl h
    · rfl
theorem smoothS_ok {l : List Int} {p q : Int} (h : (smoothS l p q).2 = 0) : checkV l = 0 ∧ smArg p q ∧ 0 < l.length := by
  unfold smoothS at h
  split at h
  · rename_i h1; exact absurd h h1
  · rename_i h1
    split at h
    · rename_i h2
      split at h
      · cases h
      · rename_i h3
        exact ⟨by simpa using h1, h2, by omega⟩
    · cases h
theorem smoothS_eq {l : List Int} {p q : Int} (h1 : checkV l = 0) (h2 : smArg p q) (h3 : 0 < l.length) : smoothS l p q = (txtR (smR l p q), 0) := by
  unfold smoothS
  rw [if_neg (by simp [h1]), if_pos h2, if_neg (by omega)]
set_option maxRecDepth 20000 in
set_option maxHeartbeats 1000000 in
theorem s11 (nl' fl) (l : List Int) (p q : Int) (hl : l.length ≤ 9223372036854775807) : Aw.Spec Tryd.prog 11 [] [ints nl' fl l, I p, I q] (Gives (· = B true)) := by
  refine Spec.shut (Post := fun rg v => v = B true) ?_ fun rg v h => by subst h; exact ⟨rfl, rfl, rfl⟩
  refine Aw.Spec.regsW k11 rfl rfl fun E hn hnp hp => ?_
  unfold a11
  have pin : ∀ r, E.pin r = none := fun r => hp.none hnp (Nat.zero_le _)
  refine AWp.ofD [] [] hn mixed rfl ?_
  have hcut := cut_map icn l 20
  have hcut : List.take (min (l.length : Int) 20).toNat (l.map icn) = (l.take 20).map icn := hcut
  have hv20 : (l.take 20).length ≤ 20 := by rw [List.length_take]; omega
  simp (config := { maxSteps := 2000000 }) only [go_sem, ↓reduceIte, Int.reduceToNat, Nat.reduceMul, Int.reduceBEq, Int.reduceBNe, Nat.reduceBEq, Nat.reduceAdd, Nat.reduceSub, Nat.reduceLeDiff, Nat.reduceEqDiff, Nat.reduceLT, reduceCtorEq, hcut]
  generalize l.take 20 = v at *
  clear hcut
  refine ⟨by omega, ?_⟩
  (refine AWpL.calle (s35 nl' false v p q (by omega)) rfl (by rw [hn]; rfl) (by simp (config := { maxSteps := 2000000 }) only [go_sem, ↓reduceIte, Int.reduceToNat, Nat.reduceMul, Int.reduceBEq, Int.reduceBNe, Nat.reduceBEq, Nat.reduceAdd, Nat.reduceSub, Nat.reduceLeDiff, Nat.reduceEqDiff, Nat.reduceLT, reduceCtorEq]) (AWpL.ofM hn rfl ?_); simp (config := { maxSteps := 2000000 }) only [go_sem, ↓reduceIte, Int.reduceToNat, Nat.reduceMul, Int.reduceBEq, Int.reduceBNe, Nat.reduceBEq, Nat.reduceAdd, Nat.reduceSub, Nat.reduceLeDiff, Nat.reduceEqDiff, Nat.reduceLT, reduceCtorEq])
  refine ⟨fun h => ?_, fun h => ?_⟩
  · have h0 : (smoothS v p q).2 ≠ 0 := by simpa using h
    rw [smoothS_bad h0]
    (refine AWpL.calle (s24) rfl (by rw [hn]; rfl) (by simp (config := { maxSteps := 2000000 }) only [go_sem, ↓reduceIte, Int.reduceToNat, Nat.reduceMul, Int.reduceBEq, Int.reduceBNe, Nat.reduceBEq, Nat.reduceAdd, Nat.reduceSub, Nat.reduceLeDiff, Nat.reduceEqDiff, Nat.reduceLT, reduceCtorEq]) (AWpL.ofM hn rfl ?_); simp (config := { maxSteps := 2000000 }) only [go_sem, ↓reduceIte, Int.reduceToNat, Nat.reduceMul, Int.reduceBEq, Int.reduceBNe, Nat.reduceBEq, Nat.reduceAdd, Nat.reduceSub, Nat.reduceLeDiff, Nat.reduceEqDiff, Nat.reduceLT, reduceCtorEq])
    have e1 : (bA []).toList == (⟨#[]⟩ : ByteArray).toList := by rw [bA_toList, Lib.toList_data]; rfl
    simp (config := { maxSteps := 2000000 }) only [go_sem, ↓reduceIte, Int.reduceToNat, Nat.reduceMul, Int.reduceBEq, Int.reduceBNe, Nat.reduceBEq, Nat.reduceAdd, Nat.reduceSub, Nat.reduceLeDiff, Nat.reduceEqDiff, Nat.reduceLT, reduceCtorEq, e1]
    refine Retn.ret (π := []) hp hnp ⟨rfl, ?_⟩
    simp (config := { maxSteps := 2000000 }) only [go_sem, ↓reduceIte, Int.reduceToNat, Nat.reduceMul, Int.reduceBEq, Int.reduceBNe, Nat.reduceBEq, Nat.reduceAdd, Nat.reduceSub, Nat.reduceLeDiff, Nat.reduceEqDiff, Nat.reduceLT, reduceCtorEq]
  have h0 : (smoothS v p q).2 = 0 := by simpa using h
  obtain ⟨c0, ha, hlen⟩ := smoothS_ok h0
  obtain ⟨h48, hv⟩ := checkV_ok c0
  rw [smoothS_eq c0 ha hlen]
  have a01 : smArg 0 1 := by decide
  have a77 : smArg 7 7 := by decide
  refine AWpL.calle (s35 nl' false v 0 1 (by omega)) rfl (by rw [hn]; rfl) (by simp (config := { maxSteps := 2000000 }) only [go_sem, ↓reduceIte, Int.reduceToNat, Nat.reduceMul, Int.reduceBEq, Int.reduceBNe, Nat.reduceBEq, Nat.reduceAdd, Nat.reduceSub, Nat.reduceLeDiff, Nat.reduceEqDiff, Nat.reduceLT, reduceCtorEq]) (AWpL.ofM hn rfl ?_)
  rw [smoothS_eq c0 a01 hlen]
  simp (config := { maxSteps := 2000000 }) only [go_sem, ↓reduceIte, Int.reduceToNat, Nat.reduceMul, Int.reduceBEq, Int.reduceBNe, Nat.reduceBEq, Nat.reduceAdd, Nat.reduceSub, Nat.reduceLeDiff, Nat.reduceEqDiff, Nat.reduceLT, reduceCtorEq]
  refine AWpL.calle (s35 nl' false v 7 7 (by omega)) rfl (by rw [hn]; rfl) (by simp (config := { maxSteps := 2000000 }) only [go_sem, ↓reduceIte, Int.reduceToNat, Nat.reduceMul, Int.reduceBEq, Int.reduceBNe, Nat.reduceBEq, Nat.reduceAdd, Nat.reduceSub, Nat.reduceLeDiff, Nat.reduceEqDiff, Nat.reduceLT, reduceCtorEq]) (AWpL.ofM hn rfl ?_)
  rw [smoothS_eq c0 a77 hlen]
  have z1 : ((v.length : Int) == 0) = false := by rw [beq_eq_false_iff_ne]; omega
  simp (config := { maxSteps := 2000000 }) only [go_sem, ↓reduceIte, Int.reduceToNat, Nat.reduceMul, Int.reduceBEq, Int.reduceBNe, Nat.reduceBEq, Nat.reduceAdd, Nat.reduceSub, Nat.reduceLeDiff, Nat.reduceEqDiff, Nat.reduceLT, reduceCtorEq, z1]
  have hmn := minT_rng hv hlen (Nat.le_refl _)
  have hmx := maxT_rng hv hlen (Nat.le_refl _)
  obtain ⟨o1, f1⟩ := of_int (minT v v.length) (by omega) (by omega)
  obtain ⟨o2, f2⟩ := of_int (maxT v v.length) (by omega) (by omega)
  have hlast : v.length - 1 < v.length := by omega
  have hb0 := hv v[0] (List.getElem_mem hlen)
  have hb1 := hv v[v.length - 1] (List.getElem_mem hlast)
  obtain ⟨o3, f3⟩ := of_int v[0] (by omega) (by omega)
  obtain ⟨o4, f4⟩ := of_int v[v.length - 1] (by omega) (by omega)
  have fs := smR_fits ha hv hlen h48
  have hge : ∀ x ∈ v, minT v v.length ≤ x := fun x hx => by
    obtain ⟨i, hi, rfl⟩ := List.getElem_of_mem hx
    rw [← getD_get hi]
    exact minT_le hi
  have hle : ∀ x ∈ v, x ≤ maxT v v.length := fun x hx => by
    obtain ⟨i, hi, rfl⟩ := List.getElem_of_mem hx
    rw [← getD_get hi]
    exact maxT_ge hi
  obtain ⟨c1, hc1, hc1'⟩ := cmp_ge fs f1 (smR_ge ha hlen hge)
  obtain ⟨c2, hc2, hc2'⟩ := cmp_le fs f2 (smR_le ha hlen hle)
  have hfirst := smR_first hlen
  have hlst := smR_last hlast
  have g0 := getD_map icn hlen
  have g1 := getD_map icn hlast
  have w1 : IntKind.i64.wrap ((v.length : Int) - 1) = ((v.length - 1 : Nat) : Int) := by rw [w64 (by omega) (by omega)]; omega
  rw [hfirst, hlst]
  generalize hlo : minT v v.length = lo at *
  generalize hhi : maxT v v.length = hi at *
  generalize smR v p q = r at *
  refine AWpL.calle (s36 nl' false v hlen (by omega)) rfl (by rw [hn]; rfl) (by simp (config := { maxSteps := 2000000 }) only [go_sem, ↓reduceIte, Int.reduceToNat, Nat.reduceMul, Int.reduceBEq, Int.reduceBNe, Nat.reduceBEq, Nat.reduceAdd, Nat.reduceSub, Nat.reduceLeDiff, Nat.reduceEqDiff, Nat.reduceLT, reduceCtorEq]) (AWpL.ofM hn rfl ?_)
  rw [hlo]
  simp (config := { maxSteps := 2000000 }) only [go_sem, ↓reduceIte, Int.reduceToNat, Nat.reduceMul, Int.reduceBEq, Int.reduceBNe, Nat.reduceBEq, Nat.reduceAdd, Nat.reduceSub, Nat.reduceLeDiff, Nat.reduceEqDiff, Nat.reduceLT, reduceCtorEq]
  refine AWpL.calle (s20 lo 1 (by omega) (by omega) (by decide) (by decide)) rfl (by rw [hn]; rfl) (by simp (config := { maxSteps := 2000000 }) only [go_sem, ↓reduceIte, Int.reduceToNat, Nat.reduceMul, Int.reduceBEq, Int.reduceBNe, Nat.reduceBEq, Nat.reduceAdd, Nat.reduceSub, Nat.reduceLeDiff, Nat.reduceEqDiff, Nat.reduceLT, reduceCtorEq]) (AWpL.ofM hn rfl ?_)
  rw [o1]
  simp (config := { maxSteps := 2000000 }) only [go_sem, ↓reduceIte, Int.reduceToNat, Nat.reduceMul, Int.reduceBEq, Int.reduceBNe, Nat.reduceBEq, Nat.reduceAdd, Nat.reduceSub, Nat.reduceLeDiff, Nat.reduceEqDiff, Nat.reduceLT, reduceCtorEq]
  refine AWpL.calle (s37 nl' false v hlen (by omega)) rfl (by rw [hn]; rfl) (by simp (config := { maxSteps := 2000000 }) only [go_sem, ↓reduceIte, Int.reduceToNat, Nat.reduceMul, Int.reduceBEq, Int.reduceBNe, Nat.reduceBEq, Nat.reduceAdd, Nat.reduceSub, Nat.reduceLeDiff, Nat.reduceEqDiff, Nat.reduceLT, reduceCtorEq]) (AWpL.ofM hn rfl ?_)
  rw [hhi]
  simp (config := { maxSteps := 2000000 }) only [go_sem, ↓reduceIte, Int.reduceToNat, Nat.reduceMul, Int.reduceBEq, Int.reduceBNe, Nat.reduceBEq, Nat.reduceAdd, Nat.reduceSub, Nat.reduceLeDiff, Nat.reduceEqDiff, Nat.reduceLT, reduceCtorEq]
  refine AWpL.calle (s20 hi 1 (by omega) (by omega) (by decide) (by decide)) rfl (by rw [hn]; rfl) (by simp (config := { maxSteps := 2000000 }) only [go_sem, ↓reduceIte, Int.reduceToNat, Nat.reduceMul, Int.reduceBEq, Int.reduceBNe, Nat.reduceBEq, Nat.reduceAdd, Nat.reduceSub, Nat.reduceLeDiff, Nat.reduceEqDiff, Nat.reduceLT, reduceCtorEq]) (AWpL.ofM hn rfl ?_)
  rw [o2]
  simp (config := { maxSteps := 2000000 }) only [go_sem, ↓reduceIte, Int.reduceToNat, Nat.reduceMul, Int.reduceBEq, Int.reduceBNe, Nat.reduceBEq, Nat.reduceAdd, Nat.reduceSub, Nat.reduceLeDiff, Nat.reduceEqDiff, Nat.reduceLT, reduceCtorEq, g0, w1, g1]
  (repeat (refine And.intro (by first | omega | (refine ⟨by omega, by omega⟩) | (refine ⟨by omega, by omega, by omega⟩) | (simp only [List.length_map, List.length_range, List.length_append, List.length_cons, List.length_nil, List.length_replicate, List.length_set]; omega) | (simp; omega) | (intro hgd; cases hgd) | (intro hgd; refine ⟨hgd, ?_⟩; first | omega | (refine ⟨by omega, by omega⟩) | (simp; omega))) ?_))
  refine AWpL.calle (s20 v[0] 1 (by omega) (by omega) (by decide) (by decide)) rfl (by rw [hn]; rfl) (by simp (config := { maxSteps := 2000000 }) only [go_sem, ↓reduceIte, Int.reduceToNat, Nat.reduceMul, Int.reduceBEq, Int.reduceBNe, Nat.reduceBEq, Nat.reduceAdd, Nat.reduceSub, Nat.reduceLeDiff, Nat.reduceEqDiff, Nat.reduceLT, reduceCtorEq]) (AWpL.ofM hn rfl ?_)
  rw [o3]
  simp (config := { maxSteps := 2000000 }) only [go_sem, ↓reduceIte, Int.reduceToNat, Nat.reduceMul, Int.reduceBEq, Int.reduceBNe, Nat.reduceBEq, Nat.reduceAdd, Nat.reduceSub, Nat.reduceLeDiff, Nat.reduceEqDiff, Nat.reduceLT, reduceCtorEq, w1, g1]
  (repeat (refine And.intro (by first | omega | (refine ⟨by omega, by omega⟩) | (refine ⟨by omega, by omega, by omega⟩) | (simp only [List.length_map, List.length_range, List.length_append, List.length_cons, List.length_nil, List.length_replicate, List.length_set]; omega) | (simp; omega) | (intro hgd; cases hgd) | (intro hgd; refine ⟨hgd, ?_⟩; first | omega | (refine ⟨by omega, by omega⟩) | (simp; omega))) ?_))
  refine AWpL.calle (s20 v[v.length - 1] 1 (by omega) (by omega) (by decide) (by decide)) rfl (by rw [hn]; rfl) (by simp (config := { maxSteps := 2000000 }) only [go_sem, ↓reduceIte, Int.reduceToNat, Nat.reduceMul, Int.reduceBEq, Int.reduceBNe, Nat.reduceBEq, Nat.reduceAdd, Nat.reduceSub, Nat.reduceLeDiff, Nat.reduceEqDiff, Nat.reduceLT, reduceCtorEq]) (AWpL.ofM hn rfl ?_)
  rw [o4]
  simp (config := { maxSteps := 2000000 }) only [go_sem, ↓reduceIte, Int.reduceToNat, Nat.reduceMul, Int.reduceBEq, Int.reduceBNe, Nat.reduceBEq, Nat.reduceAdd, Nat.reduceSub, Nat.reduceLeDiff, Nat.reduceEqDiff, Nat.reduceLT, reduceCtorEq]
  refine AWpL.calle (s38 _ _ (txtR_len fs) (txtR_len f1)) rfl (by rw [hn]; rfl) (by simp (config := { maxSteps := 2000000 }) only [go_sem, ↓reduceIte, Int.reduceToNat, Nat.reduceMul, Int.reduceBEq, Int.reduceBNe, Nat.reduceBEq, Nat.reduceAdd, Nat.reduceSub, Nat.reduceLeDiff, Nat.reduceEqDiff, Nat.reduceLT, reduceCtorEq]) (AWpL.ofM hn rfl ?_)
  rw [hc1]
  simp (config := { maxSteps := 2000000 }) only [go_sem, ↓reduceIte, Int.reduceToNat, Nat.reduceMul, Int.reduceBEq, Int.reduceBNe, Nat.reduceBEq, Nat.reduceAdd, Nat.reduceSub, Nat.reduceLeDiff, Nat.reduceEqDiff, Nat.reduceLT, reduceCtorEq]
  refine AWpL.calle (s38 _ _ (txtR_len fs) (txtR_len f2)) rfl (by rw [hn]; rfl) (by simp (config := { maxSteps := 2000000 }) only [go_sem, ↓reduceIte, Int.reduceToNat, Nat.reduceMul, Int.reduceBEq, Int.reduceBNe, Nat.reduceBEq, Nat.reduceAdd, Nat.reduceSub, Nat.reduceLeDiff, Nat.reduceEqDiff, Nat.reduceLT, reduceCtorEq]) (AWpL.ofM hn rfl ?_)
  rw [hc2]
  simp (config := { maxSteps := 2000000 }) only [go_sem, ↓reduceIte, Int.reduceToNat, Nat.reduceMul, Int.reduceBEq, Int.reduceBNe, Nat.reduceBEq, Nat.reduceAdd, Nat.reduceSub, Nat.reduceLeDiff, Nat.reduceEqDiff, Nat.reduceLT, reduceCtorEq]
  (refine AWpL.calle (s24) rfl (by rw [hn]; rfl) (by simp (config := { maxSteps := 2000000 }) only [go_sem, ↓reduceIte, Int.reduceToNat, Nat.reduceMul, Int.reduceBEq, Int.reduceBNe, Nat.reduceBEq, Nat.reduceAdd, Nat.reduceSub, Nat.reduceLeDiff, Nat.reduceEqDiff, Nat.reduceLT, reduceCtorEq]) (AWpL.ofM hn rfl ?_); simp (config := { maxSteps := 2000000 }) only [go_sem, ↓reduceIte, Int.reduceToNat, Nat.reduceMul, Int.reduceBEq, Int.reduceBNe, Nat.reduceBEq, Nat.reduceAdd, Nat.reduceSub, Nat.reduceLeDiff, Nat.reduceEqDiff, Nat.reduceLT, reduceCtorEq])
  have y1 : decide (c1 ≥ 0) = true := decide_eq_true hc1'
  have y2 : decide (c2 ≤ 0) = true := decide_eq_true hc2'
  simp (config := { maxSteps := 2000000 }) only [go_sem, ↓reduceIte, Int.reduceToNat, Nat.reduceMul, Int.reduceBEq, Int.reduceBNe, Nat.reduceBEq, Nat.reduceAdd, Nat.reduceSub, Nat.reduceLeDiff, Nat.reduceEqDiff, Nat.reduceLT, reduceCtorEq, y1, y2]
  refine Retn.ret (π := []) hp hnp ⟨rfl, ?_⟩
  simp (config := { maxSteps := 2000000 }) only [go_sem, ↓reduceIte, Int.reduceToNat, Nat.reduceMul, Int.reduceBEq, Int.reduceBNe, Nat.reduceBEq, Nat.reduceAdd, Nat.reduceSub, Nat.reduceLeDiff, Nat.reduceEqDiff, Nat.reduceLT, reduceCtorEq]
end Go.Proofs.YtjaakbkneeojnaaDoor
