/- Numbers: Div. -/
import Derived.Test.YtjaakbkneeojnaaDoorAwZl
import Derived.Test.YtjaakbkneeojnaaDoorNatF
import Derived.Test.YtjaakbkneeojnaaDoorNatG
set_option linter.unusedVariables false
set_option linter.unusedSimpArgs false
namespace Go.Proofs.YtjaakbkneeojnaaDoor
open Go.Proofs.YtjaakbkneeojnaaDoor.Aw
attribute [local go_sem] Int.natCast_zero Int.natCast_one bne_self_eq_false beq_self_eq_true Bool.not_true Bool.not_false Option.isSome_none Option.isSome_some Aw.bkM_nil Option.getD_some Option.getD_none Nat.sub_zero Int.toNat_zero Aw.frzS Aw.frzT Aw.frzA Aw.frzL Aw.frzR Aw.frzO Aw.frzOL Aw.frzOT Aw.frzOR Aw.killS Aw.mapT Aw.mapR Aw.killM Aw.resAVs Aw.resAV Aw.quietOps Aw.wpP Aw.wpT Aw.wpS Aw.AOp.mild List.getElem?_cons_zero List.getElem?_cons_succ Bool.and_false Bool.and_self Bool.false_and Aw.opOb Aw.gdB Aw.Rnd Aw.subTm List.length_map Int.toNat_natCast and_self Aw.SeqC Aw.stops Aw.Ends Aw.looks Aw.renA Aw.renL Aw.renT Aw.renS Aw.wpO Aw.aop Aw.putTm Aw.St.ev Aw.St.put Aw.St.putO Aw.binAV Aw.intBin Aw.strBin Aw.pickAV Aw.optInt Aw.AV.strip Aw.AV.guard Aw.AV.cells Aw.gdOb Aw.AOp.opds Aw.AOp.still Aw.ptrCells Aw.St.reg Aw.fillAV Aw.fillOb Aw.elsOb Aw.splice Aw.firm Aw.cellish Aw.AV.shut Aw.shutAll Aw.Seq Aw.Blk Aw.retS_nil Aw.mapA Aw.mapL Aw.borA Aw.borOb Aw.allOb Aw.tupOf Aw.params Aw.Opd.of Array.toList Value.cells List.map_cons List.map_nil List.getD_cons_zero List.getD_cons_succ List.getD_nil List.length_cons List.length_nil List.take_succ_cons List.take_zero List.take_nil List.drop_zero List.drop_succ_cons List.drop_nil List.set_cons_zero List.set_cons_succ List.append_nil List.nil_append List.cons_append List.all_cons List.all_nil cond_false cond_true if_true if_false true_and and_true Bool.and_true Bool.true_and Option.map_some Option.map_none false_implies forall_const implies_true forall_eq imp_self Bool.cond_false_right Bool.cond_true_left beq_true beq_false Bool.not_eq_true' Bool.false_eq_true Nat.zero_add Nat.add_zero Aw.eqCells Aw.stopDraw Aw.skipS Aw.exactCap Aw.revealS Aw.srcEls Aw.srcSz
attribute [local go_sem ↓] Aw.look_nil Aw.look_ite Aw.wpL_nil Aw.wpL_op Aw.wpL_gd Aw.wpQ_nil Aw.wpQ_op Aw.wpQ_gd Aw.wpC_draw Aw.wpC_reg Aw.wpC_skip Aw.wpC_ret Aw.wpC_exit Aw.wpC_seq Aw.wpC_block Aw.wpC_loop Aw.wpC_cond Aw.stopAt_nil Aw.stopAt_cons Aw.wpD_skip Aw.wpD_ret Aw.wpD_exit Aw.wpD_region Aw.wpD_draw Aw.wpM_nil Aw.wpM_op Aw.wpM_gd Aw.wpD_seq Aw.wpD_block Aw.wpD_loop Aw.wpD_cond
/- (gridhall/nat.N).Div -/
def a75 : ACode :=
  (.seq (.region false [] [
     ⟨(some 4), none, (.mov (.v (.slice none 0 0)))⟩,
     ⟨(some 5), none, (.mov (.v (.slice none 0 0)))⟩])
  (.seq (.seq (.region false [] [
     ⟨(some 17), none, (.mov (.t 0))⟩,
     ⟨(some 18), none, (.mov (.t 1))⟩,
     ⟨(some 19), none, (.call 70 [(.t 17), (.t 18)])⟩,
     ⟨(some 20), none, (.bin .lss 3 (.t 19) (.v (.int .i64 0)))⟩])
  (.cond (.t 20)
    (.seq (.region false [] [
       ⟨(some 21), none, (.mov (.t 0))⟩,
       ⟨(some 4), none, (.mov (.v (.slice none 0 0)))⟩,
       ⟨(some 5), none, (.mov (.t 21))⟩])
    .ret)
    .skip))
  (.seq (.seq (.region false [] [
     ⟨(some 22), none, (.mov (.t 1))⟩,
     ⟨(some 23), none, (.len (.t 22))⟩,
     ⟨(some 24), none, (.bin .eql 3 (.t 23) (.v (.int .i64 1)))⟩])
  (.cond (.t 24)
    (.seq (.region false [] [
       ⟨(some 25), none, (.mov (.t 0))⟩,
       ⟨(some 26), none, (.mov (.t 1))⟩,
       ⟨(some 27), none, (.idx 1 (.t 26) (.v (.int .i64 0)))⟩,
       ⟨(some 28), none, (.load 1 false (.t 27))⟩,
       ⟨(some 29), none, (.call 82 [(.t 25), (.t 28)])⟩,
       ⟨(some 30), none, (.ext 0 (.t 29))⟩,
       ⟨(some 31), none, (.ext 1 (.t 29))⟩,
       ⟨(some 4), none, (.mov (.t 30))⟩,
       ⟨(some 5), none, (.mov (.t 31))⟩])
    .ret)
    .skip))
  (.seq (.region false [] [
     ⟨(some 32), none, (.mov (.t 1))⟩,
     ⟨(some 33), none, (.mov (.t 1))⟩,
     ⟨(some 34), none, (.len (.t 33))⟩,
     ⟨(some 35), none, (.bin .sub 3 (.t 34) (.v (.int .i64 1)))⟩,
     ⟨(some 36), none, (.idx 1 (.t 32) (.t 35))⟩,
     ⟨(some 37), none, (.load 1 false (.t 36))⟩,
     ⟨(some 38), none, (.itoi .u64 (.t 37))⟩,
     ⟨(some 39), none, (.bin .add 101 (.t 38) (.v (.int .u64 1)))⟩,
     ⟨(some 40), none, (.bin .quo 101 (.v (.int .u64 1000000000)) (.t 39))⟩,
     ⟨(some 41), none, (.itoi .u32 (.t 40))⟩,
     ⟨(some 6), none, (.mov (.t 41))⟩])
  (.seq (.region false [] [
     ⟨(some 42), none, (.mov (.t 0))⟩,
     ⟨(some 43), none, (.mov (.t 6))⟩,
     ⟨(some 44), none, (.bsl 99 1 1 [(0, (.t 43))])⟩,
     ⟨(some 45), none, (.call 67 [(.t 42), (.t 44)])⟩,
     ⟨(some 46), none, (.bsl 99 1 1 [(0, (.v (.int .u32 0)))])⟩,
     ⟨(some 47), none, (.app 99 1 4 (.int .u32 0) (.t 45) (.t 46))⟩,
     ⟨(some 48), none, (.mov (.t 1))⟩,
     ⟨(some 49), none, (.mov (.t 6))⟩,
     ⟨(some 50), none, (.bsl 99 1 1 [(0, (.t 49))])⟩,
     ⟨(some 51), none, (.call 67 [(.t 48), (.t 50)])⟩,
     ⟨(some 7), none, (.mov (.t 47))⟩,
     ⟨(some 8), none, (.mov (.t 51))⟩])
  (.seq (.block 0 (.loop (.seq (.seq (.region false [] [
       ⟨(some 52), none, (.mov (.t 7))⟩,
       ⟨(some 53), none, (.len (.t 52))⟩,
       ⟨(some 54), none, (.mov (.t 0))⟩,
       ⟨(some 55), none, (.len (.t 54))⟩,
       ⟨(some 56), none, (.bin .leq 3 (.t 53) (.t 55))⟩])
    (.cond (.t 56)
      .skip
      (.exit 0)))
    (.block 1 (.region false [] [
        ⟨(some 57), none, (.mov (.t 7))⟩,
        ⟨(some 58), none, (.bsl 99 1 1 [(0, (.v (.int .u32 0)))])⟩,
        ⟨(some 59), none, (.app 99 1 4 (.int .u32 0) (.t 57) (.t 58))⟩,
        ⟨(some 7), none, (.mov (.t 59))⟩])))))
  (.seq (.region false [] [
     ⟨(some 60), none, (.mov (.t 8))⟩,
     ⟨(some 61), none, (.len (.t 60))⟩,
     ⟨(some 9), none, (.mov (.t 61))⟩])
  (.seq (.region false [] [
     ⟨(some 62), none, (.mov (.t 7))⟩,
     ⟨(some 63), none, (.len (.t 62))⟩,
     ⟨(some 64), none, (.mov (.t 9))⟩,
     ⟨(some 65), none, (.bin .sub 3 (.t 63) (.t 64))⟩,
     ⟨(some 66), none, (.mksl 99 1 4 (.int .u32 0) (.t 65) (.t 65))⟩,
     ⟨(some 10), none, (.mov (.t 66))⟩])
  (.seq (.seq (.region false [] [
     ⟨(some 67), none, (.mov (.t 7))⟩,
     ⟨(some 68), none, (.len (.t 67))⟩,
     ⟨(some 69), none, (.mov (.t 9))⟩,
     ⟨(some 70), none, (.bin .sub 3 (.t 68) (.t 69))⟩,
     ⟨(some 71), none, (.bin .sub 3 (.t 70) (.v (.int .i64 1)))⟩,
     ⟨(some 11), none, (.mov (.t 71))⟩])
  (.block 2 (.loop (.seq (.seq (.region false [] [
       ⟨(some 72), none, (.mov (.t 11))⟩,
       ⟨(some 73), none, (.bin .geq 3 (.t 72) (.v (.int .i64 0)))⟩])
    (.cond (.t 73)
      .skip
      (.exit 2)))
    (.seq (.block 3 (.seq (.region true [[], [], [], [1, 2], [0, 3], [4], [5], [6], [], [], [], [9, 10], [11], [8, 12], [13], [14], [7, 15], [16, 0, 1, 2, 3, 4, 5, 6, 7, 8, 9, 10, 11, 12, 13, 14, 15, 16]] [
        ⟨(some 76), none, (.mov (.t 7))⟩,
        ⟨(some 77), none, (.mov (.t 11))⟩,
        ⟨(some 78), none, (.mov (.t 9))⟩,
        ⟨(some 79), none, (.bin .add 3 (.t 77) (.t 78))⟩,
        ⟨(some 80), none, (.idx 1 (.t 76) (.t 79))⟩,
        ⟨(some 81), none, (.load 1 false (.t 80))⟩,
        ⟨(some 82), none, (.itoi .u64 (.t 81))⟩,
        ⟨(some 83), none, (.bin .mul 101 (.t 82) (.v (.int .u64 1000000000)))⟩,
        ⟨(some 84), none, (.mov (.t 7))⟩,
        ⟨(some 85), none, (.mov (.t 11))⟩,
        ⟨(some 86), none, (.mov (.t 9))⟩,
        ⟨(some 87), none, (.bin .add 3 (.t 85) (.t 86))⟩,
        ⟨(some 88), none, (.bin .sub 3 (.t 87) (.v (.int .i64 1)))⟩,
        ⟨(some 89), none, (.idx 1 (.t 84) (.t 88))⟩,
        ⟨(some 90), none, (.load 1 false (.t 89))⟩,
        ⟨(some 91), none, (.itoi .u64 (.t 90))⟩,
        ⟨(some 92), none, (.bin .add 101 (.t 83) (.t 91))⟩,
        ⟨(some 12), none, (.mov (.t 92))⟩])
     (.seq (.region true [[], [], [], [2], [1, 3], [4], [5], [0, 6], [], [], [], [10], [9, 11], [12], [13], [8, 14], [7, 0, 1, 2, 3, 4, 5, 6, 7], [15, 16, 0, 1, 2, 3, 4, 5, 6, 7, 8, 9, 10, 11, 12, 13, 14, 15, 16]] [
        ⟨(some 93), none, (.mov (.t 12))⟩,
        ⟨(some 94), none, (.mov (.t 8))⟩,
        ⟨(some 95), none, (.mov (.t 9))⟩,
        ⟨(some 96), none, (.bin .sub 3 (.t 95) (.v (.int .i64 1)))⟩,
        ⟨(some 97), none, (.idx 1 (.t 94) (.t 96))⟩,
        ⟨(some 98), none, (.load 1 false (.t 97))⟩,
        ⟨(some 99), none, (.itoi .u64 (.t 98))⟩,
        ⟨(some 100), none, (.bin .quo 101 (.t 93) (.t 99))⟩,
        ⟨(some 101), none, (.mov (.t 12))⟩,
        ⟨(some 102), none, (.mov (.t 8))⟩,
        ⟨(some 103), none, (.mov (.t 9))⟩,
        ⟨(some 104), none, (.bin .sub 3 (.t 103) (.v (.int .i64 1)))⟩,
        ⟨(some 105), none, (.idx 1 (.t 102) (.t 104))⟩,
        ⟨(some 106), none, (.load 1 false (.t 105))⟩,
        ⟨(some 107), none, (.itoi .u64 (.t 106))⟩,
        ⟨(some 108), none, (.bin .rem 101 (.t 101) (.t 107))⟩,
        ⟨(some 13), none, (.mov (.t 100))⟩,
        ⟨(some 14), none, (.mov (.t 108))⟩])
     (.seq (.block 4 (.loop (.seq (.seq (.region true [[], [0], [1], [2], [2], [2], [5, 2], [4, 6, 2], [7, 2], [8, 2], [3, 9, 2], [2], [11, 2], [2], [2], [2], [14, 15, 2], [16, 2], [13, 17, 2], [18, 2], [19, 2], [12, 20, 2], [10, 21, 2], [2, 22]] [
          ⟨(some 109), none, (.mov (.t 13))⟩,
          ⟨(some 110), none, (.bin .geq 101 (.t 109) (.v (.int .u64 1000000000)))⟩,
          ⟨(some 111), none, (.mov (.t 110))⟩,
          ⟨(some 112), (some (111, false)), (.mov (.t 13))⟩,
          ⟨(some 113), (some (111, false)), (.mov (.t 8))⟩,
          ⟨(some 114), (some (111, false)), (.mov (.t 9))⟩,
          ⟨(some 115), (some (111, false)), (.bin .sub 3 (.t 114) (.v (.int .i64 2)))⟩,
          ⟨(some 116), (some (111, false)), (.idx 1 (.t 113) (.t 115))⟩,
          ⟨(some 117), (some (111, false)), (.load 1 false (.t 116))⟩,
          ⟨(some 118), (some (111, false)), (.itoi .u64 (.t 117))⟩,
          ⟨(some 119), (some (111, false)), (.bin .mul 101 (.t 112) (.t 118))⟩,
          ⟨(some 120), (some (111, false)), (.mov (.t 14))⟩,
          ⟨(some 121), (some (111, false)), (.bin .mul 101 (.t 120) (.v (.int .u64 1000000000)))⟩,
          ⟨(some 122), (some (111, false)), (.mov (.t 7))⟩,
          ⟨(some 123), (some (111, false)), (.mov (.t 11))⟩,
          ⟨(some 124), (some (111, false)), (.mov (.t 9))⟩,
          ⟨(some 125), (some (111, false)), (.bin .add 3 (.t 123) (.t 124))⟩,
          ⟨(some 126), (some (111, false)), (.bin .sub 3 (.t 125) (.v (.int .i64 2)))⟩,
          ⟨(some 127), (some (111, false)), (.idx 1 (.t 122) (.t 126))⟩,
          ⟨(some 128), (some (111, false)), (.load 1 false (.t 127))⟩,
          ⟨(some 129), (some (111, false)), (.itoi .u64 (.t 128))⟩,
          ⟨(some 130), (some (111, false)), (.bin .add 101 (.t 121) (.t 129))⟩,
          ⟨(some 131), (some (111, false)), (.bin .gtr 101 (.t 119) (.t 130))⟩,
          ⟨(some 132), none, (.pick (.t 111) (.v (.bool true)) (.t 131))⟩])
       (.cond (.t 132)
         .skip
         (.exit 4)))
       (.block 5 (.seq (.region false [] [
           ⟨(some 133), none, (.mov (.t 13))⟩,
           ⟨(some 134), none, (.bin .sub 101 (.t 133) (.v (.int .u64 1)))⟩,
           ⟨(some 13), none, (.mov (.t 134))⟩])
        (.seq (.region false [] [
           ⟨(some 135), none, (.mov (.t 14))⟩,
           ⟨(some 136), none, (.mov (.t 8))⟩,
           ⟨(some 137), none, (.mov (.t 9))⟩,
           ⟨(some 138), none, (.bin .sub 3 (.t 137) (.v (.int .i64 1)))⟩,
           ⟨(some 139), none, (.idx 1 (.t 136) (.t 138))⟩,
           ⟨(some 140), none, (.load 1 false (.t 139))⟩,
           ⟨(some 141), none, (.itoi .u64 (.t 140))⟩,
           ⟨(some 142), none, (.bin .add 101 (.t 135) (.t 141))⟩,
           ⟨(some 14), none, (.mov (.t 142))⟩])
        (.seq (.region false [] [
           ⟨(some 143), none, (.mov (.t 14))⟩,
           ⟨(some 144), none, (.bin .geq 101 (.t 143) (.v (.int .u64 1000000000)))⟩])
        (.cond (.t 144)
          (.exit 4)
          .skip))))))))
     (.seq (.seq (.region false [] [
        ⟨(some 145), none, (.mov (.t 7))⟩,
        ⟨(some 146), none, (.mov (.t 8))⟩,
        ⟨(some 147), none, (.mov (.t 11))⟩,
        ⟨(some 148), none, (.mov (.t 13))⟩,
        ⟨(some 149), none, (.call 83 [(.t 145), (.t 146), (.t 147), (.t 148)])⟩])
     (.cond (.t 149)
       (.seq (.region false [] [
          ⟨(some 150), none, (.mov (.t 13))⟩,
          ⟨(some 151), none, (.bin .sub 101 (.t 150) (.v (.int .u64 1)))⟩,
          ⟨(some 13), none, (.mov (.t 151))⟩])
       (.region false [] [
          ⟨(some 152), none, (.mov (.t 7))⟩,
          ⟨(some 153), none, (.mov (.t 8))⟩,
          ⟨(some 154), none, (.mov (.t 11))⟩,
          ⟨(some 155), none, (.call 84 [(.t 152), (.t 153), (.t 154)])⟩]))
       .skip))
     (.region false [] [
        ⟨(some 156), none, (.mov (.t 10))⟩,
        ⟨(some 157), none, (.mov (.t 11))⟩,
        ⟨(some 158), none, (.mov (.t 13))⟩,
        ⟨(some 159), none, (.itoi .u32 (.t 158))⟩,
        ⟨(some 160), none, (.idx 1 (.t 156) (.t 157))⟩,
        ⟨none, none, (.store 1 (.t 160) (.t 159))⟩]))))))
    (.region false [] [
       ⟨(some 74), none, (.mov (.t 11))⟩,
       ⟨(some 75), none, (.bin .sub 3 (.t 74) (.v (.int .i64 1)))⟩,
       ⟨(some 11), none, (.mov (.t 75))⟩]))))))
  (.seq (.region false [] [
     ⟨(some 162), none, (.mov (.t 7))⟩,
     ⟨(some 163), none, (.call 81 [(.t 162)])⟩,
     ⟨(some 164), none, (.mov (.t 6))⟩,
     ⟨(some 165), none, (.call 82 [(.t 163), (.t 164)])⟩,
     ⟨(some 161), none, (.mov (.t 165))⟩,
     ⟨(some 166), none, (.ext 0 (.t 161))⟩,
     ⟨(some 167), none, (.ext 1 (.t 161))⟩,
     ⟨(some 15), none, (.mov (.t 166))⟩,
     ⟨(some 16), none, (.mov (.t 167))⟩])
  (.seq (.region false [] [
     ⟨(some 168), none, (.mov (.t 10))⟩,
     ⟨(some 169), none, (.call 81 [(.t 168)])⟩,
     ⟨(some 170), none, (.mov (.t 15))⟩,
     ⟨(some 4), none, (.mov (.t 169))⟩,
     ⟨(some 5), none, (.mov (.t 170))⟩])
  .ret)))))))))))
theorem k75 : FnIs Tryd.prog 75 171 [.t 4, .t 5] a75 := ⟨_, _, Tryd.func75, rfl, by kernel_rfl, by kernel_rfl, rfl⟩

theorem cmpN_neg {n m : Nat} : decide (cmpN n m < 0) = decide (n < m) := by
  unfold cmpN
  by_cases h : n < m
  · rw [if_pos h, decide_eq_true h]; rfl
  · rw [if_neg h, decide_eq_false h]
    by_cases h2 : n = m
    · rw [if_pos h2]; rfl
    · rw [if_neg h2]; rfl
theorem digs_one {d : Nat} (h0 : 0 < d) (h1 : d < bs) : digs d = [d] := by
  rw [digs_pos (by omega), Nat.mod_eq_of_lt h1, Nat.div_eq_of_lt h1, digs_zero]
theorem two_dig {b d0 d1 : Nat} (h0 : d0 < b) (h1 : d1 < b) : d0 * b < b * b ∧ d0 * b + d1 < b * b := by
  have h : (d0 + 1) * b ≤ b * b := Nat.mul_le_mul_right _ h0
  rw [Nat.add_mul, Nat.one_mul] at h
  omega
theorem cmul (d : Nat) : (d : Int) * 1000000000 = ((d * bs : Nat) : Int) := by
  show _ = ((d * 1000000000 : Nat) : Int)
  omega
theorem q_bound {b v1 q r top : Nat} (hv1 : 0 < v1) (h : q * v1 + r = top) (ht : top < (v1 + 1) * b) : q < 2 * b := by
  have h1 : v1 + 1 ≤ 2 * v1 := by omega
  have h2 : (v1 + 1) * b ≤ 2 * v1 * b := Nat.mul_le_mul_right _ h1
  have h3 : q * v1 < (2 * b) * v1 := by
    have : 2 * v1 * b = 2 * b * v1 := by ac_rfl
    omega
  exact Nat.lt_of_mul_lt_mul_right h3
theorem qv_bound {q v2 : Nat} (h : q < 2 * bs) (k : v2 < bs) : q * v2 < 18446744073709551616 :=
  Nat.lt_of_lt_of_le (Nat.mul_lt_mul'' h k) (by decide)
theorem divN (a b : Nat) : (a : Int).tdiv (b : Int) = ((a / b : Nat) : Int) := rfl
theorem modN (a b : Nat) : (a : Int).tmod (b : Int) = ((a % b : Nat) : Int) := rfl
set_option maxRecDepth 20000 in
set_option maxHeartbeats 4000000 in
theorem s75 (n m : Nat) (hm : 0 < m) (hn0 : nl n ≤ 900000) (hm0 : nl m ≤ 900000) : Aw.Spec Tryd.prog 75 [] [nv n, nv m] (fun rg v => rg = [] ∧ v = .tup [nv (n / m), nv (n % m)]) := by
  refine Aw.Spec.regsW k75 rfl rfl fun E hn hnp hp => ?_
  unfold a75
  have pin : ∀ r, E.pin r = none := fun r => hp.none hnp (Nat.zero_le _)
  have hbs : bs = 1000000000 := rfl
  have hb1 : bs * bs = 1000000000000000000 := rfl
  refine AWp.seq (AWp.ofD [] [] hn mixed rfl ?_)
  simp (config := { maxSteps := 2000000 }) only [go_sem, ↓reduceIte, Int.reduceToNat, Nat.reduceMul, Int.reduceBEq, Int.reduceBNe, Nat.reduceBEq, Nat.reduceAdd, Nat.reduceSub, Nat.reduceLeDiff, Nat.reduceEqDiff, Nat.reduceLT, reduceCtorEq]
  refine AWp.seq (AWp.seq (AWp.region (AWpL.upto 2 hn rfl ?_)))
  simp (config := { maxSteps := 2000000 }) only [go_sem, ↓reduceIte, Int.reduceToNat, Nat.reduceMul, Int.reduceBEq, Int.reduceBNe, Nat.reduceBEq, Nat.reduceAdd, Nat.reduceSub, Nat.reduceLeDiff, Nat.reduceEqDiff, Nat.reduceLT, reduceCtorEq]
  refine AWpL.calle (s70 n m (by unfold nl at hn0; omega) (by unfold nl at hm0; omega)) rfl (by rw [hn]; rfl) (by simp (config := { maxSteps := 2000000 }) only [go_sem, ↓reduceIte, Int.reduceToNat, Nat.reduceMul, Int.reduceBEq, Int.reduceBNe, Nat.reduceBEq, Nat.reduceAdd, Nat.reduceSub, Nat.reduceLeDiff, Nat.reduceEqDiff, Nat.reduceLT, reduceCtorEq]) (AWpL.ofM hn rfl ?_)
  simp (config := { maxSteps := 2000000 }) only [go_sem, ↓reduceIte, Int.reduceToNat, Nat.reduceMul, Int.reduceBEq, Int.reduceBNe, Nat.reduceBEq, Nat.reduceAdd, Nat.reduceSub, Nat.reduceLeDiff, Nat.reduceEqDiff, Nat.reduceLT, reduceCtorEq, cmpN_neg]
  refine AWp.cond (by rfl) (fun hlt => ?_) (fun hge => ?_)
  · have hlt := of_decide_eq_true hlt
    refine AWp.ofD [] [] hn mixed rfl ?_
    simp (config := { maxSteps := 2000000 }) only [go_sem, ↓reduceIte, Int.reduceToNat, Nat.reduceMul, Int.reduceBEq, Int.reduceBNe, Nat.reduceBEq, Nat.reduceAdd, Nat.reduceSub, Nat.reduceLeDiff, Nat.reduceEqDiff, Nat.reduceLT, reduceCtorEq]
    refine Retn.weak (weak_ent 4 (by rfl) (Ent.ofnil0 1)) _ ?_
    refine Retn.ret (π := []) hp hnp ⟨rfl, ?_⟩
    simp (config := { maxSteps := 2000000 }) only [go_sem, ↓reduceIte, Int.reduceToNat, Nat.reduceMul, Int.reduceBEq, Int.reduceBNe, Nat.reduceBEq, Nat.reduceAdd, Nat.reduceSub, Nat.reduceLeDiff, Nat.reduceEqDiff, Nat.reduceLT, reduceCtorEq]
    rw [Nat.div_eq_of_lt hlt, Nat.mod_eq_of_lt hlt, nv, nv, digs_zero]
    rfl
  have hge := Nat.not_lt.1 (of_decide_eq_false hge)
  refine AWp.ofD [] [] hn mixed rfl ?_
  simp (config := { maxSteps := 2000000 }) only [go_sem, ↓reduceIte, Int.reduceToNat, Nat.reduceMul, Int.reduceBEq, Int.reduceBNe, Nat.reduceBEq, Nat.reduceAdd, Nat.reduceSub, Nat.reduceLeDiff, Nat.reduceEqDiff, Nat.reduceLT, reduceCtorEq]
  have hmd := canon_digs m
  have hnlm := nl_pos hm
  refine AWp.seq (AWp.seq (AWp.ofD [] [] hn mixed rfl ?_))
  simp (config := { maxSteps := 2000000 }) only [go_sem, ↓reduceIte, Int.reduceToNat, Nat.reduceMul, Int.reduceBEq, Int.reduceBNe, Nat.reduceBEq, Nat.reduceAdd, Nat.reduceSub, Nat.reduceLeDiff, Nat.reduceEqDiff, Nat.reduceLT, reduceCtorEq]
  refine AWp.cond (by rfl) (fun h1 => ?_) (fun h1 => ?_)
  · obtain ⟨d, hd⟩ : ∃ d, digs m = [d] := by
      rw [beq_iff_eq] at h1
      exact List.length_eq_one_iff.1 (by omega)
    have hdm : d = m := by have := val_digs m; rw [hd] at this; simpa [val] using this
    subst hdm
    have hdl : d < bs := by have := dig_digs d; rw [hd] at this; exact this d List.mem_cons_self
    have e1 : ((digs d).map uc).getD 0 [] = uc d := by rw [hd]; rfl
    refine AWp.ofD [] [] hn mixed rfl ?_
    simp (config := { maxSteps := 2000000 }) only [go_sem, ↓reduceIte, Int.reduceToNat, Nat.reduceMul, Int.reduceBEq, Int.reduceBNe, Nat.reduceBEq, Nat.reduceAdd, Nat.reduceSub, Nat.reduceLeDiff, Nat.reduceEqDiff, Nat.reduceLT, reduceCtorEq, e1]
    (repeat (refine And.intro (by first | omega | (refine ⟨by omega, by omega⟩) | (refine ⟨by omega, by omega, by omega⟩) | (simp only [List.length_map, List.length_range, List.length_append, List.length_cons, List.length_nil, List.length_replicate, List.length_set]; omega) | (simp; omega) | (intro hgd; cases hgd) | (intro hgd; refine ⟨hgd, ?_⟩; first | omega | (refine ⟨by omega, by omega⟩) | (simp; omega))) ?_))
    (refine AWpL.callA [] (s82 n (by omega) d hm hdl) rfl rfl (by rw [hn]; rfl) rfl (fun r hr => .inr (pin r)) fun rg v hv => ?_; obtain ⟨rfl, rfl⟩ := hv; refine ⟨Nat.le_refl _, AWpL.ofM hn rfl ?_⟩)
    simp (config := { maxSteps := 2000000 }) only [go_sem, ↓reduceIte, Int.reduceToNat, Nat.reduceMul, Int.reduceBEq, Int.reduceBNe, Nat.reduceBEq, Nat.reduceAdd, Nat.reduceSub, Nat.reduceLeDiff, Nat.reduceEqDiff, Nat.reduceLT, reduceCtorEq, Aw.retS, Aw.retRg, Aw.kpM, Aw.bkM, Aw.pos, Aw.isBox]
    refine Retn.ret (π := []) hp hnp ⟨rfl, ?_⟩
    simp (config := { maxSteps := 2000000 }) only [go_sem, ↓reduceIte, Int.reduceToNat, Nat.reduceMul, Int.reduceBEq, Int.reduceBNe, Nat.reduceBEq, Nat.reduceAdd, Nat.reduceSub, Nat.reduceLeDiff, Nat.reduceEqDiff, Nat.reduceLT, reduceCtorEq]
  have hl1 : 2 ≤ (digs m).length := by
    have h2 : 0 < (digs m).length := hnlm
    have h3 : (digs m).length ≠ 1 := fun h => by rw [h] at h1; exact absurd h1 (by decide)
    omega
  clear h1
  refine AWp.ofD [] [] hn mixed rfl ?_
  simp (config := { maxSteps := 2000000 }) only [go_sem, ↓reduceIte, Int.reduceToNat, Nat.reduceMul, Int.reduceBEq, Int.reduceBNe, Nat.reduceBEq, Nat.reduceAdd, Nat.reduceSub, Nat.reduceLeDiff, Nat.reduceEqDiff, Nat.reduceLT, reduceCtorEq]
  have hlast : 0 < (digs m).getD ((digs m).length - 1) 0 := by
    have h := hmd.2 (fun h => by rw [h] at hl1; exact absurd hl1 (by decide))
    rw [List.getLast_eq_getElem] at h
    rw [List.getD_eq_getElem?_getD, List.getElem?_eq_getElem (by omega)]
    exact Nat.pos_of_ne_zero h
  have hlastl := dget (dig_digs m) ((digs m).length - 1)
  have hnl1 : (digs n).length ≤ 900000 := hn0
  have hnl2 : (digs m).length ≤ 900000 := hm0
  have f1 : IntKind.i64.wrap (((digs m).length : Int) - 1) = (((digs m).length - 1 : Nat) : Int) := by rw [w64 (by omega) (by omega)]; omega
  have f2 := getD_mapD 0 uc (l := digs m) (i := (digs m).length - 1) (by omega)
  generalize hb : (digs m).getD ((digs m).length - 1) 0 = b at *
  have f3 : IntKind.u64.wrap (b : Int) = (b : Int) := w64n (by omega)
  have f4 : IntKind.u64.wrap ((b : Int) + 1) = ((b + 1 : Nat) : Int) := by rw [show (b : Int) + 1 = ((b + 1 : Nat) : Int) from rfl]; exact w64n (by omega)
  obtain ⟨y, hy⟩ : ∃ y, y = bs / (b + 1) := ⟨_, rfl⟩
  have hy0 : 0 < y := by rw [hy]; exact Nat.div_pos (by omega) (by omega)
  have hy1 : y < bs := by rw [hy]; exact Nat.div_lt_self (by omega) (by omega)
  have f5 : IntKind.u64.wrap ((1000000000 : Int).tdiv ((b + 1 : Nat) : Int)) = (y : Int) := by
    rw [show (1000000000 : Int).tdiv ((b + 1 : Nat) : Int) = ((bs / (b + 1) : Nat) : Int) from rfl, ← hy]; exact w64n (by omega)
  have f6 : IntKind.u32.wrap (y : Int) = (y : Int) := w32 (by omega) (by omega)
  have f7 : ((b + 1 : Nat) : Int) ≠ 0 := by omega
  refine AWp.seq (AWp.ofD [] [] hn mixed rfl ?_)
  simp (config := { maxSteps := 2000000 }) only [go_sem, ↓reduceIte, Int.reduceToNat, Nat.reduceMul, Int.reduceBEq, Int.reduceBNe, Nat.reduceBEq, Nat.reduceAdd, Nat.reduceSub, Nat.reduceLeDiff, Nat.reduceEqDiff, Nat.reduceLT, reduceCtorEq, f1, f2, f3, f4, f5, f6]
  (repeat (refine And.intro (by first | omega | (refine ⟨by omega, by omega⟩) | (refine ⟨by omega, by omega, by omega⟩) | (simp only [List.length_map, List.length_range, List.length_append, List.length_cons, List.length_nil, List.length_replicate, List.length_set]; omega) | (simp; omega) | (intro hgd; cases hgd) | (intro hgd; refine ⟨hgd, ?_⟩; first | omega | (refine ⟨by omega, by omega⟩) | (simp; omega))) ?_))
  have hdy := digs_one hy0 hy1
  have hny : nv y = .imm none false 1 [uc y] := by rw [nv, hdy]; rfl
  have hnly : nl y = 1 := by unfold nl; rw [hdy]; rfl
  have hxn := nl_mul n y
  have hxm := nl_mul m y
  refine AWp.seq (AWp.region (AWpL.upto 3 hn rfl ?_))
  simp (config := { maxSteps := 2000000 }) only [go_sem, ↓reduceIte, Int.reduceToNat, Nat.reduceMul, Int.reduceBEq, Int.reduceBNe, Nat.reduceBEq, Nat.reduceAdd, Nat.reduceSub, Nat.reduceLeDiff, Nat.reduceEqDiff, Nat.reduceLT, reduceCtorEq]
  refine AWpL.weak (weak_freeze 0 rfl (pin 0) (by simp (config := { maxSteps := 2000000 }) only [go_sem, ↓reduceIte, Int.reduceToNat, Nat.reduceMul, Int.reduceBEq, Int.reduceBNe, Nat.reduceBEq, Nat.reduceAdd, Nat.reduceSub, Nat.reduceLeDiff, Nat.reduceEqDiff, Nat.reduceLT, reduceCtorEq, Nat.le_refl])) ?_
  simp (config := { maxSteps := 2000000 }) only [go_sem, ↓reduceIte, Int.reduceToNat, Nat.reduceMul, Int.reduceBEq, Int.reduceBNe, Nat.reduceBEq, Nat.reduceAdd, Nat.reduceSub, Nat.reduceLeDiff, Nat.reduceEqDiff, Nat.reduceLT, reduceCtorEq]
  refine AWpL.weak (weak_ent 44 (by rfl) (Ent.plain _ _ _ _)) ?_
  refine AWpL.callA [] (s67R n y (by omega) (by omega)) rfl (by rw [hny]; rfl) (by rw [hn]; rfl) rfl (fun r hr => by cases hr) fun rg v hv => ?_
  obtain ⟨O, hdO, hO, hvO, rfl, rfl, hT⟩ := hv
  refine ⟨Nat.zero_le _, AWpL.weak (weak_cut 1 (nl (n * y)) rfl) (AWpL.upto 1 hn rfl ?_)⟩
  simp (config := { maxSteps := 2000000 }) only [go_sem, ↓reduceIte, Int.reduceToNat, Nat.reduceMul, Int.reduceBEq, Int.reduceBNe, Nat.reduceBEq, Nat.reduceAdd, Nat.reduceSub, Nat.reduceLeDiff, Nat.reduceEqDiff, Nat.reduceLT, reduceCtorEq, Aw.retS, Aw.retRg, Aw.kpM, Aw.bkM, Aw.pos, Aw.isBox, ← List.map_take, hT, List.getElem?_nil]
  refine AWpL.app (r := 1) (els := (digs (n * y)).map uc) (ys := [uc 0]) rfl rfl rfl rfl (by rw [hn]; rfl) (by rw [List.length_map]) (pin 1) (by simp (config := { maxSteps := 2000000 }) only [go_sem, ↓reduceIte, Int.reduceToNat, Nat.reduceMul, Int.reduceBEq, Int.reduceBNe, Nat.reduceBEq, Nat.reduceAdd, Nat.reduceSub, Nat.reduceLeDiff, Nat.reduceEqDiff, Nat.reduceLT, reduceCtorEq, Nat.le_refl]) (fun el hm y hy => by
    rw [List.mem_singleton.1 hm] at hy
    rw [List.mem_singleton.1 hy]; rfl) (by simp only [List.length_cons, List.length_nil]; omega) (by simp only [List.length_cons, List.length_nil]; omega) (AWpL.ofM hn rfl ?_)
  have hap : (digs (n * y)).map uc ++ [uc 0] = (digs (n * y) ++ [0]).map uc := by rw [List.map_append]; rfl
  simp (config := { maxSteps := 2000000 }) only [go_sem, ↓reduceIte, Int.reduceToNat, Nat.reduceMul, Int.reduceBEq, Int.reduceBNe, Nat.reduceBEq, Nat.reduceAdd, Nat.reduceSub, Nat.reduceLeDiff, Nat.reduceEqDiff, Nat.reduceLT, reduceCtorEq, hap]
  refine AWpL.weak (weak_freeze 3 rfl (pin 3) (by simp (config := { maxSteps := 2000000 }) only [go_sem, ↓reduceIte, Int.reduceToNat, Nat.reduceMul, Int.reduceBEq, Int.reduceBNe, Nat.reduceBEq, Nat.reduceAdd, Nat.reduceSub, Nat.reduceLeDiff, Nat.reduceEqDiff, Nat.reduceLT, reduceCtorEq, Nat.le_refl])) ?_
  simp (config := { maxSteps := 2000000 }) only [go_sem, ↓reduceIte, Int.reduceToNat, Nat.reduceMul, Int.reduceBEq, Int.reduceBNe, Nat.reduceBEq, Nat.reduceAdd, Nat.reduceSub, Nat.reduceLeDiff, Nat.reduceEqDiff, Nat.reduceLT, reduceCtorEq]
  refine AWpL.weak (weak_ent 50 (by rfl) (Ent.plain _ _ _ _)) ?_
  refine AWpL.callA [] (s67 m y (by omega) (by omega)) rfl (by rw [hny]; rfl) (by rw [hn]; rfl) rfl (fun r hr => by cases hr) fun rg v hv => ?_
  obtain ⟨rfl, rfl⟩ := hv
  refine ⟨Nat.le_refl _, AWpL.ofM hn rfl ?_⟩
  simp (config := { maxSteps := 2000000 }) only [go_sem, ↓reduceIte, Int.reduceToNat, Nat.reduceMul, Int.reduceBEq, Int.reduceBNe, Nat.reduceBEq, Nat.reduceAdd, Nat.reduceSub, Nat.reduceLeDiff, Nat.reduceEqDiff, Nat.reduceLT, reduceCtorEq, Aw.retS, Aw.retRg, Aw.kpM, Aw.bkM, Aw.pos, Aw.isBox]
  have hxge : (digs n).length ≤ (digs (n * y)).length := nl_mono (Nat.le_mul_of_pos_right _ hy0)
  have hyge : (digs m).length ≤ (digs (m * y)).length := nl_mono (Nat.le_mul_of_pos_right _ hy0)
  have hyx : (digs (m * y)).length ≤ (digs (n * y)).length := nl_mono (Nat.mul_le_mul_right _ hge)
  have hdV := dig_digs (m * y)
  have hvV := val_digs (m * y)
  have hcV := canon_digs (m * y)
  have hvp : 0 < m * y := Nat.mul_pos hm hy0
  have hgeV := ge_nl hvp
  have hU1 : val (digs (n * y) ++ [0]) = n * y := by rw [val_append, val_digs]; simp [val]
  have hU2 : Dig (digs (n * y) ++ [0]) := (dig_digs _).app (Dig.one (by decide))
  have hU3 : (digs (n * y) ++ [0]).length = (digs (n * y)).length + 1 := by rw [List.length_append]; rfl
  have hltX := lt_nl (n * y)
  unfold nl at hxn hxm hgeV hltX hnly
  generalize hV : digs (m * y) = V at *
  have hlastV : 0 < V.getD (V.length - 1) 0 := by
    have h := hcV.2 (fun h => by
      have h2 : V.length = 0 := by rw [h]; rfl
      omega)
    rw [List.getLast_eq_getElem] at h
    rw [List.getD_eq_getElem?_getD, List.getElem?_eq_getElem (by omega)]
    exact Nat.pos_of_ne_zero h
  generalize hU0 : digs (n * y) ++ [0] = U0 at *
  obtain ⟨N, hN⟩ : ∃ N, N = (digs (n * y)).length + 1 := ⟨_, rfl⟩
  refine AWp.seq (AWp.cut ⟨[(6, U y), (7, .hnd 0 0 N N false), (8, dv V)], [.arr 99 1 (U0.map uc)]⟩ (AWp.ofD [] [] hn mixed rfl ?_) ?_)
  · subst hV hU0
    simp (config := { maxSteps := 2000000 }) only [go_sem, ↓reduceIte, Int.reduceToNat, Nat.reduceMul, Int.reduceBEq, Int.reduceBNe, Nat.reduceBEq, Nat.reduceAdd, Nat.reduceSub, Nat.reduceLeDiff, Nat.reduceEqDiff, Nat.reduceLT, reduceCtorEq]
    refine AWp.loop (fun k s => Weak E s ⟨[(0, nv n), (6, U y), (7, .hnd 0 0 N N false), (8, dv (digs (m * y)))], [.arr 99 1 ((digs (n * y) ++ [0]).map uc)]⟩) (n := 0) (weak_to [1] hp hnp rfl (by simp (config := { maxSteps := 2000000 }) only [go_sem, ↓reduceIte, Int.reduceToNat, Nat.reduceMul, Int.reduceBEq, Int.reduceBNe, Nat.reduceBEq, Nat.reduceAdd, Nat.reduceSub, Nat.reduceLeDiff, Nat.reduceEqDiff, Nat.reduceLT, reduceCtorEq, Aw.pos, hN] <;> rfl) (by simp (config := { maxSteps := 2000000 }) only [go_sem, ↓reduceIte, Int.reduceToNat, Nat.reduceMul, Int.reduceBEq, Int.reduceBNe, Nat.reduceBEq, Nat.reduceAdd, Nat.reduceSub, Nat.reduceLeDiff, Nat.reduceEqDiff, Nat.reduceLT, reduceCtorEq, Aw.renR, Aw.pos] <;> rfl)) ?_
    rintro k s hw
    have e0 : decide ((N : Int) ≤ ((digs n).length : Int)) = false := decide_eq_false (by omega)
    refine AWp.weak hw (AWp.ofD [] [] hn mixed rfl ?_)
    simp (config := { maxSteps := 2000000 }) only [go_sem, ↓reduceIte, Int.reduceToNat, Nat.reduceMul, Int.reduceBEq, Int.reduceBNe, Nat.reduceBEq, Nat.reduceAdd, Nat.reduceSub, Nat.reduceLeDiff, Nat.reduceEqDiff, Nat.reduceLT, reduceCtorEq, e0]
    exact weak_tm (by simp (config := { maxSteps := 2000000 }) only [go_sem, ↓reduceIte, Int.reduceToNat, Nat.reduceMul, Int.reduceBEq, Int.reduceBNe, Nat.reduceBEq, Nat.reduceAdd, Nat.reduceSub, Nat.reduceLeDiff, Nat.reduceEqDiff, Nat.reduceLT, reduceCtorEq])
  have e1 : IntKind.i64.wrap ((N : Int) - (V.length : Int)) = ((N - V.length : Nat) : Int) := by rw [w64 (by omega) (by omega)]; omega
  have e2 : IntKind.i64.wrap (((N - V.length : Nat) : Int) - 1) = ((N - V.length : Nat) : Int) - 1 := w64 (by omega) (by omega)
  have e3 : ((N - V.length : Nat) : Int).toNat = N - V.length := Int.toNat_natCast _
  simp (config := { maxSteps := 2000000 }) only [go_sem, ↓reduceIte, Int.reduceToNat, Nat.reduceMul, Int.reduceBEq, Int.reduceBNe, Nat.reduceBEq, Nat.reduceAdd, Nat.reduceSub, Nat.reduceLeDiff, Nat.reduceEqDiff, Nat.reduceLT, reduceCtorEq]
  refine AWp.ofD [] [] hn mixed rfl ?_
  simp (config := { maxSteps := 2000000 }) only [go_sem, ↓reduceIte, Int.reduceToNat, Nat.reduceMul, Int.reduceBEq, Int.reduceBNe, Nat.reduceBEq, Nat.reduceAdd, Nat.reduceSub, Nat.reduceLeDiff, Nat.reduceEqDiff, Nat.reduceLT, reduceCtorEq, e1, e2]
  refine ⟨⟨by omega, by omega⟩, ?_⟩
  rw [urep]
  have hU3' : U0.length = N := by omega
  refine AWp.loop (fun k s => ∃ A O : List Nat, k ≤ N - V.length ∧ A.length = N ∧ Dig A ∧ O.length = N - V.length ∧ Dig O ∧ val A < bs ^ k * val V ∧ val A + bs ^ k * (val (O.drop k) * val V) = n * y ∧ Weak E s ⟨[(6, U y), (7, .hnd 0 0 N N false), (8, dv V), (9, I V.length), (10, .hnd 1 0 (N - V.length) (N - V.length) true), (11, I ((k : Int) - 1))], [.arr 99 1 (A.map uc), .arr 99 1 (O.map uc)]⟩) (n := N - V.length)
    ⟨U0, List.replicate (N - V.length) 0, Nat.le_refl _, hU3', hU2, List.length_replicate, Dig.zeros _, ?_, ?_, weak_to [0, 1] hp hnp rfl (by simp (config := { maxSteps := 2000000 }) only [go_sem, ↓reduceIte, Int.reduceToNat, Nat.reduceMul, Int.reduceBEq, Int.reduceBNe, Nat.reduceBEq, Nat.reduceAdd, Nat.reduceSub, Nat.reduceLeDiff, Nat.reduceEqDiff, Nat.reduceLT, reduceCtorEq, Aw.pos] <;> rfl) (by simp (config := { maxSteps := 2000000 }) only [go_sem, ↓reduceIte, Int.reduceToNat, Nat.reduceMul, Int.reduceBEq, Int.reduceBNe, Nat.reduceBEq, Nat.reduceAdd, Nat.reduceSub, Nat.reduceLeDiff, Nat.reduceEqDiff, Nat.reduceLT, reduceCtorEq, Aw.renR, Aw.pos] <;> rfl)⟩ ?_
  · rw [hU1]
    have h1 : bs ^ (N - V.length) * bs ^ (V.length - 1) ≤ bs ^ (N - V.length) * val V := Nat.mul_le_mul_left _ (by rw [hvV]; exact hgeV)
    rw [← Nat.pow_add, show N - V.length + (V.length - 1) = (digs (n * y)).length by omega] at h1
    omega
  · rw [hU1, List.drop_of_length_le (by rw [List.length_replicate]; exact Nat.le_refl _)]; simp [val]
  rintro k s ⟨A, O, hk, hA, hdA, hO, hdO, hlt, hval, hw⟩
  cases k with
  | zero =>
    rw [Nat.pow_zero, Nat.one_mul] at hlt
    rw [Nat.pow_zero, Nat.one_mul, List.drop_zero] at hval
    refine AWp.weak hw (AWp.ofD [] [] hn mixed rfl ?_)
    have e0 : decide (((0 : Int)) - 1 ≥ 0) = false := rfl
    simp (config := { maxSteps := 2000000 }) only [go_sem, ↓reduceIte, Int.reduceToNat, Nat.reduceMul, Int.reduceBEq, Int.reduceBNe, Nat.reduceBEq, Nat.reduceAdd, Nat.reduceSub, Nat.reduceLeDiff, Nat.reduceEqDiff, Nat.reduceLT, reduceCtorEq, e0]
    refine AWpL.weak (weak_freeze 0 rfl (pin 0) (by simp (config := { maxSteps := 2000000 }) only [go_sem, ↓reduceIte, Int.reduceToNat, Nat.reduceMul, Int.reduceBEq, Int.reduceBNe, Nat.reduceBEq, Nat.reduceAdd, Nat.reduceSub, Nat.reduceLeDiff, Nat.reduceEqDiff, Nat.reduceLT, reduceCtorEq, Nat.le_refl, List.length_map, hA])) ?_
    have ef : ((A.map uc).take N) = A.map uc := List.take_of_length_le (by rw [List.length_map, hA]; exact Nat.le_refl _)
    simp (config := { maxSteps := 2000000 }) only [go_sem, ↓reduceIte, Int.reduceToNat, Nat.reduceMul, Int.reduceBEq, Int.reduceBNe, Nat.reduceBEq, Nat.reduceAdd, Nat.reduceSub, Nat.reduceLeDiff, Nat.reduceEqDiff, Nat.reduceLT, reduceCtorEq, ef]
    (refine AWpL.callA [] (s81 A (by omega)) rfl rfl (by rw [hn]; rfl) rfl (fun r hr => .inr (pin r)) fun rg v hv => ?_; obtain ⟨rfl, rfl⟩ := hv; refine ⟨Nat.le_refl _, AWpL.ofM hn rfl ?_⟩)
    have hAs : (digs (val A)).length ≤ V.length := by
      rw [← hV]; exact nl_mono (by omega)
    rw [trim_digs hdA]
    simp (config := { maxSteps := 2000000 }) only [go_sem, ↓reduceIte, Int.reduceToNat, Nat.reduceMul, Int.reduceBEq, Int.reduceBNe, Nat.reduceBEq, Nat.reduceAdd, Nat.reduceSub, Nat.reduceLeDiff, Nat.reduceEqDiff, Nat.reduceLT, reduceCtorEq, Aw.retS, Aw.retRg, Aw.kpM, Aw.bkM, Aw.pos, Aw.isBox]
    (refine AWpL.callA [] (s82 (val A) (by unfold nl; omega) y hy0 hy1) rfl rfl (by rw [hn]; rfl) rfl (fun r hr => .inr (pin r)) fun rg v hv => ?_; obtain ⟨rfl, rfl⟩ := hv; refine ⟨Nat.le_refl _, AWpL.ofM hn rfl ?_⟩)
    simp (config := { maxSteps := 2000000 }) only [go_sem, ↓reduceIte, Int.reduceToNat, Nat.reduceMul, Int.reduceBEq, Int.reduceBNe, Nat.reduceBEq, Nat.reduceAdd, Nat.reduceSub, Nat.reduceLeDiff, Nat.reduceEqDiff, Nat.reduceLT, reduceCtorEq, Aw.retS, Aw.retRg, Aw.kpM, Aw.bkM, Aw.pos, Aw.isBox]
    refine AWpL.weak (weak_freeze 1 rfl (pin 1) (by simp (config := { maxSteps := 2000000 }) only [go_sem, ↓reduceIte, Int.reduceToNat, Nat.reduceMul, Int.reduceBEq, Int.reduceBNe, Nat.reduceBEq, Nat.reduceAdd, Nat.reduceSub, Nat.reduceLeDiff, Nat.reduceEqDiff, Nat.reduceLT, reduceCtorEq, Nat.le_refl, List.length_map, hO])) ?_
    have ef : ((O.map uc).take (N - V.length)) = O.map uc := List.take_of_length_le (by rw [List.length_map, hO]; exact Nat.le_refl _)
    simp (config := { maxSteps := 2000000 }) only [go_sem, ↓reduceIte, Int.reduceToNat, Nat.reduceMul, Int.reduceBEq, Int.reduceBNe, Nat.reduceBEq, Nat.reduceAdd, Nat.reduceSub, Nat.reduceLeDiff, Nat.reduceEqDiff, Nat.reduceLT, reduceCtorEq, ef]
    refine AWpL.weak (weak_ent 168 (by rfl) (Ent.plain _ _ _ _)) ?_
    (refine AWpL.callA [] (s81 O (by omega)) rfl rfl (by rw [hn]; rfl) rfl (fun r hr => .inr (pin r)) fun rg v hv => ?_; obtain ⟨rfl, rfl⟩ := hv; refine ⟨Nat.le_refl _, AWpL.ofM hn rfl ?_⟩)
    simp (config := { maxSteps := 2000000 }) only [go_sem, ↓reduceIte, Int.reduceToNat, Nat.reduceMul, Int.reduceBEq, Int.reduceBNe, Nat.reduceBEq, Nat.reduceAdd, Nat.reduceSub, Nat.reduceLeDiff, Nat.reduceEqDiff, Nat.reduceLT, reduceCtorEq, Aw.retS, Aw.retRg, Aw.kpM, Aw.bkM, Aw.pos, Aw.isBox]
    refine Retn.ret (π := []) hp hnp ⟨rfl, ?_⟩
    simp (config := { maxSteps := 2000000 }) only [go_sem, ↓reduceIte, Int.reduceToNat, Nat.reduceMul, Int.reduceBEq, Int.reduceBNe, Nat.reduceBEq, Nat.reduceAdd, Nat.reduceSub, Nat.reduceLeDiff, Nat.reduceEqDiff, Nat.reduceLT, reduceCtorEq]
    have hvV0 : 0 < val V := by omega
    have g1 : val O = n / m := by
      have : n * y / (m * y) = val O := by rw [← hvV, ← hval, Nat.add_mul_div_right _ _ hvV0, Nat.div_eq_of_lt hlt, Nat.zero_add]
      rw [← this, Nat.mul_div_mul_right _ _ hy0]
    have g2 : val A / y = n % m := by
      have : n * y % (m * y) = val A := by rw [← hvV, ← hval, Nat.add_mul_mod_self_right, Nat.mod_eq_of_lt hlt]
      rw [← this, Nat.mul_mod_mul_right, Nat.mul_div_cancel _ hy0]
    rw [trim_digs hdO, g1, g2]
  | succ i =>
    have hest := est_of hdA hdV (by omega) hlastV hlt
    have e00 : ((i + 1 : Nat) : Int) - 1 = (i : Int) := by omega
    have e0 : decide ((i : Int) ≥ 0) = true := decide_eq_true (by omega)
    have f1 : IntKind.i64.wrap ((i : Int) + (V.length : Int)) = ((i + V.length : Nat) : Int) := by rw [w64 (by omega) (by omega)]; rfl
    have f2 : IntKind.i64.wrap (((i + V.length : Nat) : Int) - 1) = ((i + V.length - 1 : Nat) : Int) := by rw [w64 (by omega) (by omega)]; omega
    have f3 : IntKind.i64.wrap (((i + V.length : Nat) : Int) - 2) = ((i + V.length - 2 : Nat) : Int) := by rw [w64 (by omega) (by omega)]; omega
    have f4 : IntKind.i64.wrap ((V.length : Int) - 1) = ((V.length - 1 : Nat) : Int) := by rw [w64 (by omega) (by omega)]; omega
    have f5 : IntKind.i64.wrap ((V.length : Int) - 2) = ((V.length - 2 : Nat) : Int) := by rw [w64 (by omega) (by omega)]; omega
    have g1 := getD_mapD 0 uc (l := A) (i := i + V.length) (by omega)
    have g2 := getD_mapD 0 uc (l := A) (i := i + V.length - 1) (by omega)
    have g3 := getD_mapD 0 uc (l := A) (i := i + V.length - 2) (by omega)
    have g4 := getD_mapD 0 uc (l := V) (i := V.length - 1) (by omega)
    have g5 := getD_mapD 0 uc (l := V) (i := V.length - 2) (by omega)
    have l1 := dget hdA (i + V.length)
    have l2 := dget hdA (i + V.length - 1)
    have l3 := dget hdA (i + V.length - 2)
    have l4 := dget hdV (V.length - 1)
    have l5 := dget hdV (V.length - 2)
    obtain ⟨hv1, hvl, hvu, hwl, hwu, hvb, hwv, htop, hq0, hzero⟩ := hest
    obtain ⟨w, hw0⟩ : ∃ w, w = val A / bs ^ i := ⟨_, rfl⟩
    rw [← hw0] at hwl hwu hwv hq0
    generalize hd0 : A.getD (i + V.length) 0 = d0 at *
    generalize hd1 : A.getD (i + V.length - 1) 0 = d1 at *
    generalize hu2 : A.getD (i + V.length - 2) 0 = u2 at *
    generalize hv1e : V.getD (V.length - 1) 0 = v1 at *
    generalize hv2e : V.getD (V.length - 2) 0 = v2 at *
    have m1 : IntKind.u64.wrap (d0 : Int) = (d0 : Int) := w64n (by omega)
    have m2 : IntKind.u64.wrap (d1 : Int) = (d1 : Int) := w64n (by omega)
    have m3 : IntKind.u64.wrap (u2 : Int) = (u2 : Int) := w64n (by omega)
    have m4 : IntKind.u64.wrap (v1 : Int) = (v1 : Int) := w64n (by omega)
    have m5 : IntKind.u64.wrap (v2 : Int) = (v2 : Int) := w64n (by omega)
    have m6 : IntKind.u64.wrap ((d0 : Int) * 1000000000) = ((d0 * bs : Nat) : Int) := by
      rw [cmul]
      exact w64n (two_dig l1 l2).1
    have htopb : topN d0 d1 < bs * bs := (two_dig l1 l2).2
    have m7 : IntKind.u64.wrap (((d0 * bs : Nat) : Int) + (d1 : Int)) = ((topN d0 d1 : Nat) : Int) := by
      rw [← Int.natCast_add]; exact w64n htopb
    generalize htp : topN d0 d1 = top at *
    have hqle : top / v1 ≤ top := Nat.div_le_self _ _
    have hrlt : top % v1 < v1 := Nat.mod_lt _ hv1
    have hqr : top / v1 * v1 + top % v1 = top := by rw [Nat.mul_comm]; exact Nat.div_add_mod _ _
    have m8 : IntKind.u64.wrap ((top : Int).tdiv (v1 : Int)) = ((top / v1 : Nat) : Int) := by
      rw [divN]; exact w64n (Nat.lt_of_le_of_lt hqle htopb)
    have m9 := modN top v1
    have m10 : (v1 : Int) ≠ 0 := by omega
    obtain ⟨Q, hQ⟩ : ∃ Q, estL v1 v2 u2 (top / v1 + 1) (top / v1) (top % v1) = Q := ⟨_, rfl⟩
    have hQok := estL_ok hv1 l5 hvl hvu hwl hwu hvb hwv htop (top / v1 + 1) (top / v1) (top % v1) hqr hq0 (by omega) (by omega)
    rw [hQ] at hQok
    obtain ⟨hQ1, hQ2, hQ3⟩ := hQok
    have hQone := est_one (by omega) hQ2 hQ1
    refine AWp.weak hw (AWp.ofD [4] [149] hn mixed rfl ?_)
    rw [e00]
    simp (config := { maxSteps := 2000000 }) only [go_sem, ↓reduceIte, Int.reduceToNat, Nat.reduceMul, Int.reduceBEq, Int.reduceBNe, Nat.reduceBEq, Nat.reduceAdd, Nat.reduceSub, Nat.reduceLeDiff, Nat.reduceEqDiff, Nat.reduceLT, reduceCtorEq, e0, f1, f2, f4, g1, g2, g4, m1, m2, m4, m6, m7, m8, m9]
    (repeat (refine And.intro (by first | omega | (refine ⟨by omega, by omega⟩) | (refine ⟨by omega, by omega, by omega⟩) | (simp only [List.length_map, List.length_range, List.length_append, List.length_cons, List.length_nil, List.length_replicate, List.length_set]; omega) | (simp; omega) | (intro hgd; cases hgd) | (intro hgd; refine ⟨hgd, ?_⟩; first | omega | (refine ⟨by omega, by omega⟩) | (simp; omega))) ?_))
    refine AWp.cut ⟨[(6, U y), (7, .hnd 0 0 N N false), (8, dv V), (9, I V.length), (10, .hnd 1 0 (N - V.length) (N - V.length) true), (11, I i), (13, U8 Q)], [.arr 99 1 (A.map uc), .arr 99 1 (O.map uc)]⟩ (AWp.ofD [] [] hn mixed rfl ?_) ?_
    · simp (config := { maxSteps := 2000000 }) only [go_sem, ↓reduceIte, Int.reduceToNat, Nat.reduceMul, Int.reduceBEq, Int.reduceBNe, Nat.reduceBEq, Nat.reduceAdd, Nat.reduceSub, Nat.reduceLeDiff, Nat.reduceEqDiff, Nat.reduceLT, reduceCtorEq]
      refine AWp.loop (fun f s => ∃ q r : Nat, q * v1 + r = top ∧ r < bs ∧ q < f ∧ estL v1 v2 u2 f q r = Q ∧ Weak E s ⟨[(6, U y), (7, .hnd 0 0 N N false), (8, dv V), (9, I V.length), (10, .hnd 1 0 (N - V.length) (N - V.length) true), (11, I i), (13, U8 q), (14, U8 r)], [.arr 99 1 (A.map uc), .arr 99 1 (O.map uc)]⟩) (n := top / v1 + 1)
        ⟨top / v1, top % v1, hqr, by omega, by omega, hQ, weak_to [0, 1] hp hnp rfl (by simp (config := { maxSteps := 2000000 }) only [go_sem, ↓reduceIte, Int.reduceToNat, Nat.reduceMul, Int.reduceBEq, Int.reduceBNe, Nat.reduceBEq, Nat.reduceAdd, Nat.reduceSub, Nat.reduceLeDiff, Nat.reduceEqDiff, Nat.reduceLT, reduceCtorEq, Aw.pos] <;> rfl) (by simp (config := { maxSteps := 2000000 }) only [go_sem, ↓reduceIte, Int.reduceToNat, Nat.reduceMul, Int.reduceBEq, Int.reduceBNe, Nat.reduceBEq, Nat.reduceAdd, Nat.reduceSub, Nat.reduceLeDiff, Nat.reduceEqDiff, Nat.reduceLT, reduceCtorEq, Aw.renR, Aw.pos] <;> rfl)⟩ ?_
      rintro f s' ⟨q, r, hqr', hr, hqf, hQ', hw'⟩
      obtain ⟨f, rfl⟩ : ∃ g, f = g + 1 := ⟨f - 1, by omega⟩
      have hqb := q_bound hv1 hqr' htop
      unfold estL at hQ'
      have n1 : IntKind.u64.wrap ((q : Int) * (v2 : Int)) = ((q * v2 : Nat) : Int) := by
        rw [← Int.natCast_mul]; exact w64m (qv_bound hqb l5)
      have n2 : IntKind.u64.wrap ((r : Int) * 1000000000) = ((r * bs : Nat) : Int) := by
        rw [cmul]; exact w64n (two_dig hr l3).1
      have n3 : IntKind.u64.wrap (((r * bs : Nat) : Int) + (u2 : Int)) = ((r * bs + u2 : Nat) : Int) := by
        rw [← Int.natCast_add]; exact w64n (two_dig hr l3).2
      refine AWp.weak hw' (AWp.ofD [] [132] hn mixed rfl ?_)
      simp (config := { maxSteps := 2000000 }) only [go_sem, ↓reduceIte, Int.reduceToNat, Nat.reduceMul, Int.reduceBEq, Int.reduceBNe, Nat.reduceBEq, Nat.reduceAdd, Nat.reduceSub, Nat.reduceLeDiff, Nat.reduceEqDiff, Nat.reduceLT, reduceCtorEq, f1, f3, f5, g3, g5, m3, m5, n1, n2, n3]
      refine ⟨fun h => ⟨h, by omega, by omega⟩, fun h => ⟨h, by omega, by omega⟩, fun h => ⟨h, by omega⟩, ?_⟩
      have hc : (decide ((q : Int) ≥ 1000000000) || decide (((q * v2 : Nat) : Int) > ((r * bs + u2 : Nat) : Int))) = decide (q ≥ bs ∨ q * v2 > r * bs + u2) := by
        rw [Bool.decide_or]
        congr 1
        · exact decide_eq_decide.2 (by omega)
        · exact decide_eq_decide.2 Int.ofNat_lt
      rw [hc]
      refine AWp.cond (by rfl) (fun h => ?_) (fun h => ?_)
      · have hcc := of_decide_eq_true h
        rw [if_pos hcc] at hQ'
        have hq0' : 0 < q := by
          rcases Nat.eq_zero_or_pos q with h0 | h0
          · subst h0
            rw [Nat.zero_mul] at hcc
            omega
          · exact h0
        have p1 : IntKind.u64.wrap ((q : Int) - 1) = ((q - 1 : Nat) : Int) := by
          rw [show (q : Int) - 1 = ((q - 1 : Nat) : Int) by omega]; exact w64m (by omega)
        have p2 : IntKind.u64.wrap ((r : Int) + (v1 : Int)) = ((r + v1 : Nat) : Int) := by
          rw [← Int.natCast_add]; exact w64m (by omega)
        refine AWp.ofD [] [] hn mixed rfl ?_
        simp (config := { maxSteps := 2000000 }) only [go_sem, ↓reduceIte, Int.reduceToNat, Nat.reduceMul, Int.reduceBEq, Int.reduceBNe, Nat.reduceBEq, Nat.reduceAdd, Nat.reduceSub, Nat.reduceLeDiff, Nat.reduceEqDiff, Nat.reduceLT, reduceCtorEq, f4, g4, m4, p1, p2]
        (repeat (refine And.intro (by first | omega | (refine ⟨by omega, by omega⟩) | (refine ⟨by omega, by omega, by omega⟩) | (simp only [List.length_map, List.length_range, List.length_append, List.length_cons, List.length_nil, List.length_replicate, List.length_set]; omega) | (simp; omega) | (intro hgd; cases hgd) | (intro hgd; refine ⟨hgd, ?_⟩; first | omega | (refine ⟨by omega, by omega⟩) | (simp; omega))) ?_))
        refine ⟨fun h2 => ?_, fun h2 => ?_⟩
        · have h3 := of_decide_eq_true h2
          rw [if_pos (by omega)] at hQ'
          rw [hQ']
          exact weak_tm (by simp (config := { maxSteps := 2000000 }) only [go_sem, ↓reduceIte, Int.reduceToNat, Nat.reduceMul, Int.reduceBEq, Int.reduceBNe, Nat.reduceBEq, Nat.reduceAdd, Nat.reduceSub, Nat.reduceLeDiff, Nat.reduceEqDiff, Nat.reduceLT, reduceCtorEq])
        · have h3 := of_decide_eq_false h2
          rw [if_neg (by omega)] at hQ'
          refine ⟨f, by omega, q - 1, r + v1, ?_, by omega, by omega, hQ', weak_tm (by simp (config := { maxSteps := 2000000 }) only [go_sem, ↓reduceIte, Int.reduceToNat, Nat.reduceMul, Int.reduceBEq, Int.reduceBNe, Nat.reduceBEq, Nat.reduceAdd, Nat.reduceSub, Nat.reduceLeDiff, Nat.reduceEqDiff, Nat.reduceLT, reduceCtorEq])⟩
          obtain ⟨q', rfl⟩ : ∃ q', q = q' + 1 := ⟨q - 1, by omega⟩
          rw [Nat.add_mul, Nat.one_mul] at hqr'
          rw [Nat.add_sub_cancel]; omega
      · rw [if_neg (of_decide_eq_false h)] at hQ'
        refine AWp.ofD [] [] hn mixed rfl ?_
        simp (config := { maxSteps := 2000000 }) only [go_sem, ↓reduceIte, Int.reduceToNat, Nat.reduceMul, Int.reduceBEq, Int.reduceBNe, Nat.reduceBEq, Nat.reduceAdd, Nat.reduceSub, Nat.reduceLeDiff, Nat.reduceEqDiff, Nat.reduceLT, reduceCtorEq]
        rw [hQ']
        exact weak_tm (by simp (config := { maxSteps := 2000000 }) only [go_sem, ↓reduceIte, Int.reduceToNat, Nat.reduceMul, Int.reduceBEq, Int.reduceBNe, Nat.reduceBEq, Nat.reduceAdd, Nat.reduceSub, Nat.reduceLeDiff, Nat.reduceEqDiff, Nat.reduceLT, reduceCtorEq])
    simp (config := { maxSteps := 2000000 }) only [go_sem, ↓reduceIte, Int.reduceToNat, Nat.reduceMul, Int.reduceBEq, Int.reduceBNe, Nat.reduceBEq, Nat.reduceAdd, Nat.reduceSub, Nat.reduceLeDiff, Nat.reduceEqDiff, Nat.reduceLT, reduceCtorEq]
    have hQv : IntKind.u64.wrap (Q : Int) = (Q : Int) := w64n (by omega)
    refine AWpL_callK [0] 7 (s83 A V i Q N false hA.symm hdA hdV (by omega) (by omega) hQ3) rfl rfl (by rw [hn]; rfl) rfl (fun r hr => .inr (pin r)) (by rfl) (by rfl) (by omega) (by decide) fun rg v hv' => ?_
    obtain ⟨A', b', hdA', hA', hb', hval', hdrop', rfl, rfl⟩ := hv'
    refine ⟨Nat.le_refl _, AWpL.ofM hn rfl ?_⟩
    simp (config := { maxSteps := 2000000 }) only [go_sem, ↓reduceIte, Int.reduceToNat, Nat.reduceMul, Int.reduceBEq, Int.reduceBNe, Nat.reduceBEq, Nat.reduceAdd, Nat.reduceSub, Nat.reduceLeDiff, Nat.reduceEqDiff, Nat.reduceLT, reduceCtorEq, Aw.retS, Aw.retRg, Aw.kpM, Aw.bkM, Aw.pos, Aw.isBox]
    have hBp : 0 < bs ^ i := Nat.pow_pos bs_pos
    have hVp : 0 < val V := by omega
    refine AWp.cutP (fun s0 => ∃ A2 : List Nat, Dig A2 ∧ A2.length = N ∧ val A2 < bs ^ i * val V ∧ val A2 + bs ^ i * (w / val V * val V) = val A ∧ w / val V < bs ∧ s0 = ⟨[(6, U y), (7, .hnd 0 0 N N false), (8, dv V), (9, I V.length), (10, .hnd 1 0 (N - V.length) (N - V.length) true), (11, I i), (13, U8 ((w / val V : Nat) : Int))], [.arr 99 1 (A2.map uc), .arr 99 1 (O.map uc)]⟩) ?_ ?_
    · rcases Nat.eq_zero_or_pos b' with hb0 | hb0
      · subst hb0
        rw [Nat.mul_zero, Nat.add_zero] at hval'
        obtain ⟨h1, h2⟩ := div_case0 hBp hVp hw0 hQone hval'
        have e0 : decide ((0 : Int) > 0) = false := rfl
        refine AWp.ofD [] [] hn mixed rfl ?_
        simp (config := { maxSteps := 2000000 }) only [go_sem, ↓reduceIte, Int.reduceToNat, Nat.reduceMul, Int.reduceBEq, Int.reduceBNe, Nat.reduceBEq, Nat.reduceAdd, Nat.reduceSub, Nat.reduceLeDiff, Nat.reduceEqDiff, Nat.reduceLT, reduceCtorEq, e0]
        refine ⟨_, ⟨A', hdA', by omega, h2, by rw [← h1]; exact hval', by omega, rfl⟩, ?_⟩
        rw [← h1]
        exact weak_tm (by simp (config := { maxSteps := 2000000 }) only [go_sem, ↓reduceIte, Int.reduceToNat, Nat.reduceMul, Int.reduceBEq, Int.reduceBNe, Nat.reduceBEq, Nat.reduceAdd, Nat.reduceSub, Nat.reduceLeDiff, Nat.reduceEqDiff, Nat.reduceLT, reduceCtorEq])
      · have hb1' : b' = 1 := by omega
        subst hb1'
        rw [Nat.mul_one] at hval'
        have e0 : decide ((1 : Int) > 0) = true := rfl
        have hz1 : val A < bs ^ (i + V.length + 1) := drop_lt hdA hzero
        have hz2 : val A' < bs ^ (i + V.length + 1) := drop_lt hdA' (by rw [hdrop']; exact hzero)
        have hQ0 : 0 < Q := by
          rcases Nat.eq_zero_or_pos Q with h0 | h0
          · subst h0
            rw [Nat.zero_mul, Nat.mul_zero] at hval'
            omega
          · exact h0
        have p1 : IntKind.u64.wrap ((Q : Int) - 1) = ((Q - 1 : Nat) : Int) := by
          rw [show (Q : Int) - 1 = ((Q - 1 : Nat) : Int) by omega]; exact w64m (by omega)
        refine AWp.ofD [] [] hn mixed rfl ?_
        simp (config := { maxSteps := 2000000 }) only [go_sem, ↓reduceIte, Int.reduceToNat, Nat.reduceMul, Int.reduceBEq, Int.reduceBNe, Nat.reduceBEq, Nat.reduceAdd, Nat.reduceSub, Nat.reduceLeDiff, Nat.reduceEqDiff, Nat.reduceLT, reduceCtorEq, e0, p1]
        refine AWpL_callK [0] 7 (s84 A' V i N false (by omega) hdA' hdV (by omega) (by omega)) rfl rfl (by rw [hn]; rfl) rfl (fun r hr => .inr (pin r)) (by rfl) (by rfl) (by omega) (by decide) fun rg v hv' => ?_
        obtain ⟨A'', c', hdA'', hA'', hc', hval'', hdrop'', rfl, rfl⟩ := hv'
        refine ⟨Nat.le_refl _, AWpL.ofM hn rfl ?_⟩
        simp (config := { maxSteps := 2000000 }) only [go_sem, ↓reduceIte, Int.reduceToNat, Nat.reduceMul, Int.reduceBEq, Int.reduceBNe, Nat.reduceBEq, Nat.reduceAdd, Nat.reduceSub, Nat.reduceLeDiff, Nat.reduceEqDiff, Nat.reduceLT, reduceCtorEq, Aw.retS, Aw.retRg, Aw.kpM, Aw.bkM, Aw.pos, Aw.isBox]
        have hz3 : val A'' < bs ^ (i + V.length + 1) := drop_lt hdA'' (by rw [hdrop'', hdrop']; exact hzero)
        obtain ⟨h1, h2, h3⟩ := div_case1 hBp hVp hw0 hQone hval' hz2 hz1 hz3 hc' hval''
        refine ⟨_, ⟨A'', hdA'', by omega, h3, h2, by omega, rfl⟩, ?_⟩
        rw [show w / val V = Q - 1 by omega]
        exact weak_tm (by simp (config := { maxSteps := 2000000 }) only [go_sem, ↓reduceIte, Int.reduceToNat, Nat.reduceMul, Int.reduceBEq, Int.reduceBNe, Nat.reduceBEq, Nat.reduceAdd, Nat.reduceSub, Nat.reduceLeDiff, Nat.reduceEqDiff, Nat.reduceLT, reduceCtorEq])
    rintro s0 ⟨A2, hdA2, hA2, hlt2, hval2, hq2, rfl⟩
    have p3 : IntKind.u32.wrap ((w / val V : Nat) : Int) = ((w / val V : Nat) : Int) := w32 (Int.natCast_nonneg _) (by omega)
    have p4 := getD_mapD 0 uc (l := O) (i := i) (by omega)
    have p5 : IntKind.i64.wrap ((i : Int) - 1) = (i : Int) - 1 := w64 (by omega) (by omega)
    simp (config := { maxSteps := 2000000 }) only [go_sem, ↓reduceIte, Int.reduceToNat, Nat.reduceMul, Int.reduceBEq, Int.reduceBNe, Nat.reduceBEq, Nat.reduceAdd, Nat.reduceSub, Nat.reduceLeDiff, Nat.reduceEqDiff, Nat.reduceLT, reduceCtorEq, p3, p4, p5, uset]
    (repeat (refine And.intro (by first | omega | (refine ⟨by omega, by omega⟩) | (refine ⟨by omega, by omega, by omega⟩) | (simp only [List.length_map, List.length_range, List.length_append, List.length_cons, List.length_nil, List.length_replicate, List.length_set]; omega) | (simp; omega) | (intro hgd; cases hgd) | (intro hgd; refine ⟨hgd, ?_⟩; first | omega | (refine ⟨by omega, by omega⟩) | (simp; omega))) ?_))
    refine ⟨i, by omega, A2, O.set i (w / val V), by omega, hA2, hdA2, by rw [List.length_set, hO], hdO.set _ _ hq2, hlt2, ?_, weak_tm (by simp (config := { maxSteps := 2000000 }) only [go_sem, ↓reduceIte, Int.reduceToNat, Nat.reduceMul, Int.reduceBEq, Int.reduceBNe, Nat.reduceBEq, Nat.reduceAdd, Nat.reduceSub, Nat.reduceLeDiff, Nat.reduceEqDiff, Nat.reduceLT, reduceCtorEq])⟩
    have h1 : (O.set i (w / val V)).getD i 0 = w / val V := by rw [List.getD_eq_getElem?_getD, List.getElem?_set_self (by omega)]; rfl
    rw [val_drop1 (O.set i (w / val V)), h1, List.drop_set_of_lt (by omega : i < i + 1)]
    rw [← hval, ← hval2, Nat.pow_succ, Nat.add_mul, Nat.mul_add, Nat.add_assoc]
    congr 2
    ac_rfl
end Go.Proofs.YtjaakbkneeojnaaDoor
