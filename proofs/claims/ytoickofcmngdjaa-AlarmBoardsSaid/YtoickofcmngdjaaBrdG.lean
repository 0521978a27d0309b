/- Alarms: the law of boards. -/
import Derived.Test.YtoickofcmngdjaaAwZl
import Derived.Test.YtoickofcmngdjaaBrdP
set_option linter.unusedVariables false
set_option linter.unusedSimpArgs false
namespace Go.Proofs.Ytoickofcmngdjaa
open Go.Proofs.Ytoickofcmngdjaa.Aw
attribute [local go_sem] Int.natCast_zero Int.natCast_one bne_self_eq_false beq_self_eq_true Bool.not_true Bool.not_false Option.isSome_none Option.isSome_some Aw.bkM_nil Option.getD_some Option.getD_none Nat.sub_zero Int.toNat_zero Aw.frzS Aw.frzT Aw.frzA Aw.frzL Aw.frzR Aw.frzO Aw.frzOL Aw.frzOT Aw.frzOR Aw.killS Aw.mapT Aw.mapR Aw.killM Aw.resAVs Aw.resAV Aw.quietOps Aw.wpP Aw.wpT Aw.wpS Aw.AOp.mild List.getElem?_cons_zero List.getElem?_cons_succ Bool.and_false Bool.and_self Bool.false_and Aw.opOb Aw.gdB Aw.Rnd Aw.subTm List.length_map Int.toNat_natCast and_self Aw.SeqC Aw.stops Aw.Ends Aw.looks Aw.renA Aw.renL Aw.renT Aw.renS Aw.wpO Aw.aop Aw.putTm Aw.St.ev Aw.St.put Aw.St.putO Aw.binAV Aw.intBin Aw.strBin Aw.pickAV Aw.optInt Aw.AV.strip Aw.AV.guard Aw.AV.cells Aw.gdOb Aw.AOp.opds Aw.AOp.still Aw.ptrCells Aw.St.reg Aw.fillAV Aw.fillOb Aw.elsOb Aw.splice Aw.firm Aw.cellish Aw.AV.shut Aw.shutAll Aw.Seq Aw.Blk Aw.retS_nil Aw.mapA Aw.mapL Aw.borA Aw.borOb Aw.allOb Aw.tupOf Aw.params Aw.Opd.of Array.toList Value.cells List.map_cons List.map_nil List.getD_cons_zero List.getD_cons_succ List.getD_nil List.length_cons List.length_nil List.take_succ_cons List.take_zero List.take_nil List.drop_zero List.drop_succ_cons List.drop_nil List.set_cons_zero List.set_cons_succ List.append_nil List.nil_append List.cons_append List.all_cons List.all_nil cond_false cond_true if_true if_false true_and and_true Bool.and_true Bool.true_and Option.map_some Option.map_none false_implies forall_const implies_true forall_eq imp_self Bool.cond_false_right Bool.cond_true_left beq_true beq_false Bool.not_eq_true' Bool.false_eq_true Nat.zero_add Nat.add_zero Aw.eqCells Aw.stopDraw Aw.skipS Aw.exactCap Aw.revealS Aw.srcEls Aw.srcSz
attribute [local go_sem ↓] Aw.look_nil Aw.look_ite Aw.wpL_nil Aw.wpL_op Aw.wpL_gd Aw.wpQ_nil Aw.wpQ_op Aw.wpQ_gd Aw.wpC_draw Aw.wpC_reg Aw.wpC_skip Aw.wpC_ret Aw.wpC_exit Aw.wpC_seq Aw.wpC_block Aw.wpC_loop Aw.wpC_cond Aw.stopAt_nil Aw.stopAt_cons Aw.wpD_skip Aw.wpD_ret Aw.wpD_exit Aw.wpD_region Aw.wpD_draw Aw.wpM_nil Aw.wpM_op Aw.wpM_gd Aw.wpD_seq Aw.wpD_block Aw.wpD_loop Aw.wpD_cond

/- slices.Delete[[]string,string] -/
def a19 : ACode :=
  (.seq (.region false [] [
     ⟨(some 6), none, (.mov (.v (.slice none 0 0)))⟩])
  (.seq (.region false [] [
     ⟨(some 8), none, (.mov (.t 0))⟩,
     ⟨(some 9), none, (.mov (.t 1))⟩,
     ⟨(some 10), none, (.mov (.t 2))⟩,
     ⟨(some 11), none, (.mov (.t 0))⟩,
     ⟨(some 12), none, (.len (.t 11))⟩,
     ⟨(some 13), none, (.slc 1 (.t 8) (some (.t 9)) (some (.t 10)) (some (.t 12)))⟩])
  (.seq (.seq (.region false [] [
     ⟨(some 14), none, (.mov (.t 1))⟩,
     ⟨(some 15), none, (.mov (.t 2))⟩,
     ⟨(some 16), none, (.bin .eql 3 (.t 14) (.t 15))⟩])
  (.cond (.t 16)
    (.seq (.region false [] [
       ⟨(some 17), none, (.mov (.t 0))⟩,
       ⟨(some 6), none, (.mov (.t 17))⟩])
    .ret)
    .skip))
  (.seq (.region false [] [
     ⟨(some 18), none, (.mov (.t 0))⟩,
     ⟨(some 19), none, (.len (.t 18))⟩,
     ⟨(some 7), none, (.mov (.t 19))⟩])
  (.seq (.region true [[], [], [0, 1], [], [], [3, 4], [2, 5], [6, 6, 0, 1, 2, 3, 4, 5, 6]] [
     ⟨(some 20), none, (.mov (.t 0))⟩,
     ⟨(some 21), none, (.mov (.t 1))⟩,
     ⟨(some 22), none, (.slc 1 (.t 20) none (some (.t 21)) none)⟩,
     ⟨(some 23), none, (.mov (.t 0))⟩,
     ⟨(some 24), none, (.mov (.t 2))⟩,
     ⟨(some 25), none, (.slc 1 (.t 23) (some (.t 24)) none none)⟩,
     ⟨(some 26), none, (.app 9 1 16 (.string ⟨#[]⟩) (.t 22) (.t 25))⟩,
     ⟨(some 0), none, (.mov (.t 26))⟩])
  (.seq (.region false [] [
     ⟨(some 27), none, (.mov (.t 0))⟩,
     ⟨(some 28), none, (.mov (.t 0))⟩,
     ⟨(some 29), none, (.len (.t 28))⟩,
     ⟨(some 30), none, (.mov (.t 7))⟩,
     ⟨(some 31), none, (.slc 1 (.t 27) (some (.t 29)) (some (.t 30)) none)⟩,
     ⟨none, none, (.clr 1 (.string ⟨#[]⟩) (.t 31))⟩])
  (.seq (.region false [] [
     ⟨(some 32), none, (.mov (.t 0))⟩,
     ⟨(some 6), none, (.mov (.t 32))⟩])
  .ret)))))))
theorem k19 : FnIs Try.prog 19 33 [.t 6] a19 := ⟨_, _, Try.func19, rfl, by kernel_rfl, by kernel_rfl, rfl⟩
/- gridhall/gridhallkeep4.AlarmBoards -/
def a5 : ACode :=
  (.seq (.region false [] [
     ⟨(some 6), none, (.mov (.v (.bool false)))⟩])
  (.seq (.region false [] [
     ⟨(some 22), none, (.mov (.t 0))⟩,
     ⟨(some 23), none, (.call 14 [(.t 22)])⟩,
     ⟨(some 21), none, (.mov (.t 23))⟩,
     ⟨(some 24), none, (.ext 0 (.t 21))⟩,
     ⟨(some 25), none, (.ext 1 (.t 21))⟩,
     ⟨(some 7), none, (.mov (.t 24))⟩,
     ⟨(some 8), none, (.mov (.t 25))⟩])
  (.seq (.seq (.region false [] [
     ⟨(some 26), none, (.mov (.t 8))⟩,
     ⟨(some 27), none, (.bin .neq 24 (.t 26) (.v (.int .i64 0)))⟩,
     ⟨(some 28), none, (.mov (.t 27))⟩,
     ⟨(some 29), (some (28, false)), (.mov (.t 7))⟩,
     ⟨(some 30), (some (28, false)), (.nilP false (.t 29))⟩,
     ⟨(some 31), none, (.pick (.t 28) (.v (.bool true)) (.t 30))⟩])
  (.cond (.t 31)
    (.seq (.region false [] [
       ⟨(some 32), none, (.call 7 [])⟩,
       ⟨(some 33), none, (.mov (.t 32))⟩,
       ⟨(some 34), (some (33, true)), (.mov (.t 7))⟩,
       ⟨(some 35), (some (33, true)), (.nilP false (.t 34))⟩,
       ⟨(some 36), none, (.pick (.t 33) (.t 35) (.v (.bool false)))⟩,
       ⟨(some 37), none, (.mov (.t 36))⟩,
       ⟨(some 38), (some (37, true)), (.mov (.t 0))⟩,
       ⟨(some 39), (some (37, true)), (.call 6 [(.t 38)])⟩,
       ⟨(some 40), (some (37, true)), (.mov (.t 8))⟩,
       ⟨(some 41), (some (37, true)), (.bin .eql 24 (.t 39) (.t 40))⟩,
       ⟨(some 42), none, (.pick (.t 37) (.t 41) (.v (.bool false)))⟩,
       ⟨(some 6), none, (.mov (.t 42))⟩])
    .ret)
    .skip))
  (.seq (.region false [] [
     ⟨(some 9), none, (.mov (.v (.slice none 0 0)))⟩])
  (.seq (.seq (.region false [] [
     ⟨(some 43), none, (.mov (.t 1))⟩,
     ⟨(some 44), none, (.mov (.t 1))⟩,
     ⟨(some 45), none, (.len (.t 44))⟩,
     ⟨(some 46), none, (.mni (.t 45) (.v (.int .i64 8)))⟩,
     ⟨(some 47), none, (.slc 1 (.t 43) none (some (.t 46)) none)⟩,
     ⟨(some 48), none, (.len (.t 47))⟩,
     ⟨(some 49), none, (.mov (.v (.int .i64 0)))⟩])
  (.block 0 (.loop (.seq (.region false [] [
       ⟨(some 50), none, (.bin .lss 3 (.t 49) (.t 48))⟩])
    (.seq (.cond (.t 50)
      .skip
      (.exit 0))
    (.seq (.block 1 (.seq (.region false [] [
        ⟨(some 51), none, (.mov (.t 49))⟩,
        ⟨(some 52), none, (.idx 1 (.t 47) (.t 49))⟩,
        ⟨(some 53), none, (.load 1 false (.t 52))⟩,
        ⟨(some 10), none, (.mov (.t 51))⟩,
        ⟨(some 11), none, (.mov (.t 53))⟩])
     (.seq (.region false [] [
        ⟨(some 54), none, (.mov (.t 7))⟩,
        ⟨(some 55), none, (.mov (.t 11))⟩,
        ⟨(some 56), none, (.mov (.t 10))⟩,
        ⟨(some 57), none, (.bin .quo 3 (.t 56) (.v (.int .i64 2)))⟩,
        ⟨(some 58), none, (.call 15 [(.t 54), (.t 55), (.t 57)])⟩,
        ⟨(some 59), none, (.bin .eql 24 (.t 58) (.v (.int .i64 0)))⟩])
     (.cond (.t 59)
       (.region false [] [
          ⟨(some 60), none, (.mov (.t 9))⟩,
          ⟨(some 61), none, (.mov (.t 11))⟩,
          ⟨(some 62), none, (.bsl 9 1 1 [(0, (.t 61))])⟩,
          ⟨(some 63), none, (.app 9 1 16 (.string ⟨#[]⟩) (.t 60) (.t 62))⟩,
          ⟨(some 9), none, (.mov (.t 63))⟩])
       .skip))))
    (.region false [] [
       ⟨(some 64), none, (.bin .add 3 (.t 49) (.v (.int .i64 1)))⟩,
       ⟨(some 49), none, (.mov (.t 64))⟩])))))))
  (.seq (.region false [] [
     ⟨(some 65), none, (.mov (.t 9))⟩,
     ⟨(some 66), none, (.mov (.t 2))⟩,
     ⟨(some 67), none, (.call 16 [(.t 65), (.t 66)])⟩,
     ⟨(some 12), none, (.mov (.t 67))⟩])
  (.seq (.region false [] [
     ⟨(some 68), none, (.mov (.t 7))⟩,
     ⟨(some 69), none, (.mov (.t 2))⟩,
     ⟨(some 70), none, (.call 17 [(.t 68), (.t 69)])⟩,
     ⟨(some 71), none, (.mov (.t 7))⟩,
     ⟨(some 72), none, (.mov (.t 2))⟩,
     ⟨(some 73), none, (.call 17 [(.t 71), (.t 72)])⟩,
     ⟨(some 74), none, (.mov (.t 7))⟩,
     ⟨(some 75), none, (.mov (.t 2))⟩,
     ⟨(some 76), none, (.call 18 [(.t 74), (.t 75)])⟩,
     ⟨(some 13), none, (.mov (.t 70))⟩,
     ⟨(some 14), none, (.mov (.t 73))⟩,
     ⟨(some 15), none, (.mov (.t 76))⟩])
  (.seq (.seq (.region false [] [
     ⟨(some 77), none, (.mov (.t 12))⟩,
     ⟨(some 78), none, (.bin .lss 3 (.t 77) (.v (.int .i64 0)))⟩,
     ⟨(some 79), none, (.mov (.t 78))⟩,
     ⟨(some 80), (some (79, true)), (.mov (.t 13))⟩,
     ⟨(some 81), (some (79, true)), (.bin .neq 24 (.t 80) (.v (.int .i64 8)))⟩,
     ⟨(some 82), (some (79, true)), (.mov (.t 81))⟩,
     ⟨(some 83), (some (82, false)), (.mov (.t 15))⟩,
     ⟨(some 84), (some (82, false)), (.bin .neq 24 (.t 83) (.v (.int .i64 8)))⟩,
     ⟨(some 85), (some (79, true)), (.pick (.t 82) (.v (.bool true)) (.t 84))⟩,
     ⟨(some 86), none, (.pick (.t 79) (.t 85) (.v (.bool false)))⟩,
     ⟨(some 87), none, (.mov (.t 86))⟩,
     ⟨(some 88), (some (87, false)), (.mov (.t 12))⟩,
     ⟨(some 89), (some (87, false)), (.bin .geq 3 (.t 88) (.v (.int .i64 0)))⟩,
     ⟨(some 90), (some (87, false)), (.mov (.t 89))⟩,
     ⟨(some 91), (some (90, true)), (.mov (.t 13))⟩,
     ⟨(some 92), (some (90, true)), (.bin .neq 24 (.t 91) (.v (.int .i64 0)))⟩,
     ⟨(some 93), (some (90, true)), (.mov (.t 92))⟩,
     ⟨(some 94), (some (93, false)), (.mov (.t 14))⟩,
     ⟨(some 95), (some (93, false)), (.bin .neq 24 (.t 94) (.v (.int .i64 11)))⟩,
     ⟨(some 96), (some (90, true)), (.pick (.t 93) (.v (.bool true)) (.t 95))⟩,
     ⟨(some 97), (some (90, true)), (.mov (.t 96))⟩,
     ⟨(some 98), (some (97, false)), (.mov (.t 15))⟩,
     ⟨(some 99), (some (97, false)), (.bin .neq 24 (.t 98) (.v (.int .i64 0)))⟩,
     ⟨(some 100), (some (90, true)), (.pick (.t 97) (.v (.bool true)) (.t 99))⟩,
     ⟨(some 101), (some (87, false)), (.pick (.t 90) (.t 100) (.v (.bool false)))⟩,
     ⟨(some 102), none, (.pick (.t 87) (.v (.bool true)) (.t 101))⟩])
  (.cond (.t 102)
    (.seq (.region false [] [
       ⟨(some 6), none, (.mov (.v (.bool false)))⟩])
    .ret)
    .skip))
  (.seq (.seq (.region false [] [
     ⟨(some 103), none, (.mov (.t 12))⟩,
     ⟨(some 104), none, (.bin .geq 3 (.t 103) (.v (.int .i64 0)))⟩])
  (.cond (.t 104)
    (.region false [] [
       ⟨(some 105), none, (.mov (.t 9))⟩,
       ⟨(some 106), none, (.mov (.t 12))⟩,
       ⟨(some 107), none, (.mov (.t 12))⟩,
       ⟨(some 108), none, (.bin .add 3 (.t 107) (.v (.int .i64 1)))⟩,
       ⟨(some 109), none, (.call 19 [(.t 105), (.t 106), (.t 108)])⟩,
       ⟨(some 9), none, (.mov (.t 109))⟩])
    .skip))
  (.seq (.region false [] [
     ⟨(some 111), none, (.mov (.t 0))⟩,
     ⟨(some 112), none, (.mov (.t 9))⟩,
     ⟨(some 113), none, (.call 11 [(.t 111), (.t 112)])⟩,
     ⟨(some 110), none, (.mov (.t 113))⟩,
     ⟨(some 114), none, (.ext 0 (.t 110))⟩,
     ⟨(some 115), none, (.ext 1 (.t 110))⟩,
     ⟨(some 16), none, (.mov (.t 114))⟩,
     ⟨(some 17), none, (.mov (.t 115))⟩])
  (.seq (.region false [] [
     ⟨(some 18), none, (.mov (.v (.slice none 0 0)))⟩])
  (.seq (.seq (.region false [] [
     ⟨(some 116), none, (.mov (.t 7))⟩,
     ⟨(some 117), none, (.call 20 [(.t 116)])⟩,
     ⟨(some 118), none, (.len (.t 117))⟩,
     ⟨(some 119), none, (.mov (.v (.int .i64 0)))⟩])
  (.block 2 (.loop (.seq (.region false [] [
       ⟨(some 120), none, (.bin .lss 3 (.t 119) (.t 118))⟩])
    (.seq (.cond (.t 120)
      .skip
      (.exit 2))
    (.seq (.block 3 (.seq (.region false [] [
        ⟨(some 121), none, (.mov (.t 119))⟩,
        ⟨(some 122), none, (.idx 3 (.t 117) (.t 119))⟩,
        ⟨(some 123), none, (.load 3 true (.t 122))⟩,
        ⟨(some 20), none, (.alloc 48 (.agg #[(.string ⟨#[]⟩), (.int .i64 0), (.bool false)]))⟩,
        ⟨(some 19), none, (.mov (.t 121))⟩,
        ⟨none, none, (.store 3 (.t 20) (.t 123))⟩])
     (.seq (.region false [] [
        ⟨(some 124), none, (.mov (.t 18))⟩,
        ⟨(some 125), none, (.fld 0 (.t 20))⟩,
        ⟨(some 126), none, (.load 1 false (.t 125))⟩,
        ⟨(some 127), none, (.bsl 9 1 1 [(0, (.t 126))])⟩,
        ⟨(some 128), none, (.app 9 1 16 (.string ⟨#[]⟩) (.t 124) (.t 127))⟩,
        ⟨(some 18), none, (.mov (.t 128))⟩])
     (.seq (.region true [[], [0], [1], [2], [3, 2], [4, 2, 2], [5], [6, 5], [5], [8, 5, 5], [5], [10, 5], [9, 11, 5], [12, 5], [13, 5], [7, 14, 5], [5, 15, 2], [2, 16]] [
        ⟨(some 129), none, (.fld 2 (.t 20))⟩,
        ⟨(some 130), none, (.load 1 false (.t 129))⟩,
        ⟨(some 131), none, (.mov (.t 130))⟩,
        ⟨(some 132), (some (131, false)), (.mov (.t 19))⟩,
        ⟨(some 133), (some (131, false)), (.bin .gtr 3 (.t 132) (.v (.int .i64 0)))⟩,
        ⟨(some 134), (some (131, false)), (.mov (.t 133))⟩,
        ⟨(some 135), (some (134, true)), (.fld 1 (.t 20))⟩,
        ⟨(some 136), (some (134, true)), (.load 1 false (.t 135))⟩,
        ⟨(some 137), (some (134, true)), (.mov (.t 7))⟩,
        ⟨(some 138), (some (134, true)), (.call 20 [(.t 137)])⟩,
        ⟨(some 139), (some (134, true)), (.mov (.t 19))⟩,
        ⟨(some 140), (some (134, true)), (.bin .sub 3 (.t 139) (.v (.int .i64 1)))⟩,
        ⟨(some 141), (some (134, true)), (.idx 3 (.t 138) (.t 140))⟩,
        ⟨(some 142), (some (134, true)), (.fld 1 (.t 141))⟩,
        ⟨(some 143), (some (134, true)), (.load 1 false (.t 142))⟩,
        ⟨(some 144), (some (134, true)), (.bin .lss 3 (.t 136) (.t 143))⟩,
        ⟨(some 145), (some (131, false)), (.pick (.t 134) (.t 144) (.v (.bool false)))⟩,
        ⟨(some 146), none, (.pick (.t 131) (.v (.bool true)) (.t 145))⟩])
     (.cond (.t 146)
       (.seq (.region false [] [
          ⟨(some 6), none, (.mov (.v (.bool false)))⟩])
       .ret)
       .skip)))))
    (.region false [] [
       ⟨(some 147), none, (.bin .add 3 (.t 119) (.v (.int .i64 1)))⟩,
       ⟨(some 119), none, (.mov (.t 147))⟩])))))))
  (.seq (.region false [] [
     ⟨(some 148), none, (.mov (.t 18))⟩,
     ⟨(some 149), none, (.call 21 [(.t 148)])⟩])
  (.seq (.region false [] [
     ⟨(some 150), none, (.call 7 [])⟩,
     ⟨(some 151), none, (.mov (.t 150))⟩,
     ⟨(some 152), (some (151, true)), (.mov (.t 17))⟩,
     ⟨(some 153), (some (151, true)), (.bin .eql 24 (.t 152) (.v (.int .i64 0)))⟩,
     ⟨(some 154), none, (.pick (.t 151) (.t 153) (.v (.bool false)))⟩,
     ⟨(some 155), none, (.mov (.t 154))⟩,
     ⟨(some 156), (some (155, true)), (.mov (.t 7))⟩,
     ⟨(some 157), (some (155, true)), (.call 22 [(.t 156)])⟩,
     ⟨(some 158), (some (155, true)), (.len (.t 157))⟩,
     ⟨(some 159), (some (155, true)), (.mov (.t 9))⟩,
     ⟨(some 160), (some (155, true)), (.len (.t 159))⟩,
     ⟨(some 161), (some (155, true)), (.bin .eql 3 (.t 158) (.t 160))⟩,
     ⟨(some 162), none, (.pick (.t 155) (.t 161) (.v (.bool false)))⟩,
     ⟨(some 163), none, (.mov (.t 162))⟩,
     ⟨(some 164), (some (163, true)), (.mov (.t 18))⟩,
     ⟨(some 165), (some (163, true)), (.mov (.t 16))⟩,
     ⟨(some 166), (some (163, true)), (.call 13 [(.t 164), (.t 165)])⟩,
     ⟨(some 167), none, (.pick (.t 163) (.t 166) (.v (.bool false)))⟩,
     ⟨(some 6), none, (.mov (.t 167))⟩])
  .ret))))))))))))))
theorem k5 : FnIs Try.prog 5 168 [.t 6] a5 := ⟨_, _, Try.func5, rfl, by kernel_rfl, by kernel_rfl, rfl⟩

theorem s19 (l : List (ByteArray)) (i : Nat) (hi : i < l.length) (hl : l.length ≤ 1000) (hc : ∀ x : ByteArray, ∀ y ∈ sc x, cellish y = true) :
    Aw.Spec Try.prog 19 [.arr 9 1 (l.map sc)] [.hnd 0 0 l.length l.length false, I i, I (i + 1 : Nat)]
      (fun rg v => rg = [.arr 9 1 ((l.eraseIdx i).map sc ++ [[S ⟨#[]⟩]])] ∧ v = .hnd 0 0 (l.length - 1) l.length false) := by
  refine Aw.Spec.of k19 rfl fun E hn hnp hp => ?_
  replace hnp : E.np = 1 := hnp
  unfold a19
  have pin0 := hp.arr 0 rfl
  have e1 : ((i : Int) == ((i + 1 : Nat) : Int)) = false := by rw [beq_eq_false_iff_ne]; omega
  refine AWp.ofD [] [] hn mixed rfl ?_
  simp (config := { maxSteps := 2000000 }) only [go_sem, ↓reduceIte, Int.reduceToNat, Nat.reduceMul, Int.reduceBEq, Int.reduceBNe, Nat.reduceBEq, Nat.reduceAdd, Nat.reduceSub, Nat.reduceLeDiff, Nat.reduceEqDiff, Nat.reduceLT, reduceCtorEq, e1]
  (repeat (refine And.intro (by first | omega | (refine ⟨by omega, by omega⟩) | (refine ⟨by omega, by omega, by omega⟩) | (simp only [List.length_map, List.length_range, List.length_append, List.length_cons, List.length_nil, List.length_replicate, List.length_set]; omega) | (simp; omega) | (intro hgd; cases hgd) | (intro hgd; refine ⟨hgd, ?_⟩; first | omega | (refine ⟨by omega, by omega⟩) | (simp; omega))) ?_))
  have hdl : ((l.map sc).drop (i + 1)).take (l.length - (i + 1)) = (l.drop (i + 1)).map sc := by rw [← List.map_drop, List.take_of_length_le (by simp)]
  have hlen : (l.eraseIdx i).length = l.length - 1 := by rw [List.length_eraseIdx, if_pos hi]
  have hov : overEls (l.map sc) i ((l.drop (i + 1)).map sc) = (l.eraseIdx i).map sc ++ (l.drop (l.length - 1)).map sc := by
    unfold overEls
    rw [List.eraseIdx_eq_take_drop_succ, List.map_append, List.length_map, List.length_drop, ← List.map_take, ← List.map_drop, List.append_assoc, show i + (l.length - (i + 1)) = l.length - 1 by omega]
  have hov2 : overEls ((l.eraseIdx i).map sc ++ (l.drop (l.length - 1)).map sc) (l.length - 1) [[S ⟨#[]⟩]] = (l.eraseIdx i).map sc ++ [[S ⟨#[]⟩]] := by
    unfold overEls
    rw [List.take_left' (by rw [List.length_map, hlen]), List.drop_of_length_le (by simp; omega), List.append_nil]
  have hxl : ((l.eraseIdx i).map sc ++ (l.drop (l.length - 1)).map sc).length = l.length := by rw [List.length_append, List.length_map, List.length_map, List.length_drop, hlen]; omega
  refine AWp.plan (.take 0 [false, true, false, true, true, true, false, false] (.take 1 [true, false, false, true, true, true, false, false] (.take 2 [true, true, false, true, true, true, false, false] (.take 3 [true, true, true, false, true, false, false, false] (.take 4 [true, true, true, true, false, false, false, false] (.take 5 [true, true, true, true, true, false, false, false] (.one 6 (.take 7 [true, true, true, true, true, true, true, false] .done)))))))) [true, true, true, true, true, true, false, true] mixed hn rfl rfl ?_
  simp (config := { maxSteps := 2000000 }) only [go_sem, ↓reduceIte, Int.reduceToNat, Nat.reduceMul, Int.reduceBEq, Int.reduceBNe, Nat.reduceBEq, Nat.reduceAdd, Nat.reduceSub, Nat.reduceLeDiff, Nat.reduceEqDiff, Nat.reduceLT, reduceCtorEq]
  (repeat (refine And.intro (by first | omega | (refine ⟨by omega, by omega⟩) | (refine ⟨by omega, by omega, by omega⟩) | (simp only [List.length_map, List.length_range, List.length_append, List.length_cons, List.length_nil, List.length_replicate, List.length_set]; omega) | (simp; omega) | (intro hgd; cases hgd) | (intro hgd; refine ⟨hgd, ?_⟩; first | omega | (refine ⟨by omega, by omega⟩) | (simp; omega))) ?_))
  refine AOne.rule (AWpL.appIn (r := 0) (off := 0) (n := i) (k := l.length) (els := l.map sc) (ys := (l.drop (i + 1)).map sc) (ob := i + 1 + (l.length - (i + 1)) ≤ (l.map sc).length) rfl rfl (by show some (((l.map sc).drop (i + 1)).take (l.length - (i + 1)), _) = _; rw [hdl]) rfl (by rw [hn]; rfl) (by simp only [List.length_map]; omega) (fun el hm y hy => by
    obtain ⟨z, _, rfl⟩ := List.mem_map.1 hm
    exact hc z y hy) (by simp; omega) (by simp; omega) (by omega) (AWpL.ofM hn rfl ?_))
  rw [Nat.zero_add, hov, List.length_map, List.length_drop, show i + (l.length - (i + 1)) = l.length - 1 by omega]
  generalize (l.eraseIdx i).map sc ++ (l.drop (l.length - 1)).map sc = X at *
  have h1 : l.length - (l.length - 1) = 1 := by omega
  simp (config := { maxSteps := 2000000 }) only [go_sem, ↓reduceIte, Int.reduceToNat, Nat.reduceMul, Int.reduceBEq, Int.reduceBNe, Nat.reduceBEq, Nat.reduceAdd, Nat.reduceSub, Nat.reduceLeDiff, Nat.reduceEqDiff, Nat.reduceLT, reduceCtorEq, h1]
  (repeat (refine And.intro (by first | omega | (refine ⟨by omega, by omega⟩) | (refine ⟨by omega, by omega, by omega⟩) | (simp only [List.length_map, List.length_range, List.length_append, List.length_cons, List.length_nil, List.length_replicate, List.length_set]; omega) | (simp; omega) | (intro hgd; cases hgd) | (intro hgd; refine ⟨hgd, ?_⟩; first | omega | (refine ⟨by omega, by omega⟩) | (simp; omega))) ?_))
  refine AWpL.clr (r := 0) (off := l.length - 1) (n := 1) (k := 1) (els := X) rfl rfl (by rw [hn]; rfl) (by omega) (fun v hv => by
    simp only [Value.cells, List.mem_cons, List.not_mem_nil, or_false] at hv
    first | (rcases hv with rfl | rfl | rfl | rfl | rfl | rfl | rfl | rfl | rfl; all_goals rfl) | (rcases hv with rfl | rfl | rfl | rfl | rfl; all_goals rfl) | (rcases hv with rfl | rfl | rfl; all_goals rfl) | (subst hv; rfl)) (.inl (by decide)) (AWpL.ofM hn rfl ?_)
  have hr1 : List.replicate 1 [S ⟨#[]⟩] = [[S ⟨#[]⟩]] := rfl
  simp (config := { maxSteps := 2000000 }) only [go_sem, ↓reduceIte, Int.reduceToNat, Nat.reduceMul, Int.reduceBEq, Int.reduceBNe, Nat.reduceBEq, Nat.reduceAdd, Nat.reduceSub, Nat.reduceLeDiff, Nat.reduceEqDiff, Nat.reduceLT, reduceCtorEq, hr1, hov2]
  refine Retn.ret (π := [0]) hp hnp ⟨rfl, ?_⟩
  simp (config := { maxSteps := 2000000 }) only [go_sem, ↓reduceIte, Int.reduceToNat, Nat.reduceMul, Int.reduceBEq, Int.reduceBNe, Nat.reduceBEq, Nat.reduceAdd, Nat.reduceSub, Nat.reduceLeDiff, Nat.reduceEqDiff, Nat.reduceLT, reduceCtorEq, Aw.renR, Aw.pos]

theorem ackL_len (l : List Ale) (n : ByteArray) : (ackL l n).length = l.length := by
  unfold ackL; split
  · rw [List.length_set]
  · rfl
theorem nms_drop (l : List Ale) (j : Nat) : (nms l).eraseIdx j = nms (l.eraseIdx j) := by
  unfold nms
  rw [List.eraseIdx_eq_take_drop_succ, List.eraseIdx_eq_take_drop_succ, List.map_append, List.map_take, List.map_drop]
theorem brd_step {l : List Ale} {last : Int} {i : Nat} (hb : Bok l last i) (n : ByteArray) :
    (sIndex n 0 (nms l) = -1 ∧ ackE l n = 8 ∧ ackE (ackL l n) n = 8 ∧ clrE (ackL (ackL l n) n) n = 8 ∧ clrL (ackL (ackL l n) n) n = l) ∨
      (∃ j : Nat, j < l.length ∧ sIndex n 0 (nms l) = (j : Int) ∧ ackE l n = 0 ∧ ackE (ackL l n) n = 11 ∧ clrE (ackL (ackL l n) n) n = 0 ∧ clrL (ackL (ackL l n) n) n = l.eraseIdx j) := by
  rcases fIndex_rng (fun a : Ale => seq a.name n) l 0 with h | ⟨j, h, hj, -⟩
  · obtain ⟨h1, h2, h3, h4⟩ := no_alarm h
    left
    rw [h2, h2]
    exact ⟨by rw [← index_nms]; exact h, h1, h1, h3, h4⟩
  · rw [Nat.zero_add] at h
    obtain ⟨h1, h2, h3, h4, h5, h6⟩ := one_alarm h hj (hb.ack _ (List.getElem_mem hj))
    right
    refine ⟨j, hj, by rw [← index_nms]; exact h, h1, h2, ?_, ?_⟩
    · rw [h3]; exact h5
    · rw [h3]; exact h6
theorem Weak.trans {E : Env} {a b c : St} (h : Weak E a b) (k : Weak E b c) : Weak E a c := fun x w hr => k x w (h x w hr)
theorem nm_le {s : ByteArray} (h : nm 8 s = true) : s.size ≤ 8 := by
  unfold nm at h
  simp at h
  omega
theorem take8 (l : List ByteArray) : (l.map sc).take (min (l.length : Int) 8).toNat = (l.take 8).map sc := minT sc l 8
set_option maxRecDepth 100000 in
set_option maxHeartbeats 4000000 in
theorem s5 (nl fl) (cs : List Cau) (nm' fm) (l0 : List ByteArray) (clr : ByteArray) (hc : ∀ c ∈ cs, CauOk c) (hs : ∀ x ∈ l0, x.size ≤ 9223372036854775807) (hl0 : l0.length ≤ 9223372036854775807) :
    Aw.Spec Try.prog 5 [] [cas nl fl cs, ss nm' fm l0, S clr] (Gives (· = B true)) := by
  refine Aw.Spec.givesW k5 rfl rfl fun E hn hnp hp => ?_
  have pin : ∀ r, E.pin r = none := fun r => hp.none hnp (Nat.zero_le _)
  unfold a5
  by_cases he : causesF cs = 0
  · refine AWp.seq (AWp.ofD [] [] hn mixed rfl ?_)
    simp (config := { maxSteps := 2000000 }) only [go_sem, ↓reduceIte, Int.reduceToNat, Nat.reduceMul, Int.reduceBEq, Int.reduceBNe, Nat.reduceBEq, Nat.reduceAdd, Nat.reduceSub, Nat.reduceLeDiff, Nat.reduceEqDiff, Nat.reduceLT, reduceCtorEq]
    refine AWp.seq (AWp.ofD [] [] hn mixed rfl ?_)
    simp (config := { maxSteps := 2000000 }) only [go_sem, ↓reduceIte, Int.reduceToNat, Nat.reduceMul, Int.reduceBEq, Int.reduceBNe, Nat.reduceBEq, Nat.reduceAdd, Nat.reduceSub, Nat.reduceLeDiff, Nat.reduceEqDiff, Nat.reduceLT, reduceCtorEq]
    refine AWpL.callA [] (new_ok nl fl cs hc he) rfl rfl (by rw [hn]; rfl) rfl (fun r hr => by cases hr) fun rg v hv => ?_
    obtain ⟨rfl, rfl⟩ := hv
    refine ⟨Nat.zero_le _, ?_⟩
    rw [retS_new]
    refine AWpL.ofM hn rfl ?_
    simp (config := { maxSteps := 2000000 }) only [go_sem, ↓reduceIte, Int.reduceToNat, Nat.reduceMul, Int.reduceBEq, Int.reduceBNe, Nat.reduceBEq, Nat.reduceAdd, Nat.reduceSub, Nat.reduceLeDiff, Nat.reduceEqDiff, Nat.reduceLT, reduceCtorEq]
    refine AWp.seq (AWp.ofD [] [] hn mixed rfl ?_)
    simp (config := { maxSteps := 2000000 }) only [go_sem, ↓reduceIte, Int.reduceToNat, Nat.reduceMul, Int.reduceBEq, Int.reduceBNe, Nat.reduceBEq, Nat.reduceAdd, Nat.reduceSub, Nat.reduceLeDiff, Nat.reduceEqDiff, Nat.reduceLT, reduceCtorEq]
    refine AWp.seq (AWp.ofD [] [] hn mixed rfl ?_)
    simp (config := { maxSteps := 2000000 }) only [go_sem, ↓reduceIte, Int.reduceToNat, Nat.reduceMul, Int.reduceBEq, Int.reduceBNe, Nat.reduceBEq, Nat.reduceAdd, Nat.reduceSub, Nat.reduceLeDiff, Nat.reduceEqDiff, Nat.reduceLT, reduceCtorEq]
    refine AWp.seq (AWp.ofD [] [] hn mixed rfl ?_)
    simp (config := { maxSteps := 2000000 }) only [go_sem, ↓reduceIte, Int.reduceToNat, Nat.reduceMul, Int.reduceBEq, Int.reduceBNe, Nat.reduceBEq, Nat.reduceAdd, Nat.reduceSub, Nat.reduceLeDiff, Nat.reduceEqDiff, Nat.reduceLT, reduceCtorEq, take8]
    refine ⟨⟨by omega, by omega, by omega⟩, ?_⟩
    have hm8 : (l0.take 8).length ≤ 8 := by rw [List.length_take]; omega
    have hs8 : ∀ x ∈ l0.take 8, x.size ≤ 9223372036854775807 := fun x hx => hs x (List.mem_of_mem_take hx)
    generalize l0.take 8 = L8 at *
    refine AWp.weak (weak_nilbox 0 1 48 3 rfl rfl) (AWp.weak (weak_nil 9 9 1 rfl) ?_)
    refine AWp.loop (fun k s => ∃ (i : Nat) (l : List Ale) (last : Int), i + k = L8.length ∧ Bok l last i ∧ Weak E s ⟨[(0, cas nl fl cs), (2, S clr), (7, .ptr 0 0 0), (9, .hnd 2 0 l.length l.length false), (47, ss nm' false L8), (48, I L8.length), (49, I i)], brdR none false cs l last ++ [.arr 9 1 ((nms l).map sc)]⟩) (n := L8.length)
      ⟨0, [], 0, by omega, Bok.nil, weak_to [0, 1, 2] hp hnp rfl (by simp (config := { maxSteps := 2000000 }) only [go_sem, ↓reduceIte, Int.reduceToNat, Nat.reduceMul, Int.reduceBEq, Int.reduceBNe, Nat.reduceBEq, Nat.reduceAdd, Nat.reduceSub, Nat.reduceLeDiff, Nat.reduceEqDiff, Nat.reduceLT, reduceCtorEq, Int.natCast_zero, Aw.pos]) (by simp (config := { maxSteps := 2000000 }) only [go_sem, ↓reduceIte, Int.reduceToNat, Nat.reduceMul, Int.reduceBEq, Int.reduceBNe, Nat.reduceBEq, Nat.reduceAdd, Nat.reduceSub, Nat.reduceLeDiff, Nat.reduceEqDiff, Nat.reduceLT, reduceCtorEq, Aw.renR, Aw.pos]; rfl)⟩ ?_
    rintro k s ⟨i, l, last, hik, hb, hw⟩
    refine AWp.weak hw (AWp.ofD [] [] hn mixed rfl ?_)
    have hbl := hb.len
    have hnl : (nms l).length = l.length := List.length_map ..
    rcases Nat.lt_or_ge i L8.length with hlt | hge
    · have e0 : decide ((i : Int) < (L8.length : Int)) = true := decide_eq_true (by omega)
      have e1 := getD_map sc hlt
      have e2 : IntKind.i64.wrap ((i : Int) + 1) = ((i + 1 : Nat) : Int) := by rw [w64 (by omega) (by omega)]; omega
      have hxs := hs8 _ (List.getElem_mem hlt)
      generalize L8[i] = x at *
      simp (config := { maxSteps := 2000000 }) only [go_sem, ↓reduceIte, Int.reduceToNat, Nat.reduceMul, Int.reduceBEq, Int.reduceBNe, Nat.reduceBEq, Nat.reduceAdd, Nat.reduceSub, Nat.reduceLeDiff, Nat.reduceEqDiff, Nat.reduceLT, reduceCtorEq, e0, e1]
      have e3 : IntKind.i64.wrap ((i : Int).tdiv 2) = ((i / 2 : Nat) : Int) := by
        rw [show (i : Int).tdiv 2 = ((i / 2 : Nat) : Int) from rfl, w64 (by omega) (by omega)]
      refine ⟨⟨by omega, by omega⟩, by decide, ?_⟩
      rw [e3]
      refine AWpL.callA [0, 1] (s15 none false cs l last x ((i / 2 : Nat) : Int) (by omega) hxs) rfl rfl (by rw [hn]; rfl) rfl (fun r hr => .inr (pin r)) fun rg v hv => ?_
      obtain ⟨rfl, hrg⟩ := hv
      by_cases hr : raiseE l last x ((i / 2 : Nat) : Int) = 0
      · rw [if_pos hr] at hrg
        subst hrg
        rw [hr]
        refine ⟨Nat.le_refl _, AWpL.ofM hn rfl ?_⟩
        have hap : (nms l).map sc ++ [[S x]] = (nms (l ++ [(⟨x, ((i / 2 : Nat) : Int), false⟩ : Ale)])).map sc := by
          unfold nms
          rw [List.map_append, List.map_append]; rfl
        have hln : (l ++ [(⟨x, ((i / 2 : Nat) : Int), false⟩ : Ale)]).length = l.length + 1 := by rw [List.length_append]; rfl
        simp (config := { maxSteps := 2000000 }) only [go_sem, ↓reduceIte, Int.reduceToNat, Nat.reduceMul, Int.reduceBEq, Int.reduceBNe, Nat.reduceBEq, Nat.reduceAdd, Nat.reduceSub, Nat.reduceLeDiff, Nat.reduceEqDiff, Nat.reduceLT, reduceCtorEq, Aw.retS, Aw.retRg, Aw.kpM, Aw.bkM, Aw.pos, Aw.isBox]
        refine AWpL.app (r := 2) (els := (nms l).map sc) (ys := [[S x]]) rfl rfl rfl rfl (by rw [hn]; rfl) (by rw [List.length_map, hnl]) (pin 2) (Nat.le_refl 1) (fun el hm y hy => by
          rw [List.mem_singleton.1 hm] at hy
          rw [List.mem_singleton.1 hy]; rfl) (by simp only [List.length_cons, List.length_nil]; omega) (by simp only [List.length_cons, List.length_nil]; omega) (AWpL.ofM hn rfl ?_)
        simp (config := { maxSteps := 2000000 }) only [go_sem, ↓reduceIte, Int.reduceToNat, Nat.reduceMul, Int.reduceBEq, Int.reduceBNe, Nat.reduceBEq, Nat.reduceAdd, Nat.reduceSub, Nat.reduceLeDiff, Nat.reduceEqDiff, Nat.reduceLT, reduceCtorEq, e2, hap]
        exact ⟨k - 1, by omega, i + 1, _, _, by omega, hb.put hr, weak_to [0, 1, 2] hp hnp rfl (by simp (config := { maxSteps := 2000000 }) only [go_sem, ↓reduceIte, Int.reduceToNat, Nat.reduceMul, Int.reduceBEq, Int.reduceBNe, Nat.reduceBEq, Nat.reduceAdd, Nat.reduceSub, Nat.reduceLeDiff, Nat.reduceEqDiff, Nat.reduceLT, reduceCtorEq, hln, Aw.pos]) (by simp (config := { maxSteps := 2000000 }) only [go_sem, ↓reduceIte, Int.reduceToNat, Nat.reduceMul, Int.reduceBEq, Int.reduceBNe, Nat.reduceBEq, Nat.reduceAdd, Nat.reduceSub, Nat.reduceLeDiff, Nat.reduceEqDiff, Nat.reduceLT, reduceCtorEq, Aw.renR, Aw.pos])⟩
      · rw [if_neg hr] at hrg
        subst hrg
        have e4 : (raiseE l last x ((i / 2 : Nat) : Int) == 0) = false := beq_eq_false_iff_ne.2 hr
        refine ⟨Nat.le_refl _, AWpL.ofM hn rfl ?_⟩
        simp (config := { maxSteps := 2000000 }) only [go_sem, ↓reduceIte, Int.reduceToNat, Nat.reduceMul, Int.reduceBEq, Int.reduceBNe, Nat.reduceBEq, Nat.reduceAdd, Nat.reduceSub, Nat.reduceLeDiff, Nat.reduceEqDiff, Nat.reduceLT, reduceCtorEq, Aw.retS, Aw.retRg, Aw.kpM, Aw.bkM, Aw.pos, Aw.isBox, e4, e2]
        exact ⟨k - 1, by omega, i + 1, l, last, by omega, hb.skip, weak_to [0, 1, 2] hp hnp rfl (by simp (config := { maxSteps := 2000000 }) only [go_sem, ↓reduceIte, Int.reduceToNat, Nat.reduceMul, Int.reduceBEq, Int.reduceBNe, Nat.reduceBEq, Nat.reduceAdd, Nat.reduceSub, Nat.reduceLeDiff, Nat.reduceEqDiff, Nat.reduceLT, reduceCtorEq, Aw.pos]) (by simp (config := { maxSteps := 2000000 }) only [go_sem, ↓reduceIte, Int.reduceToNat, Nat.reduceMul, Int.reduceBEq, Int.reduceBNe, Nat.reduceBEq, Nat.reduceAdd, Nat.reduceSub, Nat.reduceLeDiff, Nat.reduceEqDiff, Nat.reduceLT, reduceCtorEq, Aw.renR, Aw.pos])⟩
    · have e0 : decide ((i : Int) < (L8.length : Int)) = false := decide_eq_false (by omega)
      simp (config := { maxSteps := 2000000 }) only [go_sem, ↓reduceIte, Int.reduceToNat, Nat.reduceMul, Int.reduceBEq, Int.reduceBNe, Nat.reduceBEq, Nat.reduceAdd, Nat.reduceSub, Nat.reduceLeDiff, Nat.reduceEqDiff, Nat.reduceLT, reduceCtorEq, e0]
      have hI : Aw.Spec Try.prog 16 [] [.imm none false 1 ((((nms l).map sc).drop 0).take l.length), S clr] (Gives (· = I (sIndex clr 0 (nms l)))) := by
        rw [List.drop_zero, List.take_of_length_le (by rw [List.length_map, hnl]; exact Nat.le_refl _)]
        exact s16 none false (nms l) clr (by omega)
      refine AWp.seq (AWp.ofD [] [] hn mixed rfl ?_)
      simp (config := { maxSteps := 2000000 }) only [go_sem, ↓reduceIte, Int.reduceToNat, Nat.reduceMul, Int.reduceBEq, Int.reduceBNe, Nat.reduceBEq, Nat.reduceAdd, Nat.reduceSub, Nat.reduceLeDiff, Nat.reduceEqDiff, Nat.reduceLT, reduceCtorEq]
      refine AWpL.calle hI rfl (by rw [hn]; rfl) (by simp (config := { maxSteps := 2000000 }) only [go_sem, ↓reduceIte, Int.reduceToNat, Nat.reduceMul, Int.reduceBEq, Int.reduceBNe, Nat.reduceBEq, Nat.reduceAdd, Nat.reduceSub, Nat.reduceLeDiff, Nat.reduceEqDiff, Nat.reduceLT, reduceCtorEq, hnl, Nat.le_refl]) (AWpL.ofM hn rfl ?_)
      simp (config := { maxSteps := 2000000 }) only [go_sem, ↓reduceIte, Int.reduceToNat, Nat.reduceMul, Int.reduceBEq, Int.reduceBNe, Nat.reduceBEq, Nat.reduceAdd, Nat.reduceSub, Nat.reduceLeDiff, Nat.reduceEqDiff, Nat.reduceLT, reduceCtorEq]
      refine AWp.seq (AWp.ofD [] [] hn mixed rfl ?_)
      simp (config := { maxSteps := 2000000 }) only [go_sem, ↓reduceIte, Int.reduceToNat, Nat.reduceMul, Int.reduceBEq, Int.reduceBNe, Nat.reduceBEq, Nat.reduceAdd, Nat.reduceSub, Nat.reduceLeDiff, Nat.reduceEqDiff, Nat.reduceLT, reduceCtorEq]
      refine AWpL.callA [0, 1] (s17 none false cs l last clr (by omega)) rfl rfl (by rw [hn]; rfl) rfl (fun r hr => .inr (pin r)) fun rg v hv => ?_
      obtain ⟨rfl, rfl⟩ := hv
      refine ⟨Nat.le_refl _, AWpL.ofM hn rfl ?_⟩
      simp (config := { maxSteps := 2000000 }) only [go_sem, ↓reduceIte, Int.reduceToNat, Nat.reduceMul, Int.reduceBEq, Int.reduceBNe, Nat.reduceBEq, Nat.reduceAdd, Nat.reduceSub, Nat.reduceLeDiff, Nat.reduceEqDiff, Nat.reduceLT, reduceCtorEq, Aw.retS, Aw.retRg, Aw.kpM, Aw.bkM, Aw.pos, Aw.isBox]
      refine AWpL.callA [0, 1] (s17 none false cs (ackL l clr) last clr (by rw [ackL_len]; omega)) rfl rfl (by rw [hn]; rfl) rfl (fun r hr => .inr (pin r)) fun rg v hv => ?_
      obtain ⟨rfl, rfl⟩ := hv
      refine ⟨Nat.le_refl _, AWpL.ofM hn rfl ?_⟩
      simp (config := { maxSteps := 2000000 }) only [go_sem, ↓reduceIte, Int.reduceToNat, Nat.reduceMul, Int.reduceBEq, Int.reduceBNe, Nat.reduceBEq, Nat.reduceAdd, Nat.reduceSub, Nat.reduceLeDiff, Nat.reduceEqDiff, Nat.reduceLT, reduceCtorEq, Aw.retS, Aw.retRg, Aw.kpM, Aw.bkM, Aw.pos, Aw.isBox]
      refine AWpL.callA [0, 1] (s18 none false cs (ackL (ackL l clr) clr) last clr (by rw [ackL_len, ackL_len]; omega)) rfl rfl (by rw [hn]; rfl) rfl (fun r hr => .inr (pin r)) fun rg v hv => ?_
      obtain ⟨rfl, rfl⟩ := hv
      refine ⟨Nat.le_refl _, AWpL.ofM hn rfl ?_⟩
      simp (config := { maxSteps := 2000000 }) only [go_sem, ↓reduceIte, Int.reduceToNat, Nat.reduceMul, Int.reduceBEq, Int.reduceBNe, Nat.reduceBEq, Nat.reduceAdd, Nat.reduceSub, Nat.reduceLeDiff, Nat.reduceEqDiff, Nat.reduceLT, reduceCtorEq, Aw.retS, Aw.retRg, Aw.kpM, Aw.bkM, Aw.pos, Aw.isBox]
      have hst := brd_step hb clr
      generalize clrL (ackL (ackL l clr) clr) clr = L3 at *
      generalize ackE l clr = q1 at *
      generalize ackE (ackL l clr) clr = q2 at *
      generalize clrE (ackL (ackL l clr) clr) clr = q3 at *
      generalize sIndex clr 0 (nms l) = p at *
      refine AWp.seq (AWp.cut ⟨[(0, cas nl fl cs), (7, .ptr 0 0 0), (9, .hnd 2 0 l.length l.length false), (12, I p)], brdR none false cs L3 last ++ [.arr 9 1 ((nms l).map sc)]⟩ (AWp.ofD [] [] hn mixed rfl ?_) ?_)
      · rcases hst with ⟨rfl, rfl, rfl, rfl, rfl⟩ | ⟨j, hj, rfl, rfl, rfl, rfl, rfl⟩
        · have d1 : decide ((-1 : Int) < 0) = true := by decide
          have d2 : decide ((-1 : Int) ≥ 0) = false := by decide
          simp (config := { maxSteps := 2000000 }) only [go_sem, ↓reduceIte, Int.reduceToNat, Nat.reduceMul, Int.reduceBEq, Int.reduceBNe, Nat.reduceBEq, Nat.reduceAdd, Nat.reduceSub, Nat.reduceLeDiff, Nat.reduceEqDiff, Nat.reduceLT, reduceCtorEq, d1, d2]
          exact weak_to [0, 1, 2] hp hnp rfl (by simp (config := { maxSteps := 2000000 }) only [go_sem, ↓reduceIte, Int.reduceToNat, Nat.reduceMul, Int.reduceBEq, Int.reduceBNe, Nat.reduceBEq, Nat.reduceAdd, Nat.reduceSub, Nat.reduceLeDiff, Nat.reduceEqDiff, Nat.reduceLT, reduceCtorEq, Aw.pos]) (by simp (config := { maxSteps := 2000000 }) only [go_sem, ↓reduceIte, Int.reduceToNat, Nat.reduceMul, Int.reduceBEq, Int.reduceBNe, Nat.reduceBEq, Nat.reduceAdd, Nat.reduceSub, Nat.reduceLeDiff, Nat.reduceEqDiff, Nat.reduceLT, reduceCtorEq, Aw.renR, Aw.pos])
        · have d1 : decide ((j : Int) < 0) = false := decide_eq_false (by omega)
          have d2 : decide ((j : Int) ≥ 0) = true := decide_eq_true (by omega)
          simp (config := { maxSteps := 2000000 }) only [go_sem, ↓reduceIte, Int.reduceToNat, Nat.reduceMul, Int.reduceBEq, Int.reduceBNe, Nat.reduceBEq, Nat.reduceAdd, Nat.reduceSub, Nat.reduceLeDiff, Nat.reduceEqDiff, Nat.reduceLT, reduceCtorEq, d1, d2]
          exact weak_to [0, 1, 2] hp hnp rfl (by simp (config := { maxSteps := 2000000 }) only [go_sem, ↓reduceIte, Int.reduceToNat, Nat.reduceMul, Int.reduceBEq, Int.reduceBNe, Nat.reduceBEq, Nat.reduceAdd, Nat.reduceSub, Nat.reduceLeDiff, Nat.reduceEqDiff, Nat.reduceLT, reduceCtorEq, Aw.pos]) (by simp (config := { maxSteps := 2000000 }) only [go_sem, ↓reduceIte, Int.reduceToNat, Nat.reduceMul, Int.reduceBEq, Int.reduceBNe, Nat.reduceBEq, Nat.reduceAdd, Nat.reduceSub, Nat.reduceLeDiff, Nat.reduceEqDiff, Nat.reduceLT, reduceCtorEq, Aw.renR, Aw.pos])
      simp (config := { maxSteps := 2000000 }) only [go_sem, ↓reduceIte, Int.reduceToNat, Nat.reduceMul, Int.reduceBEq, Int.reduceBNe, Nat.reduceBEq, Nat.reduceAdd, Nat.reduceSub, Nat.reduceLeDiff, Nat.reduceEqDiff, Nat.reduceLT, reduceCtorEq]
      refine AWp.seq (AWp.cut ⟨[(0, cas nl fl cs), (7, .ptr 0 0 0), (9, ss none false (nms L3))], brdR none false cs L3 last⟩ (AWp.ofD [] [] hn mixed rfl ?_) ?_)
      · rcases hst with ⟨rfl, -, -, -, rfl⟩ | ⟨j, hj, rfl, -, -, -, rfl⟩
        · have d1 : decide ((-1 : Int) ≥ 0) = false := by decide
          simp (config := { maxSteps := 2000000 }) only [go_sem, ↓reduceIte, Int.reduceToNat, Nat.reduceMul, Int.reduceBEq, Int.reduceBNe, Nat.reduceBEq, Nat.reduceAdd, Nat.reduceSub, Nat.reduceLeDiff, Nat.reduceEqDiff, Nat.reduceLT, reduceCtorEq, d1]
          have etk : List.take L3.length ((nms L3).map sc) = (nms L3).map sc := List.take_of_length_le (by rw [List.length_map, hnl]; exact Nat.le_refl _)
          refine Weak.trans (weak_freeze 2 rfl (pin 2) (by simp (config := { maxSteps := 2000000 }) only [go_sem, ↓reduceIte, Int.reduceToNat, Nat.reduceMul, Int.reduceBEq, Int.reduceBNe, Nat.reduceBEq, Nat.reduceAdd, Nat.reduceSub, Nat.reduceLeDiff, Nat.reduceEqDiff, Nat.reduceLT, reduceCtorEq, hnl, Nat.le_refl])) ?_
          simp (config := { maxSteps := 2000000 }) only [go_sem, ↓reduceIte, Int.reduceToNat, Nat.reduceMul, Int.reduceBEq, Int.reduceBNe, Nat.reduceBEq, Nat.reduceAdd, Nat.reduceSub, Nat.reduceLeDiff, Nat.reduceEqDiff, Nat.reduceLT, reduceCtorEq, etk]
          exact weak_to [0, 1] hp hnp rfl (by simp (config := { maxSteps := 2000000 }) only [go_sem, ↓reduceIte, Int.reduceToNat, Nat.reduceMul, Int.reduceBEq, Int.reduceBNe, Nat.reduceBEq, Nat.reduceAdd, Nat.reduceSub, Nat.reduceLeDiff, Nat.reduceEqDiff, Nat.reduceLT, reduceCtorEq, Aw.pos]) (by simp (config := { maxSteps := 2000000 }) only [go_sem, ↓reduceIte, Int.reduceToNat, Nat.reduceMul, Int.reduceBEq, Int.reduceBNe, Nat.reduceBEq, Nat.reduceAdd, Nat.reduceSub, Nat.reduceLeDiff, Nat.reduceEqDiff, Nat.reduceLT, reduceCtorEq, Aw.renR, Aw.pos])
        · have d1 : decide ((j : Int) ≥ 0) = true := decide_eq_true (by omega)
          have d2 : IntKind.i64.wrap ((j : Int) + 1) = ((j + 1 : Nat) : Int) := by rw [w64 (by omega) (by omega)]; omega
          simp (config := { maxSteps := 2000000 }) only [go_sem, ↓reduceIte, Int.reduceToNat, Nat.reduceMul, Int.reduceBEq, Int.reduceBNe, Nat.reduceBEq, Nat.reduceAdd, Nat.reduceSub, Nat.reduceLeDiff, Nat.reduceEqDiff, Nat.reduceLT, reduceCtorEq, d1, d2]
          have hD := s19 (nms l) j (by omega) (by omega) (fun x y hy => by rw [List.mem_singleton.1 hy]; rfl)
          rw [hnl, nms_drop] at hD
          have hle : (nms (l.eraseIdx j)).length = l.length - 1 := by rw [← nms_drop, List.length_eraseIdx, if_pos (by omega), hnl]
          refine AWpL.callA [2] hD rfl rfl (by rw [hn]; rfl) rfl (fun r hr => .inr (pin r)) fun rg v hv => ?_
          obtain ⟨rfl, rfl⟩ := hv
          refine ⟨Nat.le_refl _, AWpL.ofM hn rfl ?_⟩
          simp (config := { maxSteps := 2000000 }) only [go_sem, ↓reduceIte, Int.reduceToNat, Nat.reduceMul, Int.reduceBEq, Int.reduceBNe, Nat.reduceBEq, Nat.reduceAdd, Nat.reduceSub, Nat.reduceLeDiff, Nat.reduceEqDiff, Nat.reduceLT, reduceCtorEq, Aw.retS, Aw.retRg, Aw.kpM, Aw.bkM, Aw.pos, Aw.isBox]
          have etk : List.take (l.length - 1) ((nms (l.eraseIdx j)).map sc ++ [[S ⟨#[]⟩]]) = (nms (l.eraseIdx j)).map sc := by
            rw [List.take_append_of_le_length (by rw [List.length_map, hle]; exact Nat.le_refl _), List.take_of_length_le (by rw [List.length_map, hle]; exact Nat.le_refl _)]
          refine Weak.trans (weak_freeze 2 rfl (pin 2) (by simp (config := { maxSteps := 2000000 }) only [go_sem, ↓reduceIte, Int.reduceToNat, Nat.reduceMul, Int.reduceBEq, Int.reduceBNe, Nat.reduceBEq, Nat.reduceAdd, Nat.reduceSub, Nat.reduceLeDiff, Nat.reduceEqDiff, Nat.reduceLT, reduceCtorEq, List.length_append, hle]; omega)) ?_
          simp (config := { maxSteps := 2000000 }) only [go_sem, ↓reduceIte, Int.reduceToNat, Nat.reduceMul, Int.reduceBEq, Int.reduceBNe, Nat.reduceBEq, Nat.reduceAdd, Nat.reduceSub, Nat.reduceLeDiff, Nat.reduceEqDiff, Nat.reduceLT, reduceCtorEq, etk]
          exact weak_to [0, 1] hp hnp rfl (by simp (config := { maxSteps := 2000000 }) only [go_sem, ↓reduceIte, Int.reduceToNat, Nat.reduceMul, Int.reduceBEq, Int.reduceBNe, Nat.reduceBEq, Nat.reduceAdd, Nat.reduceSub, Nat.reduceLeDiff, Nat.reduceEqDiff, Nat.reduceLT, reduceCtorEq, Aw.pos]) (by simp (config := { maxSteps := 2000000 }) only [go_sem, ↓reduceIte, Int.reduceToNat, Nat.reduceMul, Int.reduceBEq, Int.reduceBNe, Nat.reduceBEq, Nat.reduceAdd, Nat.reduceSub, Nat.reduceLeDiff, Nat.reduceEqDiff, Nat.reduceLT, reduceCtorEq, Aw.renR, Aw.pos])
      simp (config := { maxSteps := 2000000 }) only [go_sem, ↓reduceIte, Int.reduceToNat, Nat.reduceMul, Int.reduceBEq, Int.reduceBNe, Nat.reduceBEq, Nat.reduceAdd, Nat.reduceSub, Nat.reduceLeDiff, Nat.reduceEqDiff, Nat.reduceLT, reduceCtorEq]
      have hb3 : Bok L3 last i := by
        rcases hst with ⟨-, -, -, -, rfl⟩ | ⟨j, -, -, -, -, -, rfl⟩
        · exact hb
        · exact hb.drop j
      clear hst hI
      have hi8 : i ≤ 8 := by omega
      have hl3 := hb3.len
      have hc3 : causesE cs (nms L3) = 0 := causesE_zero.2 ⟨he, hb3.act (by omega)⟩
      have hns3 : ∀ a ∈ L3, a.name.size ≤ 9223372036854775807 := fun a ha => Nat.le_trans (nm_le (hb3.nam a ha)) (by decide)
      have hnl3 : (nms L3).length = L3.length := List.length_map ..
      have hS := s20 none false cs L3 last (by omega) hb3.tim hc hns3
      refine AWp.seq (AWp.ofD [] [] hn mixed rfl ?_)
      simp (config := { maxSteps := 2000000 }) only [go_sem, ↓reduceIte, Int.reduceToNat, Nat.reduceMul, Int.reduceBEq, Int.reduceBNe, Nat.reduceBEq, Nat.reduceAdd, Nat.reduceSub, Nat.reduceLeDiff, Nat.reduceEqDiff, Nat.reduceLT, reduceCtorEq]
      refine AWpL.callA [] (s11 nl fl cs none false (nms L3) hc (fun x hx => by
        obtain ⟨a, ha, rfl⟩ := List.mem_map.1 hx
        exact hns3 a ha)) rfl rfl (by rw [hn]; rfl) rfl (fun r hr => by cases hr) fun rg v hv => ?_
      obtain ⟨rfl, rfl⟩ := hv
      rw [hc3]
      refine ⟨Nat.zero_le _, AWpL.ofM hn rfl ?_⟩
      simp (config := { maxSteps := 2000000 }) only [go_sem, ↓reduceIte, Int.reduceToNat, Nat.reduceMul, Int.reduceBEq, Int.reduceBNe, Nat.reduceBEq, Nat.reduceAdd, Nat.reduceSub, Nat.reduceLeDiff, Nat.reduceEqDiff, Nat.reduceLT, reduceCtorEq, Aw.retS, Aw.retRg, Aw.kpM, Aw.bkM, Aw.pos, Aw.isBox]
      refine AWp.ofD [] [] hn mixed rfl ?_
      simp (config := { maxSteps := 2000000 }) only [go_sem, ↓reduceIte, Int.reduceToNat, Nat.reduceMul, Int.reduceBEq, Int.reduceBNe, Nat.reduceBEq, Nat.reduceAdd, Nat.reduceSub, Nat.reduceLeDiff, Nat.reduceEqDiff, Nat.reduceLT, reduceCtorEq]
      refine AWpL.callA [0, 1] hS rfl rfl (by rw [hn]; rfl) rfl (fun r hr => .inr (pin r)) fun rg v hv => ?_
      obtain ⟨rfl, sh, hsh, hts, rfl⟩ := hv
      refine ⟨Nat.le_refl _, AWpL.ofM hn rfl ?_⟩
      have hshl : sh.length ≤ L3.length := by
        rw [hsh.length_eq]
        exact List.length_filter_le _ _
      have hack : ∀ a ∈ sh, a.ack = false := fun a ha => hb3.ack a ((List.mem_filter.1 (hsh.subset ha)).1)
      simp (config := { maxSteps := 2000000 }) only [go_sem, ↓reduceIte, Int.reduceToNat, Nat.reduceMul, Int.reduceBEq, Int.reduceBNe, Nat.reduceBEq, Nat.reduceAdd, Nat.reduceSub, Nat.reduceLeDiff, Nat.reduceEqDiff, Nat.reduceLT, reduceCtorEq, Aw.retS, Aw.retRg, Aw.kpM, Aw.bkM, Aw.pos, Aw.isBox]
      refine AWp.weak (weak_nil 18 9 1 rfl) ?_
      refine AWp.loop (fun k s => ∃ q : Nat, q + k = sh.length ∧ Weak E s ⟨[(7, .ptr 0 0 0), (9, ss none false (nms L3)), (16, ss none false (causesL cs (nms L3))), (17, I 0), (18, .hnd 2 0 q q false), (117, .imm none false 3 (sh.map alc)), (118, I sh.length), (119, I q)], brdR none false cs L3 last ++ [.arr 9 1 ((nms (sh.take q)).map sc)]⟩) (n := sh.length)
        ⟨0, by omega, weak_to [0, 1, 2] hp hnp rfl (by simp (config := { maxSteps := 2000000 }) only [go_sem, ↓reduceIte, Int.reduceToNat, Nat.reduceMul, Int.reduceBEq, Int.reduceBNe, Nat.reduceBEq, Nat.reduceAdd, Nat.reduceSub, Nat.reduceLeDiff, Nat.reduceEqDiff, Nat.reduceLT, reduceCtorEq, Int.natCast_zero, Aw.pos]) (by simp (config := { maxSteps := 2000000 }) only [go_sem, ↓reduceIte, Int.reduceToNat, Nat.reduceMul, Int.reduceBEq, Int.reduceBNe, Nat.reduceBEq, Nat.reduceAdd, Nat.reduceSub, Nat.reduceLeDiff, Nat.reduceEqDiff, Nat.reduceLT, reduceCtorEq, Aw.renR, Aw.pos]; rfl)⟩ ?_
      clear hw hik hge e0
      rintro k s ⟨q, hqk, hw⟩
      refine AWp.weak hw (AWp.ofD [999] [] hn mixed rfl ?_)
      rcases Nat.lt_or_ge q sh.length with hlt | hge
      · have e0 : decide ((q : Int) < (sh.length : Int)) = true := decide_eq_true (by omega)
        have e1 := getD_map alc hlt
        have e2 : IntKind.i64.wrap ((q : Int) + 1) = ((q + 1 : Nat) : Int) := by rw [w64 (by omega) (by omega)]; omega
        have hap : (nms (sh.take q)).map sc ++ [[S sh[q].name]] = (nms (sh.take (q + 1))).map sc := by
          unfold nms
          rw [take_get hlt, List.map_append, List.map_append]; rfl
        have hln : (nms (sh.take q)).length = q := by unfold nms; rw [List.length_map, List.length_take]; omega
        have hak := hack _ (List.getElem_mem hlt)
        simp (config := { maxSteps := 2000000 }) only [go_sem, ↓reduceIte, Int.reduceToNat, Nat.reduceMul, Int.reduceBEq, Int.reduceBNe, Nat.reduceBEq, Nat.reduceAdd, Nat.reduceSub, Nat.reduceLeDiff, Nat.reduceEqDiff, Nat.reduceLT, reduceCtorEq, e0, e1]
        (repeat (refine And.intro (by first | omega | (refine ⟨by omega, by omega⟩) | (refine ⟨by omega, by omega, by omega⟩) | (simp only [List.length_map, List.length_range, List.length_append, List.length_cons, List.length_nil, List.length_replicate, List.length_set]; omega) | (simp; omega) | (intro hgd; cases hgd) | (intro hgd; refine ⟨hgd, ?_⟩; first | omega | (refine ⟨by omega, by omega⟩) | (simp; omega))) ?_))
        refine AWpL.app (r := 2) (els := (nms (sh.take q)).map sc) (ys := [[S sh[q].name]]) rfl rfl rfl rfl (by rw [hn]; rfl) (by rw [List.length_map, hln]) (pin 2) (Nat.le_refl 1) (fun el hm y hy => by
          rw [List.mem_singleton.1 hm] at hy
          rw [List.mem_singleton.1 hy]; rfl) (by simp only [List.length_cons, List.length_nil]; omega) (by simp only [List.length_cons, List.length_nil]; omega) (AWpL.ofM hn rfl ?_)
        simp (config := { maxSteps := 2000000 }) only [go_sem, ↓reduceIte, Int.reduceToNat, Nat.reduceMul, Int.reduceBEq, Int.reduceBNe, Nat.reduceBEq, Nat.reduceAdd, Nat.reduceSub, Nat.reduceLeDiff, Nat.reduceEqDiff, Nat.reduceLT, reduceCtorEq, hap]
        rcases Nat.eq_zero_or_pos q with hq0 | hq0
        · subst hq0
          have e3 : decide ((0 : Int) > 0) = false := by decide
          refine AWp.plan (.take 0 [false, false, false, false, false, false, false, false, false, false, false, false, false, false, false, false, false, false] (.take 1 [true, false, false, false, false, false, false, false, false, false, false, false, false, false, false, false, false, false] (.take 2 [true, true, false, false, false, false, false, false, false, false, false, false, false, false, false, false, false, false] (.take 3 [true, true, true, false, false, false, false, false, false, false, false, false, false, false, false, false, false, false] (.take 4 [true, true, true, true, false, false, false, false, false, false, false, false, false, false, false, false, false, false] (.take 5 [true, true, true, true, true, false, false, false, false, false, false, false, false, false, false, false, false, false] (.take 8 [true, true, true, true, true, true, true, true, false, false, true, true, false, false, false, false, false, false] (.three 6 (.three 7 (.two 9 (.take 10 [true, true, true, true, true, true, true, true, true, true, false, false, false, false, false, false, false, false] (.take 11 [true, true, true, true, true, true, true, true, true, true, true, false, false, false, false, false, false, false] (.take 12 [true, true, true, true, true, true, true, true, true, true, true, true, false, false, false, false, false, false] (.take 13 [true, true, true, true, true, true, true, true, true, true, true, true, true, false, false, false, false, false] (.take 14 [true, true, true, true, true, true, true, true, true, true, true, true, true, true, false, false, false, false] (.take 15 [true, true, true, true, true, true, true, true, true, true, true, true, true, true, true, false, false, false] (.take 16 [true, true, true, true, true, true, true, true, true, true, true, true, true, true, true, true, false, false] (.take 17 [true, true, true, true, true, true, true, true, true, true, true, true, true, true, true, true, true, false] .done)))))))) 10 (.two 9 (.take 11 [true, true, true, true, true, true, true, true, true, true, true, false, false, false, false, false, false, false] (.take 12 [true, true, true, true, true, true, true, true, true, true, true, true, false, false, false, false, false, false] (.take 13 [true, true, true, true, true, true, true, true, true, true, true, true, true, false, false, false, false, false] (.take 14 [true, true, true, true, true, true, true, true, true, true, true, true, true, true, false, false, false, false] (.take 15 [true, true, true, true, true, true, true, true, true, true, true, true, true, true, true, false, false, false] (.take 16 [true, true, true, true, true, true, true, true, true, true, true, true, true, true, true, true, false, false] (.take 17 [true, true, true, true, true, true, true, true, true, true, true, true, true, true, true, true, true, false] .done))))))) 11 (.one 9 (.take 12 [true, true, true, true, true, true, true, true, true, true, true, true, false, false, false, false, false, false] (.take 13 [true, true, true, true, true, true, true, true, true, true, true, true, true, false, false, false, false, false] (.take 14 [true, true, true, true, true, true, true, true, true, true, true, true, true, true, false, false, false, false] (.take 15 [true, true, true, true, true, true, true, true, true, true, true, true, true, true, true, false, false, false] (.take 16 [true, true, true, true, true, true, true, true, true, true, true, true, true, true, true, true, false, false] (.take 17 [true, true, true, true, true, true, true, true, true, true, true, true, true, true, true, true, true, false] .done))))))))) 9 (.take 7 [true, true, true, true, true, true, true, false, true, true, true, true, true, true, true, false, false, false] (.take 10 [true, true, true, true, true, true, true, true, true, true, false, false, false, false, false, false, false, false] (.take 11 [true, true, true, true, true, true, true, true, true, true, true, false, false, false, false, false, false, false] (.take 12 [true, true, true, true, true, true, true, true, true, true, true, true, false, false, false, false, false, false] (.take 13 [true, true, true, true, true, true, true, true, true, true, true, true, true, false, false, false, false, false] (.take 14 [true, true, true, true, true, true, true, true, true, true, true, true, true, true, false, false, false, false] (.take 15 [true, true, true, true, true, true, true, true, true, true, true, true, true, true, true, false, false, false] (.take 16 [true, true, true, true, true, true, true, true, true, true, true, true, true, true, true, true, false, false] (.take 17 [true, true, true, true, true, true, true, true, true, true, true, true, true, true, true, true, true, false] .done))))))))) 10 (.three 7 (.two 9 (.take 11 [true, true, true, true, true, true, true, true, true, true, true, false, false, false, false, false, false, false] (.take 12 [true, true, true, true, true, true, true, true, true, true, true, true, false, false, false, false, false, false] (.take 13 [true, true, true, true, true, true, true, true, true, true, true, true, true, false, false, false, false, false] (.take 14 [true, true, true, true, true, true, true, true, true, true, true, true, true, true, false, false, false, false] (.take 15 [true, true, true, true, true, true, true, true, true, true, true, true, true, true, true, false, false, false] (.take 16 [true, true, true, true, true, true, true, true, true, true, true, true, true, true, true, true, false, false] (.take 17 [true, true, true, true, true, true, true, true, true, true, true, true, true, true, true, true, true, false] .done))))))) 11 (.one 9 (.take 12 [true, true, true, true, true, true, true, true, true, true, true, true, false, false, false, false, false, false] (.take 13 [true, true, true, true, true, true, true, true, true, true, true, true, true, false, false, false, false, false] (.take 14 [true, true, true, true, true, true, true, true, true, true, true, true, true, true, false, false, false, false] (.take 15 [true, true, true, true, true, true, true, true, true, true, true, true, true, true, true, false, false, false] (.take 16 [true, true, true, true, true, true, true, true, true, true, true, true, true, true, true, true, false, false] (.take 17 [true, true, true, true, true, true, true, true, true, true, true, true, true, true, true, true, true, false] .done)))))))) 9 (.take 7 [true, true, true, true, true, true, true, false, true, true, true, true, true, true, true, false, false, false] (.take 11 [true, true, true, true, true, true, true, true, true, true, true, false, false, false, false, false, false, false] (.take 12 [true, true, true, true, true, true, true, true, true, true, true, true, false, false, false, false, false, false] (.take 13 [true, true, true, true, true, true, true, true, true, true, true, true, true, false, false, false, false, false] (.take 14 [true, true, true, true, true, true, true, true, true, true, true, true, true, true, false, false, false, false] (.take 15 [true, true, true, true, true, true, true, true, true, true, true, true, true, true, true, false, false, false] (.take 16 [true, true, true, true, true, true, true, true, true, true, true, true, true, true, true, true, false, false] (.take 17 [true, true, true, true, true, true, true, true, true, true, true, true, true, true, true, true, true, false] .done)))))))) 11 (.two 7 (.one 9 (.take 12 [true, true, true, true, true, true, true, true, true, true, true, true, false, false, false, false, false, false] (.take 13 [true, true, true, true, true, true, true, true, true, true, true, true, true, false, false, false, false, false] (.take 14 [true, true, true, true, true, true, true, true, true, true, true, true, true, true, false, false, false, false] (.take 15 [true, true, true, true, true, true, true, true, true, true, true, true, true, true, true, false, false, false] (.take 16 [true, true, true, true, true, true, true, true, true, true, true, true, true, true, true, true, false, false] (.take 17 [true, true, true, true, true, true, true, true, true, true, true, true, true, true, true, true, true, false] .done))))))) 9 (.take 7 [true, true, true, true, true, true, true, false, true, true, true, true, true, true, true, false, false, false] (.take 12 [true, true, true, true, true, true, true, true, true, true, true, true, false, false, false, false, false, false] (.take 13 [true, true, true, true, true, true, true, true, true, true, true, true, true, false, false, false, false, false] (.take 14 [true, true, true, true, true, true, true, true, true, true, true, true, true, true, false, false, false, false] (.take 15 [true, true, true, true, true, true, true, true, true, true, true, true, true, true, true, false, false, false] (.take 16 [true, true, true, true, true, true, true, true, true, true, true, true, true, true, true, true, false, false] (.take 17 [true, true, true, true, true, true, true, true, true, true, true, true, true, true, true, true, true, false] .done)))))))))) 9 (.take 6 [true, true, true, true, true, true, false, false, true, true, true, true, true, true, true, false, false, false] (.take 7 [true, true, true, true, true, true, true, false, true, true, true, true, true, true, true, false, false, false] (.take 10 [true, true, true, true, true, true, true, true, true, true, false, false, false, false, false, false, false, false] (.take 11 [true, true, true, true, true, true, true, true, true, true, true, false, false, false, false, false, false, false] (.take 12 [true, true, true, true, true, true, true, true, true, true, true, true, false, false, false, false, false, false] (.take 13 [true, true, true, true, true, true, true, true, true, true, true, true, true, false, false, false, false, false] (.take 14 [true, true, true, true, true, true, true, true, true, true, true, true, true, true, false, false, false, false] (.take 15 [true, true, true, true, true, true, true, true, true, true, true, true, true, true, true, false, false, false] (.take 16 [true, true, true, true, true, true, true, true, true, true, true, true, true, true, true, true, false, false] (.take 17 [true, true, true, true, true, true, true, true, true, true, true, true, true, true, true, true, true, false] .done)))))))))) 10 (.three 6 (.three 7 (.two 9 (.take 11 [true, true, true, true, true, true, true, true, true, true, true, false, false, false, false, false, false, false] (.take 12 [true, true, true, true, true, true, true, true, true, true, true, true, false, false, false, false, false, false] (.take 13 [true, true, true, true, true, true, true, true, true, true, true, true, true, false, false, false, false, false] (.take 14 [true, true, true, true, true, true, true, true, true, true, true, true, true, true, false, false, false, false] (.take 15 [true, true, true, true, true, true, true, true, true, true, true, true, true, true, true, false, false, false] (.take 16 [true, true, true, true, true, true, true, true, true, true, true, true, true, true, true, true, false, false] (.take 17 [true, true, true, true, true, true, true, true, true, true, true, true, true, true, true, true, true, false] .done))))))) 11 (.one 9 (.take 12 [true, true, true, true, true, true, true, true, true, true, true, true, false, false, false, false, false, false] (.take 13 [true, true, true, true, true, true, true, true, true, true, true, true, true, false, false, false, false, false] (.take 14 [true, true, true, true, true, true, true, true, true, true, true, true, true, true, false, false, false, false] (.take 15 [true, true, true, true, true, true, true, true, true, true, true, true, true, true, true, false, false, false] (.take 16 [true, true, true, true, true, true, true, true, true, true, true, true, true, true, true, true, false, false] (.take 17 [true, true, true, true, true, true, true, true, true, true, true, true, true, true, true, true, true, false] .done)))))))) 9 (.take 7 [true, true, true, true, true, true, true, false, true, true, true, true, true, true, true, false, false, false] (.take 11 [true, true, true, true, true, true, true, true, true, true, true, false, false, false, false, false, false, false] (.take 12 [true, true, true, true, true, true, true, true, true, true, true, true, false, false, false, false, false, false] (.take 13 [true, true, true, true, true, true, true, true, true, true, true, true, true, false, false, false, false, false] (.take 14 [true, true, true, true, true, true, true, true, true, true, true, true, true, true, false, false, false, false] (.take 15 [true, true, true, true, true, true, true, true, true, true, true, true, true, true, true, false, false, false] (.take 16 [true, true, true, true, true, true, true, true, true, true, true, true, true, true, true, true, false, false] (.take 17 [true, true, true, true, true, true, true, true, true, true, true, true, true, true, true, true, true, false] .done)))))))) 11 (.two 7 (.one 9 (.take 12 [true, true, true, true, true, true, true, true, true, true, true, true, false, false, false, false, false, false] (.take 13 [true, true, true, true, true, true, true, true, true, true, true, true, true, false, false, false, false, false] (.take 14 [true, true, true, true, true, true, true, true, true, true, true, true, true, true, false, false, false, false] (.take 15 [true, true, true, true, true, true, true, true, true, true, true, true, true, true, true, false, false, false] (.take 16 [true, true, true, true, true, true, true, true, true, true, true, true, true, true, true, true, false, false] (.take 17 [true, true, true, true, true, true, true, true, true, true, true, true, true, true, true, true, true, false] .done))))))) 9 (.take 7 [true, true, true, true, true, true, true, false, true, true, true, true, true, true, true, false, false, false] (.take 12 [true, true, true, true, true, true, true, true, true, true, true, true, false, false, false, false, false, false] (.take 13 [true, true, true, true, true, true, true, true, true, true, true, true, true, false, false, false, false, false] (.take 14 [true, true, true, true, true, true, true, true, true, true, true, true, true, true, false, false, false, false] (.take 15 [true, true, true, true, true, true, true, true, true, true, true, true, true, true, true, false, false, false] (.take 16 [true, true, true, true, true, true, true, true, true, true, true, true, true, true, true, true, false, false] (.take 17 [true, true, true, true, true, true, true, true, true, true, true, true, true, true, true, true, true, false] .done))))))))) 9 (.take 6 [true, true, true, true, true, true, false, false, true, true, true, true, true, true, true, false, false, false] (.take 7 [true, true, true, true, true, true, true, false, true, true, true, true, true, true, true, false, false, false] (.take 11 [true, true, true, true, true, true, true, true, true, true, true, false, false, false, false, false, false, false] (.take 12 [true, true, true, true, true, true, true, true, true, true, true, true, false, false, false, false, false, false] (.take 13 [true, true, true, true, true, true, true, true, true, true, true, true, true, false, false, false, false, false] (.take 14 [true, true, true, true, true, true, true, true, true, true, true, true, true, true, false, false, false, false] (.take 15 [true, true, true, true, true, true, true, true, true, true, true, true, true, true, true, false, false, false] (.take 16 [true, true, true, true, true, true, true, true, true, true, true, true, true, true, true, true, false, false] (.take 17 [true, true, true, true, true, true, true, true, true, true, true, true, true, true, true, true, true, false] .done))))))))) 11 (.two 6 (.two 7 (.one 9 (.take 12 [true, true, true, true, true, true, true, true, true, true, true, true, false, false, false, false, false, false] (.take 13 [true, true, true, true, true, true, true, true, true, true, true, true, true, false, false, false, false, false] (.take 14 [true, true, true, true, true, true, true, true, true, true, true, true, true, true, false, false, false, false] (.take 15 [true, true, true, true, true, true, true, true, true, true, true, true, true, true, true, false, false, false] (.take 16 [true, true, true, true, true, true, true, true, true, true, true, true, true, true, true, true, false, false] (.take 17 [true, true, true, true, true, true, true, true, true, true, true, true, true, true, true, true, true, false] .done))))))) 9 (.take 7 [true, true, true, true, true, true, true, false, true, true, true, true, true, true, true, false, false, false] (.take 12 [true, true, true, true, true, true, true, true, true, true, true, true, false, false, false, false, false, false] (.take 13 [true, true, true, true, true, true, true, true, true, true, true, true, true, false, false, false, false, false] (.take 14 [true, true, true, true, true, true, true, true, true, true, true, true, true, true, false, false, false, false] (.take 15 [true, true, true, true, true, true, true, true, true, true, true, true, true, true, true, false, false, false] (.take 16 [true, true, true, true, true, true, true, true, true, true, true, true, true, true, true, true, false, false] (.take 17 [true, true, true, true, true, true, true, true, true, true, true, true, true, true, true, true, true, false] .done)))))))) 9 (.take 6 [true, true, true, true, true, true, false, false, true, true, true, true, true, true, true, false, false, false] (.take 7 [true, true, true, true, true, true, true, false, true, true, true, true, true, true, true, false, false, false] (.take 12 [true, true, true, true, true, true, true, true, true, true, true, true, false, false, false, false, false, false] (.take 13 [true, true, true, true, true, true, true, true, true, true, true, true, true, false, false, false, false, false] (.take 14 [true, true, true, true, true, true, true, true, true, true, true, true, true, true, false, false, false, false] (.take 15 [true, true, true, true, true, true, true, true, true, true, true, true, true, true, true, false, false, false] (.take 16 [true, true, true, true, true, true, true, true, true, true, true, true, true, true, true, true, false, false] (.take 17 [true, true, true, true, true, true, true, true, true, true, true, true, true, true, true, true, true, false] .done)))))))))))))))))) [true, true, true, true, true, true, true, true, true, false, true, true, true, true, true, true, true, true] mixed hn rfl rfl ?_
          simp (config := { maxSteps := 2000000 }) only [go_sem, ↓reduceIte, Int.reduceToNat, Nat.reduceMul, Int.reduceBEq, Int.reduceBNe, Nat.reduceBEq, Nat.reduceAdd, Nat.reduceSub, Nat.reduceLeDiff, Nat.reduceEqDiff, Nat.reduceLT, reduceCtorEq, hak, e3, Int.natCast_zero]
          have e6 : IntKind.i64.wrap ((0 : Int) - 1) = -1 := by decide
          have e7 : (-1 : Int).toNat = 0 := rfl
          have e2' : IntKind.i64.wrap ((0 : Int) + 1) = 1 := by decide
          have e5 : (sh.map alc).length = sh.length := List.length_map ..
          repeat' first
            | exact ⟨k - 1, by omega, 1, by omega, weak_to [0, 1, 2] hp hnp rfl (by simp (config := { maxSteps := 2000000 }) only [go_sem, ↓reduceIte, Int.reduceToNat, Nat.reduceMul, Int.reduceBEq, Int.reduceBNe, Nat.reduceBEq, Nat.reduceAdd, Nat.reduceSub, Nat.reduceLeDiff, Nat.reduceEqDiff, Nat.reduceLT, reduceCtorEq, Int.natCast_one, Aw.pos]) (by simp (config := { maxSteps := 2000000 }) only [go_sem, ↓reduceIte, Int.reduceToNat, Nat.reduceMul, Int.reduceBEq, Int.reduceBNe, Nat.reduceBEq, Nat.reduceAdd, Nat.reduceSub, Nat.reduceLeDiff, Nat.reduceEqDiff, Nat.reduceLT, reduceCtorEq, Aw.renR, Aw.pos])⟩
            | (refine And.intro ?_ ?_)
            | (refine AOne.weakK (AOne.guardF (by rw [hn]; rfl) rfl ⟨_, weak_ent 138 (y := .opt false (.imm none false 3 (sh.map alc))) (by rfl) Ent.off, ?_⟩); simp (config := { maxSteps := 2000000 }) only [go_sem, ↓reduceIte, Int.reduceToNat, Nat.reduceMul, Int.reduceBEq, Int.reduceBNe, Nat.reduceBEq, Nat.reduceAdd, Nat.reduceSub, Nat.reduceLeDiff, Nat.reduceEqDiff, Nat.reduceLT, reduceCtorEq, e6, e7, e1, e2'])
        · have e3 : decide ((q : Int) > 0) = true := decide_eq_true (by omega)
          have e4 : IntKind.i64.wrap ((q : Int) - 1) = ((q - 1 : Nat) : Int) := by rw [w64 (by omega) (by omega)]; omega
          refine AWp.plan (.take 0 [false, false, false, false, false, false, false, false, false, false, false, false, false, false, false, false, false, false] (.take 1 [true, false, false, false, false, false, false, false, false, false, false, false, false, false, false, false, false, false] (.take 2 [true, true, false, false, false, false, false, false, false, false, false, false, false, false, false, false, false, false] (.take 3 [true, true, true, false, false, false, false, false, false, false, false, false, false, false, false, false, false, false] (.take 4 [true, true, true, true, false, false, false, false, false, false, false, false, false, false, false, false, false, false] (.take 5 [true, true, true, true, true, false, false, false, false, false, false, false, false, false, false, false, false, false] (.take 8 [true, true, true, true, true, true, true, true, false, false, true, true, false, false, false, false, false, false] (.three 6 (.three 7 (.two 9 (.take 10 [true, true, true, true, true, true, true, true, true, true, false, false, false, false, false, false, false, false] (.take 11 [true, true, true, true, true, true, true, true, true, true, true, false, false, false, false, false, false, false] (.take 12 [true, true, true, true, true, true, true, true, true, true, true, true, false, false, false, false, false, false] (.take 13 [true, true, true, true, true, true, true, true, true, true, true, true, true, false, false, false, false, false] (.take 14 [true, true, true, true, true, true, true, true, true, true, true, true, true, true, false, false, false, false] (.take 15 [true, true, true, true, true, true, true, true, true, true, true, true, true, true, true, false, false, false] (.take 16 [true, true, true, true, true, true, true, true, true, true, true, true, true, true, true, true, false, false] (.take 17 [true, true, true, true, true, true, true, true, true, true, true, true, true, true, true, true, true, false] .done)))))))) 10 (.two 9 (.take 11 [true, true, true, true, true, true, true, true, true, true, true, false, false, false, false, false, false, false] (.take 12 [true, true, true, true, true, true, true, true, true, true, true, true, false, false, false, false, false, false] (.take 13 [true, true, true, true, true, true, true, true, true, true, true, true, true, false, false, false, false, false] (.take 14 [true, true, true, true, true, true, true, true, true, true, true, true, true, true, false, false, false, false] (.take 15 [true, true, true, true, true, true, true, true, true, true, true, true, true, true, true, false, false, false] (.take 16 [true, true, true, true, true, true, true, true, true, true, true, true, true, true, true, true, false, false] (.take 17 [true, true, true, true, true, true, true, true, true, true, true, true, true, true, true, true, true, false] .done))))))) 11 (.one 9 (.take 12 [true, true, true, true, true, true, true, true, true, true, true, true, false, false, false, false, false, false] (.take 13 [true, true, true, true, true, true, true, true, true, true, true, true, true, false, false, false, false, false] (.take 14 [true, true, true, true, true, true, true, true, true, true, true, true, true, true, false, false, false, false] (.take 15 [true, true, true, true, true, true, true, true, true, true, true, true, true, true, true, false, false, false] (.take 16 [true, true, true, true, true, true, true, true, true, true, true, true, true, true, true, true, false, false] (.take 17 [true, true, true, true, true, true, true, true, true, true, true, true, true, true, true, true, true, false] .done))))))))) 9 (.take 7 [true, true, true, true, true, true, true, false, true, true, true, true, true, true, true, false, false, false] (.take 10 [true, true, true, true, true, true, true, true, true, true, false, false, false, false, false, false, false, false] (.take 11 [true, true, true, true, true, true, true, true, true, true, true, false, false, false, false, false, false, false] (.take 12 [true, true, true, true, true, true, true, true, true, true, true, true, false, false, false, false, false, false] (.take 13 [true, true, true, true, true, true, true, true, true, true, true, true, true, false, false, false, false, false] (.take 14 [true, true, true, true, true, true, true, true, true, true, true, true, true, true, false, false, false, false] (.take 15 [true, true, true, true, true, true, true, true, true, true, true, true, true, true, true, false, false, false] (.take 16 [true, true, true, true, true, true, true, true, true, true, true, true, true, true, true, true, false, false] (.take 17 [true, true, true, true, true, true, true, true, true, true, true, true, true, true, true, true, true, false] .done))))))))) 10 (.three 7 (.two 9 (.take 11 [true, true, true, true, true, true, true, true, true, true, true, false, false, false, false, false, false, false] (.take 12 [true, true, true, true, true, true, true, true, true, true, true, true, false, false, false, false, false, false] (.take 13 [true, true, true, true, true, true, true, true, true, true, true, true, true, false, false, false, false, false] (.take 14 [true, true, true, true, true, true, true, true, true, true, true, true, true, true, false, false, false, false] (.take 15 [true, true, true, true, true, true, true, true, true, true, true, true, true, true, true, false, false, false] (.take 16 [true, true, true, true, true, true, true, true, true, true, true, true, true, true, true, true, false, false] (.take 17 [true, true, true, true, true, true, true, true, true, true, true, true, true, true, true, true, true, false] .done))))))) 11 (.one 9 (.take 12 [true, true, true, true, true, true, true, true, true, true, true, true, false, false, false, false, false, false] (.take 13 [true, true, true, true, true, true, true, true, true, true, true, true, true, false, false, false, false, false] (.take 14 [true, true, true, true, true, true, true, true, true, true, true, true, true, true, false, false, false, false] (.take 15 [true, true, true, true, true, true, true, true, true, true, true, true, true, true, true, false, false, false] (.take 16 [true, true, true, true, true, true, true, true, true, true, true, true, true, true, true, true, false, false] (.take 17 [true, true, true, true, true, true, true, true, true, true, true, true, true, true, true, true, true, false] .done)))))))) 9 (.take 7 [true, true, true, true, true, true, true, false, true, true, true, true, true, true, true, false, false, false] (.take 11 [true, true, true, true, true, true, true, true, true, true, true, false, false, false, false, false, false, false] (.take 12 [true, true, true, true, true, true, true, true, true, true, true, true, false, false, false, false, false, false] (.take 13 [true, true, true, true, true, true, true, true, true, true, true, true, true, false, false, false, false, false] (.take 14 [true, true, true, true, true, true, true, true, true, true, true, true, true, true, false, false, false, false] (.take 15 [true, true, true, true, true, true, true, true, true, true, true, true, true, true, true, false, false, false] (.take 16 [true, true, true, true, true, true, true, true, true, true, true, true, true, true, true, true, false, false] (.take 17 [true, true, true, true, true, true, true, true, true, true, true, true, true, true, true, true, true, false] .done)))))))) 11 (.two 7 (.one 9 (.take 12 [true, true, true, true, true, true, true, true, true, true, true, true, false, false, false, false, false, false] (.take 13 [true, true, true, true, true, true, true, true, true, true, true, true, true, false, false, false, false, false] (.take 14 [true, true, true, true, true, true, true, true, true, true, true, true, true, true, false, false, false, false] (.take 15 [true, true, true, true, true, true, true, true, true, true, true, true, true, true, true, false, false, false] (.take 16 [true, true, true, true, true, true, true, true, true, true, true, true, true, true, true, true, false, false] (.take 17 [true, true, true, true, true, true, true, true, true, true, true, true, true, true, true, true, true, false] .done))))))) 9 (.take 7 [true, true, true, true, true, true, true, false, true, true, true, true, true, true, true, false, false, false] (.take 12 [true, true, true, true, true, true, true, true, true, true, true, true, false, false, false, false, false, false] (.take 13 [true, true, true, true, true, true, true, true, true, true, true, true, true, false, false, false, false, false] (.take 14 [true, true, true, true, true, true, true, true, true, true, true, true, true, true, false, false, false, false] (.take 15 [true, true, true, true, true, true, true, true, true, true, true, true, true, true, true, false, false, false] (.take 16 [true, true, true, true, true, true, true, true, true, true, true, true, true, true, true, true, false, false] (.take 17 [true, true, true, true, true, true, true, true, true, true, true, true, true, true, true, true, true, false] .done)))))))))) 9 (.take 6 [true, true, true, true, true, true, false, false, true, true, true, true, true, true, true, false, false, false] (.take 7 [true, true, true, true, true, true, true, false, true, true, true, true, true, true, true, false, false, false] (.take 10 [true, true, true, true, true, true, true, true, true, true, false, false, false, false, false, false, false, false] (.take 11 [true, true, true, true, true, true, true, true, true, true, true, false, false, false, false, false, false, false] (.take 12 [true, true, true, true, true, true, true, true, true, true, true, true, false, false, false, false, false, false] (.take 13 [true, true, true, true, true, true, true, true, true, true, true, true, true, false, false, false, false, false] (.take 14 [true, true, true, true, true, true, true, true, true, true, true, true, true, true, false, false, false, false] (.take 15 [true, true, true, true, true, true, true, true, true, true, true, true, true, true, true, false, false, false] (.take 16 [true, true, true, true, true, true, true, true, true, true, true, true, true, true, true, true, false, false] (.take 17 [true, true, true, true, true, true, true, true, true, true, true, true, true, true, true, true, true, false] .done)))))))))) 10 (.three 6 (.three 7 (.two 9 (.take 11 [true, true, true, true, true, true, true, true, true, true, true, false, false, false, false, false, false, false] (.take 12 [true, true, true, true, true, true, true, true, true, true, true, true, false, false, false, false, false, false] (.take 13 [true, true, true, true, true, true, true, true, true, true, true, true, true, false, false, false, false, false] (.take 14 [true, true, true, true, true, true, true, true, true, true, true, true, true, true, false, false, false, false] (.take 15 [true, true, true, true, true, true, true, true, true, true, true, true, true, true, true, false, false, false] (.take 16 [true, true, true, true, true, true, true, true, true, true, true, true, true, true, true, true, false, false] (.take 17 [true, true, true, true, true, true, true, true, true, true, true, true, true, true, true, true, true, false] .done))))))) 11 (.one 9 (.take 12 [true, true, true, true, true, true, true, true, true, true, true, true, false, false, false, false, false, false] (.take 13 [true, true, true, true, true, true, true, true, true, true, true, true, true, false, false, false, false, false] (.take 14 [true, true, true, true, true, true, true, true, true, true, true, true, true, true, false, false, false, false] (.take 15 [true, true, true, true, true, true, true, true, true, true, true, true, true, true, true, false, false, false] (.take 16 [true, true, true, true, true, true, true, true, true, true, true, true, true, true, true, true, false, false] (.take 17 [true, true, true, true, true, true, true, true, true, true, true, true, true, true, true, true, true, false] .done)))))))) 9 (.take 7 [true, true, true, true, true, true, true, false, true, true, true, true, true, true, true, false, false, false] (.take 11 [true, true, true, true, true, true, true, true, true, true, true, false, false, false, false, false, false, false] (.take 12 [true, true, true, true, true, true, true, true, true, true, true, true, false, false, false, false, false, false] (.take 13 [true, true, true, true, true, true, true, true, true, true, true, true, true, false, false, false, false, false] (.take 14 [true, true, true, true, true, true, true, true, true, true, true, true, true, true, false, false, false, false] (.take 15 [true, true, true, true, true, true, true, true, true, true, true, true, true, true, true, false, false, false] (.take 16 [true, true, true, true, true, true, true, true, true, true, true, true, true, true, true, true, false, false] (.take 17 [true, true, true, true, true, true, true, true, true, true, true, true, true, true, true, true, true, false] .done)))))))) 11 (.two 7 (.one 9 (.take 12 [true, true, true, true, true, true, true, true, true, true, true, true, false, false, false, false, false, false] (.take 13 [true, true, true, true, true, true, true, true, true, true, true, true, true, false, false, false, false, false] (.take 14 [true, true, true, true, true, true, true, true, true, true, true, true, true, true, false, false, false, false] (.take 15 [true, true, true, true, true, true, true, true, true, true, true, true, true, true, true, false, false, false] (.take 16 [true, true, true, true, true, true, true, true, true, true, true, true, true, true, true, true, false, false] (.take 17 [true, true, true, true, true, true, true, true, true, true, true, true, true, true, true, true, true, false] .done))))))) 9 (.take 7 [true, true, true, true, true, true, true, false, true, true, true, true, true, true, true, false, false, false] (.take 12 [true, true, true, true, true, true, true, true, true, true, true, true, false, false, false, false, false, false] (.take 13 [true, true, true, true, true, true, true, true, true, true, true, true, true, false, false, false, false, false] (.take 14 [true, true, true, true, true, true, true, true, true, true, true, true, true, true, false, false, false, false] (.take 15 [true, true, true, true, true, true, true, true, true, true, true, true, true, true, true, false, false, false] (.take 16 [true, true, true, true, true, true, true, true, true, true, true, true, true, true, true, true, false, false] (.take 17 [true, true, true, true, true, true, true, true, true, true, true, true, true, true, true, true, true, false] .done))))))))) 9 (.take 6 [true, true, true, true, true, true, false, false, true, true, true, true, true, true, true, false, false, false] (.take 7 [true, true, true, true, true, true, true, false, true, true, true, true, true, true, true, false, false, false] (.take 11 [true, true, true, true, true, true, true, true, true, true, true, false, false, false, false, false, false, false] (.take 12 [true, true, true, true, true, true, true, true, true, true, true, true, false, false, false, false, false, false] (.take 13 [true, true, true, true, true, true, true, true, true, true, true, true, true, false, false, false, false, false] (.take 14 [true, true, true, true, true, true, true, true, true, true, true, true, true, true, false, false, false, false] (.take 15 [true, true, true, true, true, true, true, true, true, true, true, true, true, true, true, false, false, false] (.take 16 [true, true, true, true, true, true, true, true, true, true, true, true, true, true, true, true, false, false] (.take 17 [true, true, true, true, true, true, true, true, true, true, true, true, true, true, true, true, true, false] .done))))))))) 11 (.two 6 (.two 7 (.one 9 (.take 12 [true, true, true, true, true, true, true, true, true, true, true, true, false, false, false, false, false, false] (.take 13 [true, true, true, true, true, true, true, true, true, true, true, true, true, false, false, false, false, false] (.take 14 [true, true, true, true, true, true, true, true, true, true, true, true, true, true, false, false, false, false] (.take 15 [true, true, true, true, true, true, true, true, true, true, true, true, true, true, true, false, false, false] (.take 16 [true, true, true, true, true, true, true, true, true, true, true, true, true, true, true, true, false, false] (.take 17 [true, true, true, true, true, true, true, true, true, true, true, true, true, true, true, true, true, false] .done))))))) 9 (.take 7 [true, true, true, true, true, true, true, false, true, true, true, true, true, true, true, false, false, false] (.take 12 [true, true, true, true, true, true, true, true, true, true, true, true, false, false, false, false, false, false] (.take 13 [true, true, true, true, true, true, true, true, true, true, true, true, true, false, false, false, false, false] (.take 14 [true, true, true, true, true, true, true, true, true, true, true, true, true, true, false, false, false, false] (.take 15 [true, true, true, true, true, true, true, true, true, true, true, true, true, true, true, false, false, false] (.take 16 [true, true, true, true, true, true, true, true, true, true, true, true, true, true, true, true, false, false] (.take 17 [true, true, true, true, true, true, true, true, true, true, true, true, true, true, true, true, true, false] .done)))))))) 9 (.take 6 [true, true, true, true, true, true, false, false, true, true, true, true, true, true, true, false, false, false] (.take 7 [true, true, true, true, true, true, true, false, true, true, true, true, true, true, true, false, false, false] (.take 12 [true, true, true, true, true, true, true, true, true, true, true, true, false, false, false, false, false, false] (.take 13 [true, true, true, true, true, true, true, true, true, true, true, true, true, false, false, false, false, false] (.take 14 [true, true, true, true, true, true, true, true, true, true, true, true, true, true, false, false, false, false] (.take 15 [true, true, true, true, true, true, true, true, true, true, true, true, true, true, true, false, false, false] (.take 16 [true, true, true, true, true, true, true, true, true, true, true, true, true, true, true, true, false, false] (.take 17 [true, true, true, true, true, true, true, true, true, true, true, true, true, true, true, true, true, false] .done)))))))))))))))))) [true, true, true, true, true, true, true, true, true, false, true, true, true, true, true, true, true, true] mixed hn rfl rfl ?_
          simp (config := { maxSteps := 2000000 }) only [go_sem, ↓reduceIte, Int.reduceToNat, Nat.reduceMul, Int.reduceBEq, Int.reduceBNe, Nat.reduceBEq, Nat.reduceAdd, Nat.reduceSub, Nat.reduceLeDiff, Nat.reduceEqDiff, Nat.reduceLT, reduceCtorEq, hak, e3, e4]
          have hpost : ∀ (rg : List Reg) (v : AV), (rg = brdR none false cs L3 last ∧ ∃ sh, sh.Perm (L3.filter (keepP cs L3)) ∧ Tim sh ∧ v = .imm none false 3 (sh.map alc)) →
              rg = brdR none false cs L3 last ∧ ∃ (s2 : List Ale) (h : q - 1 < s2.length), s2.length = sh.length ∧ decide (sh[q].time < s2[q - 1].time) = false ∧ v = .imm none false 3 (s2.map alc) := fun rg v ⟨h1, s2, h2, h3, h4⟩ => by
            have ht := shown_times hsh h2 hts h3
            have hle := congrArg List.length ht
            rw [List.length_map, List.length_map] at hle
            refine ⟨h1, s2, by omega, hle.symm, decide_eq_false fun hlt2 => ?_, h4⟩
            have h5 : s2[q - 1].time = sh[q - 1].time := by
              have := congrArg (fun l : List Int => l[q - 1]?) ht
              simp only [List.getElem?_map] at this
              rw [List.getElem?_eq_getElem (by omega), List.getElem?_eq_getElem (by omega)] at this
              exact (Option.some.inj this).symm
            unfold Tim at hts
            rw [List.pairwise_map, List.pairwise_iff_getElem] at hts
            have := hts (q - 1) q (by omega) hlt (by omega)
            omega
          have hS2 := Aw.Spec.post hS hpost
          repeat' first
            | exact ⟨k - 1, by omega, q + 1, by omega, weak_to [0, 1, 2] hp hnp rfl (by simp (config := { maxSteps := 2000000 }) only [go_sem, ↓reduceIte, Int.reduceToNat, Nat.reduceMul, Int.reduceBEq, Int.reduceBNe, Nat.reduceBEq, Nat.reduceAdd, Nat.reduceSub, Nat.reduceLeDiff, Nat.reduceEqDiff, Nat.reduceLT, reduceCtorEq, e2, Aw.pos]) (by simp (config := { maxSteps := 2000000 }) only [go_sem, ↓reduceIte, Int.reduceToNat, Nat.reduceMul, Int.reduceBEq, Int.reduceBNe, Nat.reduceBEq, Nat.reduceAdd, Nat.reduceSub, Nat.reduceLeDiff, Nat.reduceEqDiff, Nat.reduceLT, reduceCtorEq, Aw.renR, Aw.pos])⟩
            | omega
            | (refine And.intro ?_ ?_)
            | (refine AOne.guardT rfl (AOne.weak (weak_opt 137 rfl) (AOne.rule (AWpL.callA [0, 1] hS2 rfl rfl (by rw [hn]; rfl) rfl (fun r hr => .inr (pin r)) fun rg v hv => ?_)))
               obtain ⟨rfl, s2, hq1, hq2, hq3, rfl⟩ := hv
               have e5 := getD_map alc hq1
               refine ⟨Nat.le_refl _, AWpL.ofM hn rfl ?_⟩
               simp (config := { maxSteps := 2000000 }) only [go_sem, ↓reduceIte, Int.reduceToNat, Nat.reduceMul, Int.reduceBEq, Int.reduceBNe, Nat.reduceBEq, Nat.reduceAdd, Nat.reduceSub, Nat.reduceLeDiff, Nat.reduceEqDiff, Nat.reduceLT, reduceCtorEq, Aw.retS, Aw.retRg, Aw.kpM, Aw.bkM, Aw.pos, Aw.isBox, e4, e5, hq3, Int.toNat_natCast])
      · have e0 : decide ((q : Int) < (sh.length : Int)) = false := decide_eq_false (by omega)
        have eti : sh.take q = sh := List.take_of_length_le hge
        simp (config := { maxSteps := 2000000 }) only [go_sem, ↓reduceIte, Int.reduceToNat, Nat.reduceMul, Int.reduceBEq, Int.reduceBNe, Nat.reduceBEq, Nat.reduceAdd, Nat.reduceSub, Nat.reduceLeDiff, Nat.reduceEqDiff, Nat.reduceLT, reduceCtorEq, e0, eti]
        have hnsh : (nms sh).length = sh.length := List.length_map ..
        have hsc := shown_causes hb3 (by omega) he hsh
        have hlen : (causesL cs (nms L3)).length = q := by rw [← hsc, sortS_len, hnsh]; omega
        have hEq : Aw.Spec Try.prog 13 [] [.imm none false 1 ((((causesL cs (nms L3)).map sc).drop 0).take q), ss none false (causesL cs (nms L3))] (Gives (· = B true)) := by
          rw [List.drop_zero, List.take_of_length_le (by rw [List.length_map, hlen]; exact Nat.le_refl _)]
          exact s13 none false none false (causesL cs (nms L3)) (by omega)
        refine sortStr (nms sh) rfl rfl (by rw [hnsh]; omega) (by rw [hn]; rfl) (by omega) (AWpL.ofM hn rfl ?_)
        rw [hsc]
        simp (config := { maxSteps := 2000000 }) only [go_sem, ↓reduceIte, Int.reduceToNat, Nat.reduceMul, Int.reduceBEq, Int.reduceBNe, Nat.reduceBEq, Nat.reduceAdd, Nat.reduceSub, Nat.reduceLeDiff, Nat.reduceEqDiff, Nat.reduceLT, reduceCtorEq]
        (refine AWpL.calle (s7) rfl (by rw [hn]; rfl) (by simp (config := { maxSteps := 2000000 }) only [go_sem, ↓reduceIte, Int.reduceToNat, Nat.reduceMul, Int.reduceBEq, Int.reduceBNe, Nat.reduceBEq, Nat.reduceAdd, Nat.reduceSub, Nat.reduceLeDiff, Nat.reduceEqDiff, Nat.reduceLT, reduceCtorEq]) (AWpL.ofM hn rfl ?_); simp (config := { maxSteps := 2000000 }) only [go_sem, ↓reduceIte, Int.reduceToNat, Nat.reduceMul, Int.reduceBEq, Int.reduceBNe, Nat.reduceBEq, Nat.reduceAdd, Nat.reduceSub, Nat.reduceLeDiff, Nat.reduceEqDiff, Nat.reduceLT, reduceCtorEq])
        refine AWpL.guardT rfl (AWpL.weak (weak_opt 156 rfl) ?_)
        refine AWpL.callA [0, 1] (s22 none false cs L3 last (by omega) hb3.tim) rfl rfl (by rw [hn]; rfl) rfl (fun r hr => .inr (pin r)) fun rg v hv => ?_
        obtain ⟨rfl, al, hal, rfl⟩ := hv
        have e5 : ((al.length : Int) == ((nms L3).length : Int)) = true := by rw [beq_iff_eq, hal.len, hnl3]
        refine ⟨Nat.le_refl _, AWpL.ofM hn rfl ?_⟩
        simp (config := { maxSteps := 2000000 }) only [go_sem, ↓reduceIte, Int.reduceToNat, Nat.reduceMul, Int.reduceBEq, Int.reduceBNe, Nat.reduceBEq, Nat.reduceAdd, Nat.reduceSub, Nat.reduceLeDiff, Nat.reduceEqDiff, Nat.reduceLT, reduceCtorEq, Aw.retS, Aw.retRg, Aw.kpM, Aw.bkM, Aw.pos, Aw.isBox, e5]
        refine AWpL.gcalle (b := true) rfl (fun _ => hEq) rfl (by rw [hn]; rfl) (fun _ => by simp (config := { maxSteps := 2000000 }) only [go_sem, ↓reduceIte, Int.reduceToNat, Nat.reduceMul, Int.reduceBEq, Int.reduceBNe, Nat.reduceBEq, Nat.reduceAdd, Nat.reduceSub, Nat.reduceLeDiff, Nat.reduceEqDiff, Nat.reduceLT, reduceCtorEq, hlen, Nat.le_refl]) (AWpL.ofM hn rfl ?_)
        simp (config := { maxSteps := 2000000 }) only [go_sem, ↓reduceIte, Int.reduceToNat, Nat.reduceMul, Int.reduceBEq, Int.reduceBNe, Nat.reduceBEq, Nat.reduceAdd, Nat.reduceSub, Nat.reduceLeDiff, Nat.reduceEqDiff, Nat.reduceLT, reduceCtorEq]
  · refine AWp.ofD [] [] hn mixed rfl ?_
    simp (config := { maxSteps := 2000000 }) only [go_sem, ↓reduceIte, Int.reduceToNat, Nat.reduceMul, Int.reduceBEq, Int.reduceBNe, Nat.reduceBEq, Nat.reduceAdd, Nat.reduceSub, Nat.reduceLeDiff, Nat.reduceEqDiff, Nat.reduceLT, reduceCtorEq]
    refine AWpL.callA [] (new_bad nl fl cs hc he) rfl rfl (by rw [hn]; rfl) rfl (fun r hr => by cases hr) fun rg v hv => ?_
    obtain ⟨rfl, rfl⟩ := hv
    refine ⟨Nat.zero_le _, AWpL.ofM hn rfl ?_⟩
    have e1 : (causesF cs != 0) = true := bne_iff_ne.2 he
    simp (config := { maxSteps := 2000000 }) only [go_sem, ↓reduceIte, Int.reduceToNat, Nat.reduceMul, Int.reduceBEq, Int.reduceBNe, Nat.reduceBEq, Nat.reduceAdd, Nat.reduceSub, Nat.reduceLeDiff, Nat.reduceEqDiff, Nat.reduceLT, reduceCtorEq, Aw.retS, Aw.retRg, Aw.kpM, Aw.bkM, Aw.pos, Aw.isBox, e1]
    (refine AWpL.calle (s7) rfl (by rw [hn]; rfl) (by simp (config := { maxSteps := 2000000 }) only [go_sem, ↓reduceIte, Int.reduceToNat, Nat.reduceMul, Int.reduceBEq, Int.reduceBNe, Nat.reduceBEq, Nat.reduceAdd, Nat.reduceSub, Nat.reduceLeDiff, Nat.reduceEqDiff, Nat.reduceLT, reduceCtorEq]) (AWpL.ofM hn rfl ?_); simp (config := { maxSteps := 2000000 }) only [go_sem, ↓reduceIte, Int.reduceToNat, Nat.reduceMul, Int.reduceBEq, Int.reduceBNe, Nat.reduceBEq, Nat.reduceAdd, Nat.reduceSub, Nat.reduceLeDiff, Nat.reduceEqDiff, Nat.reduceLT, reduceCtorEq])
    (refine AWpL.gcalle (b := true) rfl (fun _ => (s6 nl fl cs hc)) rfl (by rw [hn]; rfl) (fun _ => by simp (config := { maxSteps := 2000000 }) only [go_sem, ↓reduceIte, Int.reduceToNat, Nat.reduceMul, Int.reduceBEq, Int.reduceBNe, Nat.reduceBEq, Nat.reduceAdd, Nat.reduceSub, Nat.reduceLeDiff, Nat.reduceEqDiff, Nat.reduceLT, reduceCtorEq]) (AWpL.ofM hn rfl ?_); simp (config := { maxSteps := 2000000 }) only [go_sem, ↓reduceIte, Int.reduceToNat, Nat.reduceMul, Int.reduceBEq, Int.reduceBNe, Nat.reduceBEq, Nat.reduceAdd, Nat.reduceSub, Nat.reduceLeDiff, Nat.reduceEqDiff, Nat.reduceLT, reduceCtorEq])
end Go.Proofs.Ytoickofcmngdjaa
