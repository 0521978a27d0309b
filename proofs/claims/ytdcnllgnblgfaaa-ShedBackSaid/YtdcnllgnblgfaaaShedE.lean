/- What the laws of stages compute. -/
import Derived.Test.YtdcnllgnblgfaaaAwZf
import Derived.Test.YtdcnllgnblgfaaaShedD
import Derived.Test.YtdcnllgnblgfaaaLibC
set_option linter.unusedVariables false
set_option linter.unusedSimpArgs false
namespace Go.Proofs.Ytdcnllgnblgfaaa
open Go.Proofs.Ytdcnllgnblgfaaa.Aw
attribute [local go_sem] Int.natCast_zero Int.natCast_one bne_self_eq_false beq_self_eq_true Bool.not_true Bool.not_false Option.isSome_none Option.isSome_some Aw.bkM_nil Option.getD_some Option.getD_none Nat.sub_zero Int.toNat_zero Aw.frzS Aw.frzT Aw.frzA Aw.frzL Aw.frzR Aw.frzO Aw.frzOL Aw.frzOT Aw.frzOR Aw.killS Aw.mapT Aw.mapR Aw.killM Aw.resAVs Aw.resAV Aw.quietOps Aw.wpP Aw.wpT Aw.wpS Aw.AOp.mild List.getElem?_cons_zero List.getElem?_cons_succ Bool.and_false Bool.and_self Bool.false_and Aw.opOb Aw.gdB Aw.Rnd Aw.subTm List.length_map Int.toNat_natCast and_self Aw.SeqC Aw.stops Aw.Ends Aw.looks Aw.renA Aw.renL Aw.renT Aw.renS Aw.wpO Aw.aop Aw.putTm Aw.St.ev Aw.St.put Aw.St.putO Aw.binAV Aw.intBin Aw.strBin Aw.pickAV Aw.optInt Aw.AV.strip Aw.AV.guard Aw.AV.cells Aw.gdOb Aw.AOp.opds Aw.AOp.still Aw.ptrCells Aw.St.reg Aw.fillAV Aw.fillOb Aw.elsOb Aw.splice Aw.firm Aw.cellish Aw.AV.shut Aw.shutAll Aw.Seq Aw.Blk Aw.retS_nil Aw.mapA Aw.mapL Aw.borA Aw.borOb Aw.allOb Aw.tupOf Aw.params Aw.Opd.of Array.toList Value.cells List.map_cons List.map_nil List.getD_cons_zero List.getD_cons_succ List.getD_nil List.length_cons List.length_nil List.take_succ_cons List.take_zero List.take_nil List.drop_zero List.drop_succ_cons List.drop_nil List.set_cons_zero List.set_cons_succ List.append_nil List.nil_append List.cons_append List.all_cons List.all_nil cond_false cond_true if_true if_false true_and and_true Bool.and_true Bool.true_and Option.map_some Option.map_none false_implies forall_const implies_true forall_eq imp_self Bool.cond_false_right Bool.cond_true_left beq_true beq_false Bool.not_eq_true' Bool.false_eq_true Nat.zero_add Nat.add_zero Aw.eqCells Aw.exactCap Aw.overEls Aw.revealS Aw.srcEls Aw.srcSz
attribute [local go_sem ↓] Aw.look_nil Aw.look_ite Aw.wpL_nil Aw.wpL_op Aw.wpL_gd Aw.wpQ_nil Aw.wpQ_op Aw.wpQ_gd Aw.wpC_draw Aw.wpC_reg Aw.wpC_skip Aw.wpC_ret Aw.wpC_exit Aw.wpC_seq Aw.wpC_block Aw.wpC_loop Aw.wpC_cond Aw.stopAt_nil Aw.stopAt_cons Aw.wpD_skip Aw.wpD_ret Aw.wpD_exit Aw.wpD_region Aw.wpD_draw Aw.wpM_nil Aw.wpM_op Aw.wpM_gd Aw.wpD_seq Aw.wpD_block Aw.wpD_loop Aw.wpD_cond
/- gridhall/gridhallkeep4.shedFact -/
def a6 : ACode :=
  (.seq (.region false [] [
     ⟨(some 0), none, (.mov (.v (.bool false)))⟩])
  (.seq (.region false [] [
     ⟨(some 8), none, (.bsl 9 1 1 [(0, (.v (.string ⟨#[65]⟩)))])⟩,
     ⟨(some 9), none, (.build (.agg #[(.int .i64 0), (.int .i64 0), (.slice none 0 0)]) [(0, (1, (.v (.int .i64 (-200))))), (1, (1, (.v (.int .i64 2)))), (2, (1, (.t 8)))])⟩,
     ⟨(some 10), none, (.bsl 34 3 1 [(0, (.t 9))])⟩,
     ⟨(some 11), none, (.call 5 [(.t 10)])⟩,
     ⟨(some 7), none, (.mov (.t 11))⟩,
     ⟨(some 12), none, (.ext 0 (.t 7))⟩,
     ⟨(some 13), none, (.ext 1 (.t 7))⟩,
     ⟨(some 1), none, (.mov (.t 12))⟩,
     ⟨(some 2), none, (.mov (.t 13))⟩])
  (.seq (.seq (.region false [] [
     ⟨(some 14), none, (.mov (.t 2))⟩,
     ⟨(some 15), none, (.bin .neq 25 (.t 14) (.v (.int .i64 0)))⟩,
     ⟨(some 16), none, (.mov (.t 15))⟩,
     ⟨(some 17), (some (16, false)), (.mov (.t 1))⟩,
     ⟨(some 18), (some (16, false)), (.nilP false (.t 17))⟩,
     ⟨(some 19), none, (.pick (.t 16) (.v (.bool true)) (.t 18))⟩])
  (.cond (.t 19)
    (.seq (.region false [] [
       ⟨(some 0), none, (.mov (.v (.bool false)))⟩])
    .ret)
    .skip))
  (.seq (.region false [] [
     ⟨(some 21), none, (.mov (.t 1))⟩,
     ⟨(some 22), none, (.call 8 [(.t 21), (.v (.int .i64 (-300)))])⟩,
     ⟨(some 20), none, (.mov (.t 22))⟩,
     ⟨(some 23), none, (.ext 0 (.t 20))⟩,
     ⟨(some 24), none, (.ext 1 (.t 20))⟩,
     ⟨(some 3), none, (.mov (.t 23))⟩,
     ⟨(some 4), none, (.mov (.t 24))⟩])
  (.seq (.region false [] [
     ⟨(some 26), none, (.mov (.t 1))⟩,
     ⟨(some 27), none, (.call 8 [(.t 26), (.v (.int .i64 (-300)))])⟩,
     ⟨(some 25), none, (.mov (.t 27))⟩,
     ⟨(some 28), none, (.ext 0 (.t 25))⟩,
     ⟨(some 29), none, (.ext 1 (.t 25))⟩,
     ⟨(some 5), none, (.mov (.t 28))⟩,
     ⟨(some 6), none, (.mov (.t 29))⟩])
  (.seq (.region false [] [
     ⟨(some 30), none, (.mov (.t 4))⟩,
     ⟨(some 31), none, (.bin .eql 25 (.t 30) (.v (.int .i64 0)))⟩,
     ⟨(some 32), none, (.mov (.t 31))⟩,
     ⟨(some 33), (some (32, true)), (.mov (.t 6))⟩,
     ⟨(some 34), (some (32, true)), (.bin .eql 25 (.t 33) (.v (.int .i64 0)))⟩,
     ⟨(some 35), none, (.pick (.t 32) (.t 34) (.v (.bool false)))⟩,
     ⟨(some 36), none, (.mov (.t 35))⟩,
     ⟨(some 37), (some (36, true)), (.mov (.t 3))⟩,
     ⟨(some 38), (some (36, true)), (.len (.t 37))⟩,
     ⟨(some 39), (some (36, true)), (.bin .eql 3 (.t 38) (.v (.int .i64 0)))⟩,
     ⟨(some 40), none, (.pick (.t 36) (.t 39) (.v (.bool false)))⟩,
     ⟨(some 41), none, (.mov (.t 40))⟩,
     ⟨(some 42), (some (41, true)), (.mov (.t 5))⟩,
     ⟨(some 43), (some (41, true)), (.bsl 9 1 1 [(0, (.v (.string ⟨#[65]⟩)))])⟩,
     ⟨(some 44), (some (41, true)), (.call 13 [(.t 42), (.t 43)])⟩,
     ⟨(some 45), none, (.pick (.t 41) (.t 44) (.v (.bool false)))⟩,
     ⟨(some 0), none, (.mov (.t 45))⟩])
  .ret))))))
theorem k6 : FnIs Try.prog 6 46 [.t 0] a6 := ⟨_, _, Try.func6, rfl, by kernel_rfl, by kernel_rfl, rfl⟩
/- gridhall/gridhallkeep4.ShedCalm -/
def a3 : ACode :=
  (.seq (.region false [] [
     ⟨(some 4), none, (.mov (.v (.bool false)))⟩])
  (.seq (.region false [] [
     ⟨(some 20), none, (.mov (.t 0))⟩,
     ⟨(some 21), none, (.call 5 [(.t 20)])⟩,
     ⟨(some 19), none, (.mov (.t 21))⟩,
     ⟨(some 22), none, (.ext 0 (.t 19))⟩,
     ⟨(some 23), none, (.ext 1 (.t 19))⟩,
     ⟨(some 5), none, (.mov (.t 22))⟩,
     ⟨(some 6), none, (.mov (.t 23))⟩])
  (.seq (.region false [] [
     ⟨(some 25), none, (.mov (.t 0))⟩,
     ⟨(some 26), none, (.call 5 [(.t 25)])⟩,
     ⟨(some 24), none, (.mov (.t 26))⟩,
     ⟨(some 27), none, (.ext 0 (.t 24))⟩,
     ⟨(some 28), none, (.ext 1 (.t 24))⟩,
     ⟨(some 7), none, (.mov (.t 27))⟩,
     ⟨(some 8), none, (.mov (.t 28))⟩])
  (.seq (.seq (.region false [] [
     ⟨(some 29), none, (.mov (.t 6))⟩,
     ⟨(some 30), none, (.bin .neq 25 (.t 29) (.v (.int .i64 0)))⟩,
     ⟨(some 31), none, (.mov (.t 30))⟩,
     ⟨(some 32), (some (31, false)), (.mov (.t 5))⟩,
     ⟨(some 33), (some (31, false)), (.nilP false (.t 32))⟩,
     ⟨(some 34), none, (.pick (.t 31) (.v (.bool true)) (.t 33))⟩,
     ⟨(some 35), none, (.mov (.t 34))⟩,
     ⟨(some 36), (some (35, false)), (.mov (.t 7))⟩,
     ⟨(some 37), (some (35, false)), (.nilP false (.t 36))⟩,
     ⟨(some 38), none, (.pick (.t 35) (.v (.bool true)) (.t 37))⟩])
  (.cond (.t 38)
    (.seq (.region false [] [
       ⟨(some 39), none, (.call 6 [])⟩,
       ⟨(some 40), none, (.mov (.t 39))⟩,
       ⟨(some 41), (some (40, true)), (.mov (.t 5))⟩,
       ⟨(some 42), (some (40, true)), (.nilP false (.t 41))⟩,
       ⟨(some 43), none, (.pick (.t 40) (.t 42) (.v (.bool false)))⟩,
       ⟨(some 44), none, (.mov (.t 43))⟩,
       ⟨(some 45), (some (44, true)), (.mov (.t 6))⟩,
       ⟨(some 46), (some (44, true)), (.mov (.t 8))⟩,
       ⟨(some 47), (some (44, true)), (.bin .eql 25 (.t 45) (.t 46))⟩,
       ⟨(some 48), none, (.pick (.t 44) (.t 47) (.v (.bool false)))⟩,
       ⟨(some 4), none, (.mov (.t 48))⟩])
    .ret)
    .skip))
  (.seq (.seq (.region false [] [
     ⟨(some 49), none, (.mov (.t 1))⟩,
     ⟨(some 50), none, (.mov (.t 1))⟩,
     ⟨(some 51), none, (.len (.t 50))⟩,
     ⟨(some 52), none, (.mni (.t 51) (.v (.int .i64 20)))⟩,
     ⟨(some 53), none, (.slc 1 (.t 49) none (some (.t 52)) none)⟩,
     ⟨(some 54), none, (.len (.t 53))⟩,
     ⟨(some 55), none, (.mov (.v (.int .i64 0)))⟩])
  (.block 0 (.loop (.seq (.region false [] [
       ⟨(some 56), none, (.bin .lss 3 (.t 55) (.t 54))⟩])
    (.seq (.cond (.t 56)
      .skip
      (.exit 0))
    (.seq (.block 1 (.seq (.region false [] [
        ⟨(some 57), none, (.idx 1 (.t 53) (.t 55))⟩,
        ⟨(some 58), none, (.load 1 false (.t 57))⟩,
        ⟨(some 10), none, (.mov (.t 58))⟩])
     (.seq (.region false [] [
        ⟨(some 59), none, (.mov (.t 10))⟩,
        ⟨(some 60), none, (.call 7 [(.t 59), (.v (.int .i64 (-10000))), (.v (.int .i64 10000))])⟩,
        ⟨(some 10), none, (.mov (.t 60))⟩])
     (.seq (.region false [] [
        ⟨(some 61), none, (.mov (.t 5))⟩,
        ⟨(some 62), none, (.mov (.t 10))⟩,
        ⟨(some 63), none, (.call 8 [(.t 61), (.t 62)])⟩])
     (.seq (.region false [] [
        ⟨(some 64), none, (.mov (.t 10))⟩,
        ⟨(some 11), none, (.mov (.t 64))⟩])
     (.seq (.seq (.region false [] [
        ⟨(some 65), none, (.mov (.t 0))⟩,
        ⟨(some 66), none, (.len (.t 65))⟩,
        ⟨(some 67), none, (.bin .gtr 3 (.t 66) (.v (.int .i64 0)))⟩])
     (.cond (.t 67)
       (.region false [] [
          ⟨(some 68), none, (.mov (.t 10))⟩,
          ⟨(some 69), none, (.mov (.t 0))⟩,
          ⟨(some 70), none, (.idx 3 (.t 69) (.v (.int .i64 0)))⟩,
          ⟨(some 71), none, (.fld 0 (.t 70))⟩,
          ⟨(some 72), none, (.load 1 false (.t 71))⟩,
          ⟨(some 73), none, (.mxi (.t 68) (.t 72))⟩,
          ⟨(some 11), none, (.mov (.t 73))⟩])
       .skip))
     (.seq (.region false [] [
        ⟨(some 75), none, (.mov (.t 7))⟩,
        ⟨(some 76), none, (.mov (.t 11))⟩,
        ⟨(some 77), none, (.call 8 [(.t 75), (.t 76)])⟩,
        ⟨(some 74), none, (.mov (.t 77))⟩,
        ⟨(some 78), none, (.ext 0 (.t 74))⟩,
        ⟨(some 79), none, (.ext 1 (.t 74))⟩,
        ⟨(some 12), none, (.mov (.t 78))⟩,
        ⟨(some 13), none, (.mov (.t 79))⟩])
     (.seq (.region false [] [
        ⟨(some 80), none, (.mov (.t 13))⟩,
        ⟨(some 81), none, (.bin .neq 25 (.t 80) (.v (.int .i64 0)))⟩,
        ⟨(some 82), none, (.mov (.t 81))⟩,
        ⟨(some 83), (some (82, false)), (.mov (.t 12))⟩,
        ⟨(some 84), (some (82, false)), (.len (.t 83))⟩,
        ⟨(some 85), (some (82, false)), (.bin .gtr 3 (.t 84) (.v (.int .i64 0)))⟩,
        ⟨(some 86), none, (.pick (.t 82) (.v (.bool true)) (.t 85))⟩])
     (.cond (.t 86)
       (.seq (.region false [] [
          ⟨(some 4), none, (.mov (.v (.bool false)))⟩])
       .ret)
       .skip)))))))))
    (.region false [] [
       ⟨(some 87), none, (.bin .add 3 (.t 55) (.v (.int .i64 1)))⟩,
       ⟨(some 55), none, (.mov (.t 87))⟩])))))))
  (.seq (.region false [] [
     ⟨(some 88), none, (.mov (.t 5))⟩,
     ⟨(some 89), none, (.call 9 [(.t 88)])⟩,
     ⟨(some 14), none, (.mov (.t 89))⟩])
  (.seq (.seq (.region false [] [
     ⟨(some 90), none, (.mov (.t 0))⟩,
     ⟨(some 91), none, (.len (.t 90))⟩,
     ⟨(some 92), none, (.mov (.v (.int .i64 0)))⟩])
  (.block 2 (.loop (.seq (.region false [] [
       ⟨(some 93), none, (.bin .lss 3 (.t 92) (.t 91))⟩])
    (.seq (.cond (.t 93)
      .skip
      (.exit 2))
    (.seq (.block 3 (.seq (.region false [] [
        ⟨(some 94), none, (.mov (.t 92))⟩,
        ⟨(some 95), none, (.idx 3 (.t 90) (.t 92))⟩,
        ⟨(some 96), none, (.load 3 true (.t 95))⟩,
        ⟨(some 16), none, (.alloc 34 (.agg #[(.int .i64 0), (.int .i64 0), (.slice none 0 0)]))⟩,
        ⟨(some 15), none, (.mov (.t 94))⟩,
        ⟨none, none, (.store 3 (.t 16) (.t 96))⟩])
     (.seq (.region false [] [
        ⟨(some 97), none, (.mov (.t 0))⟩,
        ⟨(some 98), none, (.mov (.t 15))⟩,
        ⟨(some 99), none, (.slc 3 (.t 97) none (some (.t 98)) none)⟩,
        ⟨(some 100), none, (.len (.t 99))⟩,
        ⟨(some 101), none, (.mov (.v (.int .i64 0)))⟩])
     (.block 4 (.loop (.seq (.region false [] [
          ⟨(some 102), none, (.bin .lss 3 (.t 101) (.t 100))⟩])
       (.seq (.cond (.t 102)
         .skip
         (.exit 4))
       (.seq (.block 5 (.seq (.region false [] [
           ⟨(some 103), none, (.idx 3 (.t 99) (.t 101))⟩,
           ⟨(some 104), none, (.load 3 true (.t 103))⟩,
           ⟨(some 18), none, (.alloc 34 (.agg #[(.int .i64 0), (.int .i64 0), (.slice none 0 0)]))⟩,
           ⟨none, none, (.store 3 (.t 18) (.t 104))⟩])
        (.seq (.region false [] [
           ⟨(some 105), none, (.fld 1 (.t 18))⟩,
           ⟨(some 106), none, (.load 1 false (.t 105))⟩,
           ⟨(some 107), none, (.fld 1 (.t 16))⟩,
           ⟨(some 108), none, (.load 1 false (.t 107))⟩,
           ⟨(some 109), none, (.bin .leq 3 (.t 106) (.t 108))⟩,
           ⟨(some 110), none, (.mov (.t 109))⟩,
           ⟨(some 111), (some (110, true)), (.fld 2 (.t 18))⟩,
           ⟨(some 112), (some (110, true)), (.load 1 false (.t 111))⟩,
           ⟨(some 113), (some (110, true)), (.len (.t 112))⟩,
           ⟨(some 114), (some (110, true)), (.bin .gtr 3 (.t 113) (.v (.int .i64 0)))⟩,
           ⟨(some 115), none, (.pick (.t 110) (.t 114) (.v (.bool false)))⟩,
           ⟨(some 116), none, (.mov (.t 115))⟩,
           ⟨(some 117), (some (116, true)), (.fld 2 (.t 16))⟩,
           ⟨(some 118), (some (116, true)), (.load 1 false (.t 117))⟩,
           ⟨(some 119), (some (116, true)), (.len (.t 118))⟩,
           ⟨(some 120), (some (116, true)), (.bin .gtr 3 (.t 119) (.v (.int .i64 0)))⟩,
           ⟨(some 121), none, (.pick (.t 116) (.t 120) (.v (.bool false)))⟩,
           ⟨(some 122), none, (.mov (.t 121))⟩,
           ⟨(some 123), (some (122, true)), (.mov (.t 14))⟩,
           ⟨(some 124), (some (122, true)), (.fld 2 (.t 16))⟩,
           ⟨(some 125), (some (122, true)), (.load 1 false (.t 124))⟩,
           ⟨(some 126), (some (122, true)), (.idx 1 (.t 125) (.v (.int .i64 0)))⟩,
           ⟨(some 127), (some (122, true)), (.load 1 false (.t 126))⟩,
           ⟨(some 128), (some (122, true)), (.call 10 [(.t 123), (.t 127)])⟩,
           ⟨(some 129), none, (.pick (.t 122) (.t 128) (.v (.bool false)))⟩,
           ⟨(some 130), none, (.mov (.t 129))⟩,
           ⟨(some 131), (some (130, true)), (.mov (.t 14))⟩,
           ⟨(some 132), (some (130, true)), (.fld 2 (.t 18))⟩,
           ⟨(some 133), (some (130, true)), (.load 1 false (.t 132))⟩,
           ⟨(some 134), (some (130, true)), (.idx 1 (.t 133) (.v (.int .i64 0)))⟩,
           ⟨(some 135), (some (130, true)), (.load 1 false (.t 134))⟩,
           ⟨(some 136), (some (130, true)), (.call 10 [(.t 131), (.t 135)])⟩,
           ⟨(some 137), (some (130, true)), (.un .not (.t 136))⟩,
           ⟨(some 138), none, (.pick (.t 130) (.t 137) (.v (.bool false)))⟩])
        (.cond (.t 138)
          (.seq (.region false [] [
             ⟨(some 4), none, (.mov (.v (.bool false)))⟩])
          .ret)
          .skip))))
       (.region false [] [
          ⟨(some 139), none, (.bin .add 3 (.t 101) (.v (.int .i64 1)))⟩,
          ⟨(some 101), none, (.mov (.t 139))⟩])))))))))
    (.region false [] [
       ⟨(some 140), none, (.bin .add 3 (.t 92) (.v (.int .i64 1)))⟩,
       ⟨(some 92), none, (.mov (.t 140))⟩])))))))
  (.seq (.region false [] [
     ⟨(some 141), none, (.call 6 [])⟩,
     ⟨(some 142), none, (.mov (.t 141))⟩,
     ⟨(some 143), (some (142, true)), (.mov (.t 7))⟩,
     ⟨(some 144), (some (142, true)), (.call 9 [(.t 143)])⟩,
     ⟨(some 145), (some (142, true)), (.len (.t 144))⟩,
     ⟨(some 146), (some (142, true)), (.bin .eql 3 (.t 145) (.v (.int .i64 0)))⟩,
     ⟨(some 147), none, (.pick (.t 142) (.t 146) (.v (.bool false)))⟩,
     ⟨(some 4), none, (.mov (.t 147))⟩])
  .ret))))))))
theorem k3 : FnIs Try.prog 3 148 [.t 4] a3 := ⟨_, _, Try.func3, rfl, by kernel_rfl, by kernel_rfl, rfl⟩

def shRo (o : Nat) (l : List Stage) (x : Sh) : List Reg :=
  [.box 43 [.hnd (o + 1) 0 l.length l.length false, .hnd (o + 2) 0 l.length l.length true, .hnd (o + 3) 0 l.length l.length true, .hnd (o + 4) 0 x.ord.length x.ord.length false],
   .arr 34 3 (l.map gs0), .arr 3 1 ((List.range l.length).map fun k => [I (x.lo k)]), .arr 4 1 ((List.range l.length).map fun k => [B (x.ac k)]), .arr 3 1 (x.ord.map fun n => [I (n : Nat)])]
def factL : List Stage := [⟨-200, 2, none, true, [⟨#[65]⟩]⟩]
set_option maxRecDepth 20000 in
theorem s6 : Aw.Spec Try.prog 6 [] [] (Gives (· = B true)) := by
  refine Aw.Spec.givesW k6 rfl rfl fun E hn hnp hp => ?_
  unfold a6
  refine AWp.seq (AWp.ofD [] [] hn mixed rfl ?_)
  simp (config := { maxSteps := 2000000 }) only [go_sem, ↓reduceIte, Int.reduceBEq, Int.reduceBNe, Nat.reduceBEq, Nat.reduceAdd, Nat.reduceSub, Nat.reduceLeDiff, Nat.reduceEqDiff, Nat.reduceLT, reduceCtorEq]
  refine AWp.seq (AWp.region (AWpL.upto 1 hn rfl ?_))
  simp (config := { maxSteps := 2000000 }) only [go_sem, ↓reduceIte, Int.reduceBEq, Int.reduceBNe, Nat.reduceBEq, Nat.reduceAdd, Nat.reduceSub, Nat.reduceLeDiff, Nat.reduceEqDiff, Nat.reduceLT, reduceCtorEq]
  refine AWpL.weak (weak_freeze 0 rfl (hp.none hnp (Nat.zero_le _)) (by simp (config := { maxSteps := 2000000 }) only [go_sem, ↓reduceIte, Int.reduceBEq, Int.reduceBNe, Nat.reduceBEq, Nat.reduceAdd, Nat.reduceSub, Nat.reduceLeDiff, Nat.reduceEqDiff, Nat.reduceLT, reduceCtorEq, Nat.le_refl])) (AWpL.upto 2 hn rfl ?_)
  simp (config := { maxSteps := 2000000 }) only [go_sem, ↓reduceIte, Int.reduceBEq, Int.reduceBNe, Nat.reduceBEq, Nat.reduceAdd, Nat.reduceSub, Nat.reduceLeDiff, Nat.reduceEqDiff, Nat.reduceLT, reduceCtorEq]
  refine AWpL.weak (weak_freeze 1 rfl (hp.none hnp (Nat.zero_le _)) (by simp (config := { maxSteps := 2000000 }) only [go_sem, ↓reduceIte, Int.reduceBEq, Int.reduceBNe, Nat.reduceBEq, Nat.reduceAdd, Nat.reduceSub, Nat.reduceLeDiff, Nat.reduceEqDiff, Nat.reduceLT, reduceCtorEq, Nat.le_refl])) (AWpL.ofM hn rfl ?_)
  simp (config := { maxSteps := 2000000 }) only [go_sem, ↓reduceIte, Int.reduceBEq, Int.reduceBNe, Nat.reduceBEq, Nat.reduceAdd, Nat.reduceSub, Nat.reduceLeDiff, Nat.reduceEqDiff, Nat.reduceLT, reduceCtorEq]
  have hck : shedChk factL = 0 := by decide +kernel
  have hok := shed_ok hck
  refine AWpL.callA [] (s5 none true factL (fun s hs x hx => by
    rw [List.mem_singleton.1 hs] at hx
    rw [List.mem_singleton.1 hx]; decide)) rfl rfl (by rw [hn]; rfl) rfl (fun r hr => by cases hr) fun rg v hv => ?_
  obtain ⟨rfl, rfl⟩ := hv.2 hck
  refine ⟨Nat.zero_le _, ?_⟩
  rw [retS_new]
  refine AWpL.ofM hn rfl ?_
  simp (config := { maxSteps := 2000000 }) only [go_sem, ↓reduceIte, Int.reduceBEq, Int.reduceBNe, Nat.reduceBEq, Nat.reduceAdd, Nat.reduceSub, Nat.reduceLeDiff, Nat.reduceEqDiff, Nat.reduceLT, reduceCtorEq, shR]
  refine AWp.weak (weak_to (tm := [(1, .ptr 0 0 0), (2, I 0)]) (rg := shRo 0 factL sh0) [2, 3, 4, 5, 6] hp hnp rfl (by simp (config := { maxSteps := 2000000 }) only [go_sem, ↓reduceIte, Int.reduceBEq, Int.reduceBNe, Nat.reduceBEq, Nat.reduceAdd, Nat.reduceSub, Nat.reduceLeDiff, Nat.reduceEqDiff, Nat.reduceLT, reduceCtorEq, Aw.pos]) (by simp (config := { maxSteps := 2000000 }) only [go_sem, ↓reduceIte, Int.reduceBEq, Int.reduceBNe, Nat.reduceBEq, Nat.reduceAdd, Nat.reduceSub, Nat.reduceLeDiff, Nat.reduceEqDiff, Nat.reduceLT, reduceCtorEq, Aw.renR, Aw.pos, shRo])) ?_
  refine AWp.ofD [] [] hn mixed rfl ?_
  simp (config := { maxSteps := 2000000 }) only [go_sem, ↓reduceIte, Int.reduceBEq, Int.reduceBNe, Nat.reduceBEq, Nat.reduceAdd, Nat.reduceSub, Nat.reduceLeDiff, Nat.reduceEqDiff, Nat.reduceLT, reduceCtorEq, shRo]
  have hi0 := ShInv.zero hok
  refine AWpL.callA [0, 1, 2, 3, 4] (s8 factL sh0 (-300) hok hi0 (by decide)) rfl rfl (by rw [hn]; rfl) rfl (fun r hr => .inr (hp.none hnp (Nat.zero_le _))) fun rg v hv => ?_
  obtain ⟨rfl, rfl⟩ := hv
  refine ⟨Nat.le_refl _, AWpL.ofM hn rfl ?_⟩
  simp (config := { maxSteps := 2000000 }) only [go_sem, ↓reduceIte, Int.reduceBEq, Int.reduceBNe, Nat.reduceBEq, Nat.reduceAdd, Nat.reduceSub, Nat.reduceLeDiff, Nat.reduceEqDiff, Nat.reduceLT, reduceCtorEq, Aw.retS, Aw.retRg, Aw.kpM, Aw.bkM, Aw.pos, Aw.isBox, shR]
  have hi1 := hi0.any hok (-300)
  refine AWpL.callA [0, 1, 2, 3, 4] (s8 factL (shAny factL (-300) sh0) (-300) hok hi1 (by decide)) rfl rfl (by rw [hn]; rfl) rfl (fun r hr => .inr (hp.none hnp (Nat.zero_le _))) fun rg v hv => ?_
  obtain ⟨rfl, rfl⟩ := hv
  refine ⟨Nat.le_refl _, AWpL.ofM hn rfl ?_⟩
  have h1 : stepOut factL (-300) sh0 = [] := by decide +kernel
  have h2 : stepOut factL (-300) (shAny factL (-300) sh0) = [⟨#[65]⟩] := by decide +kernel
  have h3 : stepErr (-300) = 0 := by decide +kernel
  simp (config := { maxSteps := 2000000 }) only [go_sem, ↓reduceIte, Int.reduceBEq, Int.reduceBNe, Nat.reduceBEq, Nat.reduceAdd, Nat.reduceSub, Nat.reduceLeDiff, Nat.reduceEqDiff, Nat.reduceLT, reduceCtorEq, Aw.retS, Aw.retRg, Aw.kpM, Aw.bkM, Aw.pos, Aw.isBox, shR, h1, h2, h3]
  (refine AWpL.gcalle (b := true) rfl (fun _ => (s13 none false [⟨#[65]⟩] none false [⟨#[65]⟩] (by decide) (by decide))) rfl (by rw [hn]; rfl) (fun _ => by simp (config := { maxSteps := 2000000 }) only [go_sem, ↓reduceIte, Int.reduceBEq, Int.reduceBNe, Nat.reduceBEq, Nat.reduceAdd, Nat.reduceSub, Nat.reduceLeDiff, Nat.reduceEqDiff, Nat.reduceLT, reduceCtorEq]) (AWpL.ofM hn rfl ?_); simp (config := { maxSteps := 2000000 }) only [go_sem, ↓reduceIte, Int.reduceBEq, Int.reduceBNe, Nat.reduceBEq, Nat.reduceAdd, Nat.reduceSub, Nat.reduceLeDiff, Nat.reduceEqDiff, Nat.reduceLT, reduceCtorEq])
  have h4 : eqs seq [(⟨#[65]⟩ : ByteArray)] [⟨#[65]⟩] = true := by decide +kernel
  rw [h4]

theorem shR_o (l x) : shR l x = shRo 0 l x := rfl
theorem gs_take {l : List Stage} {i j : Nat} (hj : j < i) (hi : i ≤ l.length) : ((l.map gs).take i).getD j [] = gs (l[j]'(by omega)) := by
  rw [List.getD_eq_getElem?_getD, List.getElem?_take, if_pos hj, List.getElem?_map, List.getElem?_eq_getElem (by omega)]; rfl
theorem nth_get {l : List Stage} {i : Nat} (h : i < l.length) : nth l i = l[i] := by
  unfold nth; rw [List.getD_eq_getElem?_getD, List.getElem?_eq_getElem h]; rfl
set_option maxRecDepth 20000 in
set_option maxHeartbeats 2000000 in
theorem s3 (nl full) (l : List Stage) (nf ff) (fs : List Int) (hs : okSizes l) (hfs : fs.length ≤ 9223372036854775807) (hl63 : l.length ≤ 9223372036854775807) : Aw.Spec Try.prog 3 [] [gss nl full l, .imm nf ff 1 (fs.map fun n => [I n])] (Gives (· = B true)) := by
  refine Aw.Spec.givesD k3 mixed rfl rfl rfl fun E hn hnp hp => ?_
  unfold a3
  have pin : ∀ r, E.pin r = none := fun r => hp.none hnp (Nat.zero_le _)
  simp (config := { maxSteps := 2000000 }) only [go_sem, ↓reduceIte, Int.reduceBEq, Int.reduceBNe, Nat.reduceBEq, Nat.reduceAdd, Nat.reduceSub, Nat.reduceLeDiff, Nat.reduceEqDiff, Nat.reduceLT, reduceCtorEq]
  refine AWpL.callA [] (s5 nl full l hs) rfl rfl (by rw [hn]; rfl) rfl (fun r hr => by cases hr) fun rg v hv => ?_
  refine ⟨Nat.zero_le _, ?_⟩
  by_cases hc : shedChk l = 0
  case neg =>
    obtain ⟨rfl, rfl⟩ := hv.1 hc
    rw [retS_nil]
    refine AWpL.ofM hn rfl ?_
    simp (config := { maxSteps := 2000000 }) only [go_sem, ↓reduceIte, Int.reduceBEq, Int.reduceBNe, Nat.reduceBEq, Nat.reduceAdd, Nat.reduceSub, Nat.reduceLeDiff, Nat.reduceEqDiff, Nat.reduceLT, reduceCtorEq]
    refine AWpL.callA [] (s5 nl full l hs) rfl rfl (by rw [hn]; rfl) rfl (fun r hr => by cases hr) fun rg v hv => ?_
    refine ⟨Nat.zero_le _, ?_⟩
    obtain ⟨rfl, rfl⟩ := hv.1 hc
    rw [retS_nil]
    refine AWpL.ofM hn rfl ?_
    have e1 : (shedChk l != 0) = true := by simp [hc]
    simp (config := { maxSteps := 2000000 }) only [go_sem, ↓reduceIte, Int.reduceBEq, Int.reduceBNe, Nat.reduceBEq, Nat.reduceAdd, Nat.reduceSub, Nat.reduceLeDiff, Nat.reduceEqDiff, Nat.reduceLT, reduceCtorEq, e1, beq_self_eq_true]
    (refine AWpL.calle (s6) rfl (by rw [hn]; rfl) (by simp (config := { maxSteps := 2000000 }) only [go_sem, ↓reduceIte, Int.reduceBEq, Int.reduceBNe, Nat.reduceBEq, Nat.reduceAdd, Nat.reduceSub, Nat.reduceLeDiff, Nat.reduceEqDiff, Nat.reduceLT, reduceCtorEq]) (AWpL.ofM hn rfl ?_); simp (config := { maxSteps := 2000000 }) only [go_sem, ↓reduceIte, Int.reduceBEq, Int.reduceBNe, Nat.reduceBEq, Nat.reduceAdd, Nat.reduceSub, Nat.reduceLeDiff, Nat.reduceEqDiff, Nat.reduceLT, reduceCtorEq])
  have hok := shed_ok hc
  have h8 := hok.len
  obtain ⟨rfl, rfl⟩ := hv.2 hc
  rw [retS_new]
  refine AWpL.ofM hn rfl ?_
  simp (config := { maxSteps := 2000000 }) only [go_sem, ↓reduceIte, Int.reduceBEq, Int.reduceBNe, Nat.reduceBEq, Nat.reduceAdd, Nat.reduceSub, Nat.reduceLeDiff, Nat.reduceEqDiff, Nat.reduceLT, reduceCtorEq, shR]
  refine AWpL.callA [] (s5 nl full l hs) rfl rfl (by rw [hn]; rfl) rfl (fun r hr => by cases hr) fun rg v hv => ?_
  refine ⟨Nat.zero_le _, ?_⟩
  obtain ⟨rfl, rfl⟩ := hv.2 hc
  rw [retS_new]
  refine AWpL.ofM hn rfl ?_
  have hmin : ((fs.map fun n => [I n]).take (min (fs.length : Int) 20).toNat) = (fs.take 20).map fun n => [I n] := by
    rw [List.map_take]
    rcases Nat.le_total fs.length 20 with h | h
    · rw [List.take_of_length_le (by simp; omega), List.take_of_length_le (by simp; omega)]
    · congr 1; omega
  simp (config := { maxSteps := 2000000 }) only [go_sem, ↓reduceIte, Int.reduceBEq, Int.reduceBNe, Nat.reduceBEq, Nat.reduceAdd, Nat.reduceSub, Nat.reduceLeDiff, Nat.reduceEqDiff, Nat.reduceLT, reduceCtorEq, shR, hmin]
  (repeat (refine And.intro (by first | omega | (refine ⟨by omega, by omega⟩) | (refine ⟨by omega, by omega, by omega⟩) | (simp only [List.length_map, List.length_range, List.length_append, List.length_cons, List.length_nil, List.length_replicate, List.length_set]; omega) | (simp; omega) | (intro hgd; cases hgd) | (intro hgd; refine ⟨hgd, ?_⟩; first | omega | (refine ⟨by omega, by omega⟩) | (simp; omega))) ?_))
  refine AWp.loop (fun k s => ∃ (i : Nat) (xa xb : Sh), i + k = (fs.take 20).length ∧ ShInv l xa ∧ Ahead l xa ∧ ShInv l xb ∧ Still l xb ∧
      Weak E s ⟨[(0, gss nl full l), (5, .ptr 0 0 0), (7, .ptr 5 0 0), (53, .imm nf false 1 ((fs.take 20).map fun n => [I n])), (54, I (fs.take 20).length), (55, I i)], shRo 0 l xa ++ shRo 5 l xb⟩) (n := (fs.take 20).length)
    ⟨0, sh0, sh0, by omega, ShInv.zero hok, Ahead.zero hok, ShInv.zero hok, Still.zero l, weak_to [0, 1, 2, 3, 4, 5, 6, 7, 8, 9] hp hnp rfl (by simp (config := { maxSteps := 2000000 }) only [go_sem, ↓reduceIte, Int.reduceBEq, Int.reduceBNe, Nat.reduceBEq, Nat.reduceAdd, Nat.reduceSub, Nat.reduceLeDiff, Nat.reduceEqDiff, Nat.reduceLT, reduceCtorEq, Aw.pos]) (by simp (config := { maxSteps := 2000000 }) only [go_sem, ↓reduceIte, Int.reduceBEq, Int.reduceBNe, Nat.reduceBEq, Nat.reduceAdd, Nat.reduceSub, Nat.reduceLeDiff, Nat.reduceEqDiff, Nat.reduceLT, reduceCtorEq, Aw.renR, Aw.pos, shRo])⟩ ?_
  rintro k s ⟨i, xa, xb, hik, hia, haa, hib, hbb, hw⟩
  have hf20 : (fs.take 20).length ≤ 20 := by simp; omega
  rcases Nat.lt_or_ge i (fs.take 20).length with hlt | hge
  · have e0 : decide ((i : Int) < ((fs.take 20).length : Int)) = true := decide_eq_true (by omega)
    have e1 := getD_map (fun n : Int => [I n]) hlt
    have e2 : IntKind.i64.wrap ((i : Int) + 1) = ((i + 1 : Nat) : Int) := by rw [w64 (by omega) (by omega)]; omega
    generalize hf : (fs.take 20)[i] = f at *
    have hcr := cut_range f (-10000) 10000 (by omega)
    refine AWp.weak hw (AWp.ofD [] [67] hn mixed rfl ?_)
    simp (config := { maxSteps := 2000000 }) only [go_sem, ↓reduceIte, Int.reduceBEq, Int.reduceBNe, Nat.reduceBEq, Nat.reduceAdd, Nat.reduceSub, Nat.reduceLeDiff, Nat.reduceEqDiff, Nat.reduceLT, reduceCtorEq, e0, e1]
    (repeat (refine And.intro (by first | omega | (refine ⟨by omega, by omega⟩) | (refine ⟨by omega, by omega, by omega⟩) | (simp only [List.length_map, List.length_range, List.length_append, List.length_cons, List.length_nil, List.length_replicate, List.length_set]; omega) | (simp; omega) | (intro hgd; cases hgd) | (intro hgd; refine ⟨hgd, ?_⟩; first | omega | (refine ⟨by omega, by omega⟩) | (simp; omega))) ?_))
    (refine AWpL.calle (s7 f (-10000) 10000 (by omega) (by omega) (by omega)) rfl (by rw [hn]; rfl) (by simp (config := { maxSteps := 2000000 }) only [go_sem, ↓reduceIte, Int.reduceBEq, Int.reduceBNe, Nat.reduceBEq, Nat.reduceAdd, Nat.reduceSub, Nat.reduceLeDiff, Nat.reduceEqDiff, Nat.reduceLT, reduceCtorEq]) (AWpL.ofM hn rfl ?_); simp (config := { maxSteps := 2000000 }) only [go_sem, ↓reduceIte, Int.reduceBEq, Int.reduceBNe, Nat.reduceBEq, Nat.reduceAdd, Nat.reduceSub, Nat.reduceLeDiff, Nat.reduceEqDiff, Nat.reduceLT, reduceCtorEq])
    generalize cut f (-10000) 10000 = c at *
    have hokc : okF c = true := by unfold okF; simp; omega
    refine AWpL.callA [0, 1, 2, 3, 4] (s8 l xa c hok hia (by omega)) rfl rfl (by rw [hn]; rfl) rfl (fun r hr => .inr (pin r)) fun rg v hv => ?_
    obtain ⟨rfl, rfl⟩ := hv
    refine ⟨Nat.le_refl _, AWpL.ofM hn rfl ?_⟩
    simp (config := { maxSteps := 2000000 }) only [go_sem, ↓reduceIte, Int.reduceBEq, Int.reduceBNe, Nat.reduceBEq, Nat.reduceAdd, Nat.reduceSub, Nat.reduceLeDiff, Nat.reduceEqDiff, Nat.reduceLT, reduceCtorEq, Aw.retS, Aw.retRg, Aw.kpM, Aw.bkM, Aw.pos, Aw.isBox, shR, shRo]
    let calm : Int := if 0 < l.length then max c (nth l 0).below else c
    have hcalm : -10000 ≤ calm ∧ calm ≤ 10000 := by
      show -10000 ≤ (if 0 < l.length then max c (nth l 0).below else c) ∧ (if 0 < l.length then max c (nth l 0).below else c) ≤ 10000
      split
      · rename_i h0
        have := hok.range _ (nth_mem h0); omega
      · omega
    have hcb : ∀ k, k < l.length → (nth l k).below ≤ calm := fun k hk => by
      have := below_first hok hk
      show _ ≤ (if 0 < l.length then max c (nth l 0).below else c)
      rw [if_pos (by omega)]; omega
    refine AWp.cut ⟨[(0, gss nl full l), (5, .ptr 0 0 0), (7, .ptr 5 0 0), (11, I calm), (53, .imm nf false 1 ((fs.take 20).map fun n => [I n])), (54, I (fs.take 20).length), (55, I i)], shRo 0 l (shAny l c xa) ++ shRo 5 l xb⟩ ?_ ?_
    · refine AWp.ofD [] [] hn mixed rfl ?_
      rcases Nat.eq_zero_or_pos l.length with h0 | h0
      · have e9 : decide ((l.length : Int) > 0) = false := decide_eq_false (by omega)
        have ec : c = calm := (if_neg (by omega)).symm
        simp (config := { maxSteps := 2000000 }) only [go_sem, ↓reduceIte, Int.reduceBEq, Int.reduceBNe, Nat.reduceBEq, Nat.reduceAdd, Nat.reduceSub, Nat.reduceLeDiff, Nat.reduceEqDiff, Nat.reduceLT, reduceCtorEq, e9]
        exact weak_to [0, 1, 2, 3, 4, 5, 6, 7, 8, 9] hp hnp rfl (by rw [← ec]; simp (config := { maxSteps := 2000000 }) only [go_sem, ↓reduceIte, Int.reduceBEq, Int.reduceBNe, Nat.reduceBEq, Nat.reduceAdd, Nat.reduceSub, Nat.reduceLeDiff, Nat.reduceEqDiff, Nat.reduceLT, reduceCtorEq, Aw.pos]) (by simp (config := { maxSteps := 2000000 }) only [go_sem, ↓reduceIte, Int.reduceBEq, Int.reduceBNe, Nat.reduceBEq, Nat.reduceAdd, Nat.reduceSub, Nat.reduceLeDiff, Nat.reduceEqDiff, Nat.reduceLT, reduceCtorEq, Aw.renR, Aw.pos, shRo])
      · have e9 : decide ((l.length : Int) > 0) = true := decide_eq_true (by omega)
        have e8 := getD_map gs h0
        have ec : max c l[0].below = calm := by
          rw [← nth_get h0]; exact (if_pos h0).symm
        simp (config := { maxSteps := 2000000 }) only [go_sem, ↓reduceIte, Int.reduceBEq, Int.reduceBNe, Nat.reduceBEq, Nat.reduceAdd, Nat.reduceSub, Nat.reduceLeDiff, Nat.reduceEqDiff, Nat.reduceLT, reduceCtorEq, e9, e8]
        (repeat (refine And.intro (by first | omega | (refine ⟨by omega, by omega⟩) | (refine ⟨by omega, by omega, by omega⟩) | (simp only [List.length_map, List.length_range, List.length_append, List.length_cons, List.length_nil, List.length_replicate, List.length_set]; omega) | (simp; omega) | (intro hgd; cases hgd) | (intro hgd; refine ⟨hgd, ?_⟩; first | omega | (refine ⟨by omega, by omega⟩) | (simp; omega))) ?_))
        exact weak_to [0, 1, 2, 3, 4, 5, 6, 7, 8, 9] hp hnp rfl (by simp (config := { maxSteps := 2000000 }) only [go_sem, ↓reduceIte, Int.reduceBEq, Int.reduceBNe, Nat.reduceBEq, Nat.reduceAdd, Nat.reduceSub, Nat.reduceLeDiff, Nat.reduceEqDiff, Nat.reduceLT, reduceCtorEq, Aw.pos, ec]) (by simp (config := { maxSteps := 2000000 }) only [go_sem, ↓reduceIte, Int.reduceBEq, Int.reduceBNe, Nat.reduceBEq, Nat.reduceAdd, Nat.reduceSub, Nat.reduceLeDiff, Nat.reduceEqDiff, Nat.reduceLT, reduceCtorEq, Aw.renR, Aw.pos, shRo])
    have hokm : okF calm = true := by unfold okF; simp; omega
    simp (config := { maxSteps := 2000000 }) only [go_sem, ↓reduceIte, Int.reduceBEq, Int.reduceBNe, Nat.reduceBEq, Nat.reduceAdd, Nat.reduceSub, Nat.reduceLeDiff, Nat.reduceEqDiff, Nat.reduceLT, reduceCtorEq, shRo]
    refine AWpL.callA [5, 6, 7, 8, 9] (s8 l xb calm hok hib (by omega)) rfl rfl (by rw [hn]; rfl) rfl (fun r hr => .inr (pin r)) fun rg v hv => ?_
    obtain ⟨rfl, rfl⟩ := hv
    refine ⟨Nat.le_refl _, AWpL.ofM hn rfl ?_⟩
    obtain ⟨hst, hact⟩ := hbb.step hok hcb
    have h1 : stepOut l calm xb = [] := by unfold stepOut; rw [if_pos hokm]; unfold outN; rw [hact]; rfl
    have h2 : stepErr calm = 0 := by unfold stepErr; rw [if_pos hokm]
    simp (config := { maxSteps := 2000000 }) only [go_sem, ↓reduceIte, Int.reduceBEq, Int.reduceBNe, Nat.reduceBEq, Nat.reduceAdd, Nat.reduceSub, Nat.reduceLeDiff, Nat.reduceEqDiff, Nat.reduceLT, reduceCtorEq, Aw.retS, Aw.retRg, Aw.kpM, Aw.bkM, Aw.pos, Aw.isBox, shR, h1, h2, gt_iff_lt, Int.lt_irrefl, decide_false]
    refine ⟨k - 1, by omega, i + 1, shAny l c xa, shAny l calm xb, by omega, hia.any hok c, ?_, hib.any hok calm, ?_, weak_to [0, 1, 2, 3, 4, 5, 6, 7, 8, 9] hp hnp rfl (by simp (config := { maxSteps := 2000000 }) only [go_sem, ↓reduceIte, Int.reduceBEq, Int.reduceBNe, Nat.reduceBEq, Nat.reduceAdd, Nat.reduceSub, Nat.reduceLeDiff, Nat.reduceEqDiff, Nat.reduceLT, reduceCtorEq, Aw.pos, e2]) (by simp (config := { maxSteps := 2000000 }) only [go_sem, ↓reduceIte, Int.reduceBEq, Int.reduceBNe, Nat.reduceBEq, Nat.reduceAdd, Nat.reduceSub, Nat.reduceLeDiff, Nat.reduceEqDiff, Nat.reduceLT, reduceCtorEq, Aw.renR, Aw.pos, shRo])⟩
    · unfold shAny; rw [if_pos hokc]; exact haa.step hok hia c
    · unfold shAny; rw [if_pos hokm]; exact hst
  · have e0 : decide ((i : Int) < ((fs.take 20).length : Int)) = false := decide_eq_false (by omega)
    refine AWp.weak hw (AWp.ofD [] [] hn mixed rfl ?_)
    simp (config := { maxSteps := 2000000 }) only [go_sem, ↓reduceIte, Int.reduceBEq, Int.reduceBNe, Nat.reduceBEq, Nat.reduceAdd, Nat.reduceSub, Nat.reduceLeDiff, Nat.reduceEqDiff, Nat.reduceLT, reduceCtorEq, e0, shRo]
    refine AWpL.callA [0, 1, 2, 3, 4] (s9 l xa hok hia) rfl rfl (by rw [hn]; rfl) rfl (fun r hr => .inr (pin r)) fun rg v hv => ?_
    obtain ⟨rfl, rfl⟩ := hv
    refine ⟨Nat.le_refl _, AWpL.ofM hn rfl ?_⟩
    simp (config := { maxSteps := 2000000 }) only [go_sem, ↓reduceIte, Int.reduceBEq, Int.reduceBNe, Nat.reduceBEq, Nat.reduceAdd, Nat.reduceSub, Nat.reduceLeDiff, Nat.reduceEqDiff, Nat.reduceLT, reduceCtorEq, Aw.retS, Aw.retRg, Aw.kpM, Aw.bkM, Aw.pos, Aw.isBox, shR]
    have hoff := loads_bound hok xa.ord hia.inr 8 (len_ord hok hia)
    have haL : ∀ t s (hts : t < s) (hsl : s < l.length), (nth l t).wait ≤ (nth l s).wait → ∀ a b, a ∈ (nth l s).loads → b ∈ (nth l t).loads → a ∈ loadsOf l xa.ord → b ∈ loadsOf l xa.ord := fun t s hts hsl hw a b ha hb ho => ahead_loads hok hia haa hts hsl hw ha hb ho
    generalize loadsOf l xa.ord = off at *
    refine AWp.loop (fun k s => ∃ (i : Nat), i + k = l.length ∧
        Weak E s ⟨[(0, gss nl full l), (7, .ptr 5 0 0), (14, ss none false off), (90, gss nl full l), (91, I l.length), (92, I i)], shRo 0 l xa ++ shRo 5 l xb⟩) (n := l.length)
      ⟨0, by omega, weak_to [0, 1, 2, 3, 4, 5, 6, 7, 8, 9] hp hnp rfl (by simp (config := { maxSteps := 2000000 }) only [go_sem, ↓reduceIte, Int.reduceBEq, Int.reduceBNe, Nat.reduceBEq, Nat.reduceAdd, Nat.reduceSub, Nat.reduceLeDiff, Nat.reduceEqDiff, Nat.reduceLT, reduceCtorEq, Aw.pos]) (by simp (config := { maxSteps := 2000000 }) only [go_sem, ↓reduceIte, Int.reduceBEq, Int.reduceBNe, Nat.reduceBEq, Nat.reduceAdd, Nat.reduceSub, Nat.reduceLeDiff, Nat.reduceEqDiff, Nat.reduceLT, reduceCtorEq, Aw.renR, Aw.pos, shRo])⟩ ?_
    rintro k s ⟨i, hik, hw⟩
    refine AWp.weak hw (AWp.ofD [] [] hn mixed rfl ?_)
    rcases Nat.lt_or_ge i l.length with hlt | hge
    · have e0 : decide ((i : Int) < (l.length : Int)) = true := decide_eq_true (by omega)
      have e1 := getD_map gs hlt
      have e2 : IntKind.i64.wrap ((i : Int) + 1) = ((i + 1 : Nat) : Int) := by rw [w64 (by omega) (by omega)]; omega
      have e3 : ((l.map gs).take i).length = i := by simp; omega
      have hni := nth_get hlt
      generalize l[i] = si at e1 hni
      simp (config := { maxSteps := 2000000 }) only [go_sem, ↓reduceIte, Int.reduceBEq, Int.reduceBNe, Nat.reduceBEq, Nat.reduceAdd, Nat.reduceSub, Nat.reduceLeDiff, Nat.reduceEqDiff, Nat.reduceLT, reduceCtorEq, e0, e1, e3, shRo]
      (repeat (refine And.intro (by first | omega | (refine ⟨by omega, by omega⟩) | (refine ⟨by omega, by omega, by omega⟩) | (simp only [List.length_map, List.length_range, List.length_append, List.length_cons, List.length_nil, List.length_replicate, List.length_set]; omega) | (simp; omega) | (intro hgd; cases hgd) | (intro hgd; refine ⟨hgd, ?_⟩; first | omega | (refine ⟨by omega, by omega⟩) | (simp; omega))) ?_))
      refine AWp.loop (fun k s => ∃ (j : Nat), j + k = i ∧
          Weak E s ⟨[(0, gss nl full l), (7, .ptr 5 0 0), (14, ss none false off), (16, .ptr 10 0 0), (90, gss nl full l), (91, I l.length), (92, I i), (99, .imm nl false 3 ((l.map gs).take i)), (100, I i), (101, I j)], shRo 0 l xa ++ (shRo 5 l xb ++ [.box 34 (gs si)])⟩) (n := i)
        ⟨0, by omega, weak_to [0, 1, 2, 3, 4, 5, 6, 7, 8, 9, 10] hp hnp rfl (by simp (config := { maxSteps := 2000000 }) only [go_sem, ↓reduceIte, Int.reduceBEq, Int.reduceBNe, Nat.reduceBEq, Nat.reduceAdd, Nat.reduceSub, Nat.reduceLeDiff, Nat.reduceEqDiff, Nat.reduceLT, reduceCtorEq, Aw.pos]) (by simp (config := { maxSteps := 2000000 }) only [go_sem, ↓reduceIte, Int.reduceBEq, Int.reduceBNe, Nat.reduceBEq, Nat.reduceAdd, Nat.reduceSub, Nat.reduceLeDiff, Nat.reduceEqDiff, Nat.reduceLT, reduceCtorEq, Aw.renR, Aw.pos, shRo])⟩ ?_
      rintro k2 s2 ⟨j, hj, hw2⟩
      refine AWp.weak hw2 (AWp.ofD [] [] hn mixed rfl ?_)
      rcases Nat.lt_or_ge j i with hjl | hjg
      · have f0 : decide ((j : Int) < (i : Int)) = true := decide_eq_true (by omega)
        have f1 := gs_take hjl (by omega : i ≤ l.length)
        have f2 : IntKind.i64.wrap ((j : Int) + 1) = ((j + 1 : Nat) : Int) := by rw [w64 (by omega) (by omega)]; omega
        have hL := haL j i hjl hlt
        rw [hni, nth_get (by omega : j < l.length)] at hL
        have hd : ∃ k', k' < k2 ∧ (∃ j', j' + k' = i ∧ j' = j + 1) := ⟨k2 - 1, by omega, j + 1, by omega, rfl⟩
        have hjlt : j < l.length := by omega
        generalize l[j] = sj at f1 hL
        cases hA : (decide (sj.wait ≤ si.wait) && decide ((sj.loads.length : Int) > 0) && decide ((si.loads.length : Int) > 0)) with
        | false =>
          simp (config := { maxSteps := 2000000 }) only [go_sem, ↓reduceIte, Int.reduceBEq, Int.reduceBNe, Nat.reduceBEq, Nat.reduceAdd, Nat.reduceSub, Nat.reduceLeDiff, Nat.reduceEqDiff, Nat.reduceLT, reduceCtorEq, f0, f1, e3, shRo, hA]
          (repeat (refine And.intro (by first | omega | (refine ⟨by omega, by omega⟩) | (refine ⟨by omega, by omega, by omega⟩) | (simp only [List.length_map, List.length_range, List.length_append, List.length_cons, List.length_nil, List.length_replicate, List.length_set]; omega) | (simp; omega) | (intro hgd; cases hgd) | (intro hgd; refine ⟨hgd, ?_⟩; first | omega | (refine ⟨by omega, by omega⟩) | (simp; omega))) ?_))
          refine AWpL.gcalle (b := false) (y := B false) rfl (fun h => by cases h) rfl (by rw [hn]; rfl) (fun h => by cases h) (AWpL.ofM hn rfl ?_)
          simp (config := { maxSteps := 2000000 }) only [go_sem, ↓reduceIte, Int.reduceBEq, Int.reduceBNe, Nat.reduceBEq, Nat.reduceAdd, Nat.reduceSub, Nat.reduceLeDiff, Nat.reduceEqDiff, Nat.reduceLT, reduceCtorEq]
          refine AWpL.gcalle (b := false) (y := B false) rfl (fun h => by cases h) rfl (by rw [hn]; rfl) (fun h => by cases h) (AWpL.ofM hn rfl ?_)
          simp (config := { maxSteps := 2000000 }) only [go_sem, ↓reduceIte, Int.reduceBEq, Int.reduceBNe, Nat.reduceBEq, Nat.reduceAdd, Nat.reduceSub, Nat.reduceLeDiff, Nat.reduceEqDiff, Nat.reduceLT, reduceCtorEq, f2]
          exact ⟨k2 - 1, by omega, j + 1, by omega, weak_to [0, 1, 2, 3, 4, 5, 6, 7, 8, 9, 10] hp hnp rfl (by simp (config := { maxSteps := 2000000 }) only [go_sem, ↓reduceIte, Int.reduceBEq, Int.reduceBNe, Nat.reduceBEq, Nat.reduceAdd, Nat.reduceSub, Nat.reduceLeDiff, Nat.reduceEqDiff, Nat.reduceLT, reduceCtorEq, Aw.pos]) (by simp (config := { maxSteps := 2000000 }) only [go_sem, ↓reduceIte, Int.reduceBEq, Int.reduceBNe, Nat.reduceBEq, Nat.reduceAdd, Nat.reduceSub, Nat.reduceLeDiff, Nat.reduceEqDiff, Nat.reduceLT, reduceCtorEq, Aw.renR, Aw.pos, shRo])⟩
        | true =>
          have hA2 := hA
          simp only [Bool.and_eq_true, decide_eq_true_eq] at hA2
          have g1 := getD_map sc (by omega : 0 < si.loads.length)
          have g2 := getD_map sc (by omega : 0 < sj.loads.length)
          have hL2 := hL hA2.1.1 _ _ (List.getElem_mem (by omega : 0 < si.loads.length)) (List.getElem_mem (by omega : 0 < sj.loads.length))
          generalize si.loads[0] = a at g1 hL2
          generalize sj.loads[0] = b at g2 hL2
          simp (config := { maxSteps := 2000000 }) only [go_sem, ↓reduceIte, Int.reduceBEq, Int.reduceBNe, Nat.reduceBEq, Nat.reduceAdd, Nat.reduceSub, Nat.reduceLeDiff, Nat.reduceEqDiff, Nat.reduceLT, reduceCtorEq, f0, f1, e3, shRo, hA, g1, g2]
          (repeat (refine And.intro (by first | omega | (refine ⟨by omega, by omega⟩) | (refine ⟨by omega, by omega, by omega⟩) | (simp only [List.length_map, List.length_range, List.length_append, List.length_cons, List.length_nil, List.length_replicate, List.length_set]; omega) | (simp; omega) | (intro hgd; cases hgd) | (intro hgd; refine ⟨hgd, ?_⟩; first | omega | (refine ⟨by omega, by omega⟩) | (simp; omega))) ?_))
          (refine AWpL.gcalle (b := true) rfl (fun _ => (s10 none false off a (by omega))) rfl (by rw [hn]; rfl) (fun _ => by simp (config := { maxSteps := 2000000 }) only [go_sem, ↓reduceIte, Int.reduceBEq, Int.reduceBNe, Nat.reduceBEq, Nat.reduceAdd, Nat.reduceSub, Nat.reduceLeDiff, Nat.reduceEqDiff, Nat.reduceLT, reduceCtorEq]) (AWpL.ofM hn rfl ?_); simp (config := { maxSteps := 2000000 }) only [go_sem, ↓reduceIte, Int.reduceBEq, Int.reduceBNe, Nat.reduceBEq, Nat.reduceAdd, Nat.reduceSub, Nat.reduceLeDiff, Nat.reduceEqDiff, Nat.reduceLT, reduceCtorEq])
          cases hC1 : off.any (seq a) with
          | false =>
            simp (config := { maxSteps := 2000000 }) only [go_sem, ↓reduceIte, Int.reduceBEq, Int.reduceBNe, Nat.reduceBEq, Nat.reduceAdd, Nat.reduceSub, Nat.reduceLeDiff, Nat.reduceEqDiff, Nat.reduceLT, reduceCtorEq, hC1]
            (repeat (refine And.intro (by first | omega | (refine ⟨by omega, by omega⟩) | (refine ⟨by omega, by omega, by omega⟩) | (simp only [List.length_map, List.length_range, List.length_append, List.length_cons, List.length_nil, List.length_replicate, List.length_set]; omega) | (simp; omega) | (intro hgd; cases hgd) | (intro hgd; refine ⟨hgd, ?_⟩; first | omega | (refine ⟨by omega, by omega⟩) | (simp; omega))) ?_))
            refine AWpL.gcalle (b := false) (y := B false) rfl (fun h => by cases h) rfl (by rw [hn]; rfl) (fun h => by cases h) (AWpL.ofM hn rfl ?_)
            simp (config := { maxSteps := 2000000 }) only [go_sem, ↓reduceIte, Int.reduceBEq, Int.reduceBNe, Nat.reduceBEq, Nat.reduceAdd, Nat.reduceSub, Nat.reduceLeDiff, Nat.reduceEqDiff, Nat.reduceLT, reduceCtorEq, f2]
            exact ⟨k2 - 1, by omega, j + 1, by omega, weak_to [0, 1, 2, 3, 4, 5, 6, 7, 8, 9, 10] hp hnp rfl (by simp (config := { maxSteps := 2000000 }) only [go_sem, ↓reduceIte, Int.reduceBEq, Int.reduceBNe, Nat.reduceBEq, Nat.reduceAdd, Nat.reduceSub, Nat.reduceLeDiff, Nat.reduceEqDiff, Nat.reduceLT, reduceCtorEq, Aw.pos]) (by simp (config := { maxSteps := 2000000 }) only [go_sem, ↓reduceIte, Int.reduceBEq, Int.reduceBNe, Nat.reduceBEq, Nat.reduceAdd, Nat.reduceSub, Nat.reduceLeDiff, Nat.reduceEqDiff, Nat.reduceLT, reduceCtorEq, Aw.renR, Aw.pos, shRo])⟩
          | true =>
            have hC2 : off.any (seq b) = true := (any_seq b off).2 (hL2 ((any_seq a off).1 hC1))
            simp (config := { maxSteps := 2000000 }) only [go_sem, ↓reduceIte, Int.reduceBEq, Int.reduceBNe, Nat.reduceBEq, Nat.reduceAdd, Nat.reduceSub, Nat.reduceLeDiff, Nat.reduceEqDiff, Nat.reduceLT, reduceCtorEq, hC1, g2]
            (repeat (refine And.intro (by first | omega | (refine ⟨by omega, by omega⟩) | (refine ⟨by omega, by omega, by omega⟩) | (simp only [List.length_map, List.length_range, List.length_append, List.length_cons, List.length_nil, List.length_replicate, List.length_set]; omega) | (simp; omega) | (intro hgd; cases hgd) | (intro hgd; refine ⟨hgd, ?_⟩; first | omega | (refine ⟨by omega, by omega⟩) | (simp; omega))) ?_))
            (refine AWpL.gcalle (b := true) rfl (fun _ => (s10 none false off b (by omega))) rfl (by rw [hn]; rfl) (fun _ => by simp (config := { maxSteps := 2000000 }) only [go_sem, ↓reduceIte, Int.reduceBEq, Int.reduceBNe, Nat.reduceBEq, Nat.reduceAdd, Nat.reduceSub, Nat.reduceLeDiff, Nat.reduceEqDiff, Nat.reduceLT, reduceCtorEq]) (AWpL.ofM hn rfl ?_); simp (config := { maxSteps := 2000000 }) only [go_sem, ↓reduceIte, Int.reduceBEq, Int.reduceBNe, Nat.reduceBEq, Nat.reduceAdd, Nat.reduceSub, Nat.reduceLeDiff, Nat.reduceEqDiff, Nat.reduceLT, reduceCtorEq])
            simp (config := { maxSteps := 2000000 }) only [go_sem, ↓reduceIte, Int.reduceBEq, Int.reduceBNe, Nat.reduceBEq, Nat.reduceAdd, Nat.reduceSub, Nat.reduceLeDiff, Nat.reduceEqDiff, Nat.reduceLT, reduceCtorEq, hC2, f2]
            exact ⟨k2 - 1, by omega, j + 1, by omega, weak_to [0, 1, 2, 3, 4, 5, 6, 7, 8, 9, 10] hp hnp rfl (by simp (config := { maxSteps := 2000000 }) only [go_sem, ↓reduceIte, Int.reduceBEq, Int.reduceBNe, Nat.reduceBEq, Nat.reduceAdd, Nat.reduceSub, Nat.reduceLeDiff, Nat.reduceEqDiff, Nat.reduceLT, reduceCtorEq, Aw.pos]) (by simp (config := { maxSteps := 2000000 }) only [go_sem, ↓reduceIte, Int.reduceBEq, Int.reduceBNe, Nat.reduceBEq, Nat.reduceAdd, Nat.reduceSub, Nat.reduceLeDiff, Nat.reduceEqDiff, Nat.reduceLT, reduceCtorEq, Aw.renR, Aw.pos, shRo])⟩
      · have f0 : decide ((j : Int) < (i : Int)) = false := decide_eq_false (by omega)
        simp (config := { maxSteps := 2000000 }) only [go_sem, ↓reduceIte, Int.reduceBEq, Int.reduceBNe, Nat.reduceBEq, Nat.reduceAdd, Nat.reduceSub, Nat.reduceLeDiff, Nat.reduceEqDiff, Nat.reduceLT, reduceCtorEq, f0, e2, shRo]
        exact ⟨k - 1, by omega, i + 1, by omega, weak_to [0, 1, 2, 3, 4, 5, 6, 7, 8, 9] hp hnp rfl (by simp (config := { maxSteps := 2000000 }) only [go_sem, ↓reduceIte, Int.reduceBEq, Int.reduceBNe, Nat.reduceBEq, Nat.reduceAdd, Nat.reduceSub, Nat.reduceLeDiff, Nat.reduceEqDiff, Nat.reduceLT, reduceCtorEq, Aw.pos]) (by simp (config := { maxSteps := 2000000 }) only [go_sem, ↓reduceIte, Int.reduceBEq, Int.reduceBNe, Nat.reduceBEq, Nat.reduceAdd, Nat.reduceSub, Nat.reduceLeDiff, Nat.reduceEqDiff, Nat.reduceLT, reduceCtorEq, Aw.renR, Aw.pos, shRo])⟩
    · have e0 : decide ((i : Int) < (l.length : Int)) = false := decide_eq_false (by omega)
      simp (config := { maxSteps := 2000000 }) only [go_sem, ↓reduceIte, Int.reduceBEq, Int.reduceBNe, Nat.reduceBEq, Nat.reduceAdd, Nat.reduceSub, Nat.reduceLeDiff, Nat.reduceEqDiff, Nat.reduceLT, reduceCtorEq, e0, shRo]
      (refine AWpL.calle (s6) rfl (by rw [hn]; rfl) (by simp (config := { maxSteps := 2000000 }) only [go_sem, ↓reduceIte, Int.reduceBEq, Int.reduceBNe, Nat.reduceBEq, Nat.reduceAdd, Nat.reduceSub, Nat.reduceLeDiff, Nat.reduceEqDiff, Nat.reduceLT, reduceCtorEq]) (AWpL.ofM hn rfl ?_); simp (config := { maxSteps := 2000000 }) only [go_sem, ↓reduceIte, Int.reduceBEq, Int.reduceBNe, Nat.reduceBEq, Nat.reduceAdd, Nat.reduceSub, Nat.reduceLeDiff, Nat.reduceEqDiff, Nat.reduceLT, reduceCtorEq])
      refine AWpL.guardT rfl (AWpL.weak (weak_opt 143 rfl) ?_)
      refine AWpL.callA [5, 6, 7, 8, 9] (s9 l xb hok hib) rfl rfl (by rw [hn]; rfl) rfl (fun r hr => .inr (pin r)) fun rg v hv => ?_
      obtain ⟨rfl, rfl⟩ := hv
      refine ⟨Nat.le_refl _, AWpL.ofM hn rfl ?_⟩
      have h5 : loadsOf l xb.ord = [] := by rw [hbb.2]; rfl
      simp (config := { maxSteps := 2000000 }) only [go_sem, ↓reduceIte, Int.reduceBEq, Int.reduceBNe, Nat.reduceBEq, Nat.reduceAdd, Nat.reduceSub, Nat.reduceLeDiff, Nat.reduceEqDiff, Nat.reduceLT, reduceCtorEq, Aw.retS, Aw.retRg, Aw.kpM, Aw.bkM, Aw.pos, Aw.isBox, shR, h5, List.map_nil]
end Go.Proofs.Ytdcnllgnblgfaaa
