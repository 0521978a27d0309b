/- What the methods of a Shed compute. -/
import Derived.Test.YtdcnllgnblgfaaaAwZf
import Derived.Test.YtdcnllgnblgfaaaShedB
set_option linter.unusedVariables false
set_option linter.unusedSimpArgs false
namespace Go.Proofs.Ytdcnllgnblgfaaa
open Go.Proofs.Ytdcnllgnblgfaaa.Aw
attribute [local go_sem] Int.natCast_zero Int.natCast_one bne_self_eq_false beq_self_eq_true Bool.not_true Bool.not_false Option.isSome_none Option.isSome_some Aw.bkM_nil Option.getD_some Option.getD_none Nat.sub_zero Int.toNat_zero Aw.frzS Aw.frzT Aw.frzA Aw.frzL Aw.frzR Aw.frzO Aw.frzOL Aw.frzOT Aw.frzOR Aw.killS Aw.mapT Aw.mapR Aw.killM Aw.resAVs Aw.resAV Aw.quietOps Aw.wpP Aw.wpT Aw.wpS Aw.AOp.mild List.getElem?_cons_zero List.getElem?_cons_succ Bool.and_false Bool.and_self Bool.false_and Aw.opOb Aw.gdB Aw.Rnd Aw.subTm List.length_map Int.toNat_natCast and_self Aw.SeqC Aw.stops Aw.Ends Aw.looks Aw.renA Aw.renL Aw.renT Aw.renS Aw.wpO Aw.aop Aw.putTm Aw.St.ev Aw.St.put Aw.St.putO Aw.binAV Aw.intBin Aw.strBin Aw.pickAV Aw.optInt Aw.AV.strip Aw.AV.guard Aw.AV.cells Aw.gdOb Aw.AOp.opds Aw.AOp.still Aw.ptrCells Aw.St.reg Aw.fillAV Aw.fillOb Aw.elsOb Aw.splice Aw.firm Aw.cellish Aw.AV.shut Aw.shutAll Aw.Seq Aw.Blk Aw.retS_nil Aw.mapA Aw.mapL Aw.borA Aw.borOb Aw.allOb Aw.tupOf Aw.params Aw.Opd.of Array.toList Value.cells List.map_cons List.map_nil List.getD_cons_zero List.getD_cons_succ List.getD_nil List.length_cons List.length_nil List.take_succ_cons List.take_zero List.take_nil List.drop_zero List.drop_succ_cons List.drop_nil List.set_cons_zero List.set_cons_succ List.append_nil List.nil_append List.cons_append List.all_cons List.all_nil cond_false cond_true if_true if_false true_and and_true Bool.and_true Bool.true_and Option.map_some Option.map_none false_implies forall_const implies_true forall_eq imp_self Bool.cond_false_right Bool.cond_true_left beq_true beq_false Bool.not_eq_true' Bool.false_eq_true Nat.zero_add Nat.add_zero Aw.eqCells Aw.exactCap Aw.overEls Aw.revealS Aw.srcEls Aw.srcSz
attribute [local go_sem ↓] Aw.look_nil Aw.look_ite Aw.wpL_nil Aw.wpL_op Aw.wpL_gd Aw.wpQ_nil Aw.wpQ_op Aw.wpQ_gd Aw.wpC_draw Aw.wpC_reg Aw.wpC_skip Aw.wpC_ret Aw.wpC_exit Aw.wpC_seq Aw.wpC_block Aw.wpC_loop Aw.wpC_cond Aw.stopAt_nil Aw.stopAt_cons Aw.wpD_skip Aw.wpD_ret Aw.wpD_exit Aw.wpD_region Aw.wpD_draw Aw.wpM_nil Aw.wpM_op Aw.wpM_gd Aw.wpD_seq Aw.wpD_block Aw.wpD_loop Aw.wpD_cond
/- (*gridhall/shed.Shed).Step -/
def a8 : ACode :=
  (.seq (.region false [] [
     ⟨(some 4), none, (.mov (.v (.slice none 0 0)))⟩,
     ⟨(some 5), none, (.mov (.v (.int .i64 0)))⟩])
  (.seq (.seq (.region false [] [
     ⟨(some 9), none, (.mov (.t 1))⟩,
     ⟨(some 10), none, (.bin .lss 3 (.t 9) (.v (.int .i64 (-10000))))⟩,
     ⟨(some 11), none, (.mov (.t 10))⟩,
     ⟨(some 12), (some (11, false)), (.mov (.t 1))⟩,
     ⟨(some 13), (some (11, false)), (.bin .gtr 3 (.t 12) (.v (.int .i64 10000)))⟩,
     ⟨(some 14), none, (.pick (.t 11) (.v (.bool true)) (.t 13))⟩])
  (.cond (.t 14)
    (.seq (.region false [] [
       ⟨(some 4), none, (.mov (.v (.slice none 0 0)))⟩,
       ⟨(some 5), none, (.mov (.v (.int .i64 4)))⟩])
    .ret)
    .skip))
  (.seq (.region false [] [
     ⟨(some 6), none, (.mov (.v (.slice none 0 0)))⟩])
  (.seq (.seq (.region false [] [
     ⟨(some 15), none, (.mov (.t 0))⟩,
     ⟨(some 16), none, (.nilc (.t 15))⟩,
     ⟨(some 17), none, (.fld 0 (.t 16))⟩,
     ⟨(some 18), none, (.load 1 false (.t 17))⟩,
     ⟨(some 19), none, (.len (.t 18))⟩,
     ⟨(some 20), none, (.mov (.v (.int .i64 0)))⟩])
  (.block 0 (.loop (.seq (.region false [] [
       ⟨(some 21), none, (.bin .lss 3 (.t 20) (.t 19))⟩])
    (.seq (.cond (.t 21)
      .skip
      (.exit 0))
    (.seq (.block 1 (.seq (.region false [] [
        ⟨(some 22), none, (.mov (.t 20))⟩,
        ⟨(some 23), none, (.idx 3 (.t 18) (.t 20))⟩,
        ⟨(some 24), none, (.load 3 true (.t 23))⟩,
        ⟨(some 8), none, (.alloc 34 (.agg #[(.int .i64 0), (.int .i64 0), (.slice none 0 0)]))⟩,
        ⟨(some 7), none, (.mov (.t 22))⟩,
        ⟨none, none, (.store 3 (.t 8) (.t 24))⟩])
     (.seq (.block 2 (.seq (.region false [] [
         ⟨(some 26), none, (.mov (.t 1))⟩,
         ⟨(some 27), none, (.fld 0 (.t 8))⟩,
         ⟨(some 28), none, (.load 1 false (.t 27))⟩,
         ⟨(some 29), none, (.bin .geq 3 (.t 26) (.t 28))⟩,
         ⟨(some 25), none, (.mov (.t 29))⟩])
      (.cond (.t 25)
        (.region false [] [
           ⟨(some 30), none, (.mov (.t 0))⟩,
           ⟨(some 31), none, (.nilc (.t 30))⟩,
           ⟨(some 32), none, (.fld 1 (.t 31))⟩,
           ⟨(some 33), none, (.load 1 false (.t 32))⟩,
           ⟨(some 34), none, (.mov (.t 7))⟩,
           ⟨(some 35), none, (.idx 1 (.t 33) (.t 34))⟩,
           ⟨none, none, (.store 1 (.t 35) (.v (.int .i64 0)))⟩])
        (.seq (.region true [[], [0], [1], [2], [], [3, 4], [5], [], [7], [6, 8], [9]] [
           ⟨(some 37), none, (.mov (.t 0))⟩,
           ⟨(some 38), none, (.nilc (.t 37))⟩,
           ⟨(some 39), none, (.fld 1 (.t 38))⟩,
           ⟨(some 40), none, (.load 1 false (.t 39))⟩,
           ⟨(some 41), none, (.mov (.t 7))⟩,
           ⟨(some 42), none, (.idx 1 (.t 40) (.t 41))⟩,
           ⟨(some 43), none, (.load 1 false (.t 42))⟩,
           ⟨(some 44), none, (.fld 1 (.t 8))⟩,
           ⟨(some 45), none, (.load 1 false (.t 44))⟩,
           ⟨(some 46), none, (.bin .lss 3 (.t 43) (.t 45))⟩,
           ⟨(some 36), none, (.mov (.t 46))⟩])
        (.cond (.t 36)
          (.region false [] [
             ⟨(some 47), none, (.mov (.t 0))⟩,
             ⟨(some 48), none, (.nilc (.t 47))⟩,
             ⟨(some 49), none, (.fld 1 (.t 48))⟩,
             ⟨(some 50), none, (.load 1 false (.t 49))⟩,
             ⟨(some 51), none, (.mov (.t 7))⟩,
             ⟨(some 52), none, (.idx 1 (.t 50) (.t 51))⟩,
             ⟨(some 53), none, (.load 1 false (.t 52))⟩,
             ⟨(some 54), none, (.bin .add 3 (.t 53) (.v (.int .i64 1)))⟩,
             ⟨(some 55), none, (.idx 1 (.t 50) (.t 51))⟩,
             ⟨none, none, (.store 1 (.t 55) (.t 54))⟩])
          .skip)))))
     (.seq (.region true [[], [0], [1], [2], [], [3, 4], [5], [], [7], [6, 8], [9], [10], [11, 10], [12, 10], [13, 10], [10], [14, 15, 10], [16, 10], [17, 10], [10, 18]] [
        ⟨(some 56), none, (.mov (.t 0))⟩,
        ⟨(some 57), none, (.nilc (.t 56))⟩,
        ⟨(some 58), none, (.fld 1 (.t 57))⟩,
        ⟨(some 59), none, (.load 1 false (.t 58))⟩,
        ⟨(some 60), none, (.mov (.t 7))⟩,
        ⟨(some 61), none, (.idx 1 (.t 59) (.t 60))⟩,
        ⟨(some 62), none, (.load 1 false (.t 61))⟩,
        ⟨(some 63), none, (.fld 1 (.t 8))⟩,
        ⟨(some 64), none, (.load 1 false (.t 63))⟩,
        ⟨(some 65), none, (.bin .eql 3 (.t 62) (.t 64))⟩,
        ⟨(some 66), none, (.mov (.t 65))⟩,
        ⟨(some 67), (some (66, true)), (.mov (.t 0))⟩,
        ⟨(some 68), (some (66, true)), (.nilc (.t 67))⟩,
        ⟨(some 69), (some (66, true)), (.fld 2 (.t 68))⟩,
        ⟨(some 70), (some (66, true)), (.load 1 false (.t 69))⟩,
        ⟨(some 71), (some (66, true)), (.mov (.t 7))⟩,
        ⟨(some 72), (some (66, true)), (.idx 1 (.t 70) (.t 71))⟩,
        ⟨(some 73), (some (66, true)), (.load 1 false (.t 72))⟩,
        ⟨(some 74), (some (66, true)), (.un .not (.t 73))⟩,
        ⟨(some 75), none, (.pick (.t 66) (.t 74) (.v (.bool false)))⟩])
     (.cond (.t 75)
       (.seq (.region false [] [
          ⟨(some 76), none, (.mov (.t 0))⟩,
          ⟨(some 77), none, (.nilc (.t 76))⟩,
          ⟨(some 78), none, (.fld 2 (.t 77))⟩,
          ⟨(some 79), none, (.load 1 false (.t 78))⟩,
          ⟨(some 80), none, (.mov (.t 7))⟩,
          ⟨(some 81), none, (.idx 1 (.t 79) (.t 80))⟩,
          ⟨none, none, (.store 1 (.t 81) (.v (.bool true)))⟩])
       (.seq (.region false [] [
          ⟨(some 82), none, (.mov (.t 0))⟩,
          ⟨(some 83), none, (.mov (.t 0))⟩,
          ⟨(some 84), none, (.nilc (.t 83))⟩,
          ⟨(some 85), none, (.fld 3 (.t 84))⟩,
          ⟨(some 86), none, (.load 1 false (.t 85))⟩,
          ⟨(some 87), none, (.mov (.t 7))⟩,
          ⟨(some 88), none, (.bsl 3 1 1 [(0, (.t 87))])⟩,
          ⟨(some 89), none, (.app 3 1 8 (.int .i64 0) (.t 86) (.t 88))⟩,
          ⟨(some 90), none, (.nilc (.t 82))⟩,
          ⟨(some 91), none, (.fld 3 (.t 90))⟩,
          ⟨none, none, (.store 1 (.t 91) (.t 89))⟩])
       (.region false [] [
          ⟨(some 92), none, (.mov (.t 6))⟩,
          ⟨(some 93), none, (.fld 2 (.t 8))⟩,
          ⟨(some 94), none, (.load 1 false (.t 93))⟩,
          ⟨(some 95), none, (.app 9 1 16 (.string ⟨#[]⟩) (.t 92) (.t 94))⟩,
          ⟨(some 6), none, (.mov (.t 95))⟩])))
       .skip)))))
    (.region false [] [
       ⟨(some 96), none, (.bin .add 3 (.t 20) (.v (.int .i64 1)))⟩,
       ⟨(some 20), none, (.mov (.t 96))⟩])))))))
  (.seq (.region false [] [
     ⟨(some 97), none, (.mov (.t 6))⟩,
     ⟨(some 4), none, (.mov (.t 97))⟩,
     ⟨(some 5), none, (.mov (.v (.int .i64 0)))⟩])
  .ret)))))
theorem k8 : FnIs Try.prog 8 98 [.t 4, .t 5] a8 := ⟨_, _, Try.func8, rfl, by kernel_rfl, by kernel_rfl, rfl⟩
/- (*gridhall/shed.Shed).Off -/
def a9 : ACode :=
  (.seq (.region false [] [
     ⟨(some 2), none, (.mov (.v (.slice none 0 0)))⟩])
  (.seq (.region false [] [
     ⟨(some 3), none, (.mov (.v (.slice none 0 0)))⟩])
  (.seq (.seq (.region false [] [
     ⟨(some 6), none, (.mov (.t 0))⟩,
     ⟨(some 7), none, (.nilc (.t 6))⟩,
     ⟨(some 8), none, (.fld 3 (.t 7))⟩,
     ⟨(some 9), none, (.load 1 false (.t 8))⟩,
     ⟨(some 10), none, (.len (.t 9))⟩,
     ⟨(some 11), none, (.mov (.v (.int .i64 0)))⟩])
  (.block 0 (.loop (.seq (.region false [] [
       ⟨(some 12), none, (.bin .lss 3 (.t 11) (.t 10))⟩])
    (.seq (.cond (.t 12)
      .skip
      (.exit 0))
    (.seq (.block 1 (.seq (.region false [] [
        ⟨(some 13), none, (.idx 1 (.t 9) (.t 11))⟩,
        ⟨(some 14), none, (.load 1 false (.t 13))⟩,
        ⟨(some 5), none, (.mov (.t 14))⟩])
     (.region false [] [
        ⟨(some 15), none, (.mov (.t 3))⟩,
        ⟨(some 16), none, (.mov (.t 0))⟩,
        ⟨(some 17), none, (.nilc (.t 16))⟩,
        ⟨(some 18), none, (.fld 0 (.t 17))⟩,
        ⟨(some 19), none, (.load 1 false (.t 18))⟩,
        ⟨(some 20), none, (.mov (.t 5))⟩,
        ⟨(some 21), none, (.idx 3 (.t 19) (.t 20))⟩,
        ⟨(some 22), none, (.fld 2 (.t 21))⟩,
        ⟨(some 23), none, (.load 1 false (.t 22))⟩,
        ⟨(some 24), none, (.app 9 1 16 (.string ⟨#[]⟩) (.t 15) (.t 23))⟩,
        ⟨(some 3), none, (.mov (.t 24))⟩])))
    (.region false [] [
       ⟨(some 25), none, (.bin .add 3 (.t 11) (.v (.int .i64 1)))⟩,
       ⟨(some 11), none, (.mov (.t 25))⟩])))))))
  (.seq (.region false [] [
     ⟨(some 26), none, (.mov (.t 3))⟩,
     ⟨(some 2), none, (.mov (.t 26))⟩])
  .ret))))
theorem k9 : FnIs Try.prog 9 27 [.t 2] a9 := ⟨_, _, Try.func9, rfl, by kernel_rfl, by kernel_rfl, rfl⟩
/- (*gridhall/shed.Shed).Back -/
def a12 : ACode :=
  (.seq (.region false [] [
     ⟨(some 4), none, (.mov (.v (.slice none 0 0)))⟩,
     ⟨(some 5), none, (.mov (.v (.int .i64 0)))⟩])
  (.seq (.region false [] [
     ⟨(some 8), none, (.mov (.t 0))⟩,
     ⟨(some 9), none, (.nilc (.t 8))⟩,
     ⟨(some 10), none, (.fld 3 (.t 9))⟩,
     ⟨(some 11), none, (.load 1 false (.t 10))⟩,
     ⟨(some 12), none, (.len (.t 11))⟩,
     ⟨(some 6), none, (.mov (.t 12))⟩])
  (.seq (.block 0 (.seq (.region false [] [
      ⟨(some 14), none, (.mov (.t 1))⟩,
      ⟨(some 15), none, (.bin .lss 3 (.t 14) (.v (.int .i64 (-10000))))⟩,
      ⟨(some 16), none, (.mov (.t 15))⟩,
      ⟨(some 17), (some (16, false)), (.mov (.t 1))⟩,
      ⟨(some 18), (some (16, false)), (.bin .gtr 3 (.t 17) (.v (.int .i64 10000)))⟩,
      ⟨(some 19), none, (.pick (.t 16) (.v (.bool true)) (.t 18))⟩,
      ⟨(some 13), none, (.mov (.t 19))⟩])
   (.cond (.t 13)
     (.seq (.region false [] [
        ⟨(some 4), none, (.mov (.v (.slice none 0 0)))⟩,
        ⟨(some 5), none, (.mov (.v (.int .i64 4)))⟩])
     .ret)
     (.seq (.region false [] [
        ⟨(some 21), none, (.mov (.t 1))⟩,
        ⟨(some 22), none, (.bin .lss 3 (.t 21) (.v (.int .i64 0)))⟩,
        ⟨(some 23), none, (.mov (.t 22))⟩,
        ⟨(some 24), (some (23, false)), (.mov (.t 6))⟩,
        ⟨(some 25), (some (23, false)), (.bin .eql 3 (.t 24) (.v (.int .i64 0)))⟩,
        ⟨(some 26), none, (.pick (.t 23) (.v (.bool true)) (.t 25))⟩,
        ⟨(some 20), none, (.mov (.t 26))⟩])
     (.cond (.t 20)
       (.seq (.region false [] [
          ⟨(some 4), none, (.mov (.v (.slice none 0 0)))⟩,
          ⟨(some 5), none, (.mov (.v (.int .i64 11)))⟩])
       .ret)
       .skip)))))
  (.seq (.region false [] [
     ⟨(some 27), none, (.mov (.t 0))⟩,
     ⟨(some 28), none, (.nilc (.t 27))⟩,
     ⟨(some 29), none, (.fld 3 (.t 28))⟩,
     ⟨(some 30), none, (.load 1 false (.t 29))⟩,
     ⟨(some 31), none, (.mov (.t 6))⟩,
     ⟨(some 32), none, (.bin .sub 3 (.t 31) (.v (.int .i64 1)))⟩,
     ⟨(some 33), none, (.idx 1 (.t 30) (.t 32))⟩,
     ⟨(some 34), none, (.load 1 false (.t 33))⟩,
     ⟨(some 7), none, (.mov (.t 34))⟩])
  (.seq (.region false [] [
     ⟨(some 35), none, (.mov (.t 0))⟩,
     ⟨(some 36), none, (.mov (.t 0))⟩,
     ⟨(some 37), none, (.nilc (.t 36))⟩,
     ⟨(some 38), none, (.fld 3 (.t 37))⟩,
     ⟨(some 39), none, (.load 1 false (.t 38))⟩,
     ⟨(some 40), none, (.mov (.t 6))⟩,
     ⟨(some 41), none, (.bin .sub 3 (.t 40) (.v (.int .i64 1)))⟩,
     ⟨(some 42), none, (.slc 1 (.t 39) none (some (.t 41)) none)⟩,
     ⟨(some 43), none, (.nilc (.t 35))⟩,
     ⟨(some 44), none, (.fld 3 (.t 43))⟩,
     ⟨none, none, (.store 1 (.t 44) (.t 42))⟩])
  (.seq (.region true [[], [0], [1], [2], [], [], [5], [6], [7], [], [3, 4, 0, 1, 2, 3, 4, 8], [10, 0, 1, 2, 3, 4, 8], [8, 9, 0, 1, 2, 3, 4, 5, 6, 7, 8, 9, 10, 11], [12, 11, 0, 1, 2, 3, 4, 5, 6, 7, 8, 9, 10, 11]] [
     ⟨(some 45), none, (.mov (.t 0))⟩,
     ⟨(some 46), none, (.nilc (.t 45))⟩,
     ⟨(some 47), none, (.fld 2 (.t 46))⟩,
     ⟨(some 48), none, (.load 1 false (.t 47))⟩,
     ⟨(some 49), none, (.mov (.t 7))⟩,
     ⟨(some 50), none, (.mov (.t 0))⟩,
     ⟨(some 51), none, (.nilc (.t 50))⟩,
     ⟨(some 52), none, (.fld 1 (.t 51))⟩,
     ⟨(some 53), none, (.load 1 false (.t 52))⟩,
     ⟨(some 54), none, (.mov (.t 7))⟩,
     ⟨(some 55), none, (.idx 1 (.t 48) (.t 49))⟩,
     ⟨none, none, (.store 1 (.t 55) (.v (.bool false)))⟩,
     ⟨(some 56), none, (.idx 1 (.t 53) (.t 54))⟩,
     ⟨none, none, (.store 1 (.t 56) (.v (.int .i64 0)))⟩])
  (.seq (.region false [] [
     ⟨(some 57), none, (.mov (.t 0))⟩,
     ⟨(some 58), none, (.nilc (.t 57))⟩,
     ⟨(some 59), none, (.fld 0 (.t 58))⟩,
     ⟨(some 60), none, (.load 1 false (.t 59))⟩,
     ⟨(some 61), none, (.mov (.t 7))⟩,
     ⟨(some 62), none, (.idx 3 (.t 60) (.t 61))⟩,
     ⟨(some 63), none, (.fld 2 (.t 62))⟩,
     ⟨(some 64), none, (.load 1 false (.t 63))⟩,
     ⟨(some 65), none, (.call 15 [(.t 64)])⟩,
     ⟨(some 4), none, (.mov (.t 65))⟩,
     ⟨(some 5), none, (.mov (.v (.int .i64 0)))⟩])
  .ret)))))))
theorem k12 : FnIs Try.prog 12 66 [.t 4, .t 5] a12 := ⟨_, _, Try.func12, rfl, by kernel_rfl, by kernel_rfl, rfl⟩

theorem loads_bound {l : List Stage} (hl : ShedOk l) (o : List Nat) (ho : ∀ k ∈ o, k < l.length) (n : Nat) (hn : o.length ≤ n) : (loadsOf l o).length ≤ 12 * n := by
  have h1 : ∀ (o : List Nat), (∀ k ∈ o, k < l.length) → (loadsOf l o).length ≤ 12 * o.length := by
    intro o
    induction o with
    | nil => intro _; simp [loadsOf]
    | cons k o ih =>
      intro h
      have h2 := ih fun j hj => h j (List.mem_cons_of_mem _ hj)
      have h3 := hl.few _ (nth_mem (h k List.mem_cons_self))
      unfold loadsOf at h2 ⊢
      rw [List.flatMap_cons, List.length_append, List.length_cons]
      omega
  have := h1 o ho
  omega
theorem actL_len (l : List Stage) (f : Int) (x : Sh) (i : Nat) : (actL l f x i).length ≤ i := by
  unfold actL
  have := List.length_filter_le (fun k => actB f (nth l k) (x.lo k) (x.ac k)) (List.range i)
  simpa using this
set_option maxRecDepth 20000 in
set_option maxHeartbeats 2000000 in
theorem s8 (l : List Stage) (x : Sh) (f : Int) (hl : ShedOk l) (hi : ShInv l x) (hf : -9223372036854775808 ≤ f ∧ f ≤ 9223372036854775807) :
    Aw.Spec Try.prog 8 (shR l x) [.ptr 0 0 0, I f] (fun rg v => rg = shR l (shAny l f x) ∧ v = .tup [ss none false (stepOut l f x), I (stepErr f)]) := by
  refine Aw.Spec.regsD k8 mixed rfl rfl rfl fun E hn hnp hp => ?_
  unfold a8 shR
  have h8 := hl.len
  simp (config := { maxSteps := 2000000 }) only [go_sem, ↓reduceIte, Int.reduceBEq, Int.reduceBNe, Nat.reduceBEq, Nat.reduceAdd, Nat.reduceSub, Nat.reduceLeDiff, Nat.reduceEqDiff, Nat.reduceLT, reduceCtorEq]
  simp only [Bool.or_eq_true, Bool.or_eq_false_iff, decide_eq_true_eq, decide_eq_false_iff_not]
  refine ⟨fun h => ?_, fun h => ?_⟩
  · have hok : okF f = false := by unfold okF; simp only [Bool.and_eq_false_iff, decide_eq_false_iff_not]; omega
    refine Retn.weak (weak_ent 4 (by rfl) (Ent.ofnil0 1)) _ (Retn.ret (π := [0, 1, 2, 3, 4]) hp hnp ⟨rfl, ?_⟩)
    simp (config := { maxSteps := 2000000 }) only [go_sem, ↓reduceIte, Int.reduceBEq, Int.reduceBNe, Nat.reduceBEq, Nat.reduceAdd, Nat.reduceSub, Nat.reduceLeDiff, Nat.reduceEqDiff, Nat.reduceLT, reduceCtorEq, Aw.renR, Aw.pos]
    refine ⟨?_, ?_⟩
    · unfold shAny; rw [hok]; rfl
    · unfold stepOut stepErr; rw [hok]; rfl
  have hok : okF f = true := by unfold okF; simp only [Bool.and_eq_true, decide_eq_true_eq]; omega
  refine AWp.weak (weak_nil 6 9 1 rfl) ?_
  simp (config := { maxSteps := 2000000 }) only [go_sem, ↓reduceIte, Int.reduceBEq, Int.reduceBNe, Nat.reduceBEq, Nat.reduceAdd, Nat.reduceSub, Nat.reduceLeDiff, Nat.reduceEqDiff, Nat.reduceLT, reduceCtorEq]
  refine AWp.loop (fun k s => ∃ (i : Nat), i + k = l.length ∧
      Weak E s ⟨[(0, .ptr 0 0 0), (1, I f), (6, .hnd 5 0 (outN l f x i).length (outN l f x i).length false), (18, .hnd 1 0 l.length l.length false), (19, I l.length), (20, I i)], shR l (mid l f x i) ++ [.arr 9 1 ((outN l f x i).map sc)]⟩) (n := l.length)
    ⟨0, by omega, weak_to [0, 1, 2, 3, 4, 5] hp hnp rfl (by simp (config := { maxSteps := 2000000 }) only [go_sem, ↓reduceIte, Int.reduceBEq, Int.reduceBNe, Nat.reduceBEq, Nat.reduceAdd, Nat.reduceSub, Nat.reduceLeDiff, Nat.reduceEqDiff, Nat.reduceLT, reduceCtorEq, Aw.pos, Int.natCast_zero]; rfl) (by rw [mid_zero]; simp (config := { maxSteps := 2000000 }) only [go_sem, ↓reduceIte, Int.reduceBEq, Int.reduceBNe, Nat.reduceBEq, Nat.reduceAdd, Nat.reduceSub, Nat.reduceLeDiff, Nat.reduceEqDiff, Nat.reduceLT, reduceCtorEq, Aw.renR, Aw.pos, shR]; rfl)⟩ ?_
  rintro k s ⟨i, hik, hw⟩
  rcases Nat.lt_or_ge i l.length with hlt | hge
  · have e0 : decide ((i : Int) < (l.length : Int)) = true := by simp; omega
    have e1 := getD_map gs0 hlt
    have e2 : IntKind.i64.wrap ((i : Int) + 1) = ((i + 1 : Nat) : Int) := by rw [w64 (by omega) (by omega)]; omega
    have en : nth l i = l[i] := by unfold nth; rw [List.getD_eq_getElem?_getD, List.getElem?_eq_getElem hlt]; rfl
    have elo := getD_rng (fun k => [I ((mid l f x i).lo k)]) hlt
    have hmi : (mid l f x i).lo i = x.lo i := by simp [mid]
    have hma : (mid l f x i).ac i = x.ac i := by simp [mid]
    have hmlo : ∀ k, k ≠ i → (mid l f x i).lo k = (mid l f x (i + 1)).lo k := fun k hk => by
      simp only [mid]
      by_cases h1 : k < i
      · rw [if_pos h1, if_pos (by omega)]
      · rw [if_neg h1, if_neg (by omega)]
    have hlo := hi.low i hlt
    have hrn := hl.range _ (nth_mem hlt)
    rw [en] at hrn hlo
    have hset : ∀ v, v = nlo f l[i] (x.lo i) → ((List.range l.length).map fun k => [I ((mid l f x i).lo k)]).set i [I v] = (List.range l.length).map fun k => [I ((mid l f x (i + 1)).lo k)] := fun v hv => by
      rw [set_rng]
      refine List.map_congr_left fun k hk => ?_
      by_cases h1 : k = i
      · subst h1; rw [if_pos rfl, hv, ← en]; simp [mid]
      · rw [if_neg h1, hmlo k h1]
    refine AWp.weak hw (AWp.ofD [2] [] hn mixed rfl ?_)
    simp (config := { maxSteps := 2000000 }) only [go_sem, ↓reduceIte, Int.reduceBEq, Int.reduceBNe, Nat.reduceBEq, Nat.reduceAdd, Nat.reduceSub, Nat.reduceLeDiff, Nat.reduceEqDiff, Nat.reduceLT, reduceCtorEq, e0, e1, shR]
    (repeat (refine And.intro (by first | omega | (refine ⟨by omega, by omega⟩) | (refine ⟨by omega, by omega, by omega⟩) | (simp only [List.length_map, List.length_range, List.length_append, List.length_cons, List.length_nil, List.length_replicate, List.length_set]; omega) | (simp; omega) | (intro hgd; cases hgd) | (intro hgd; refine ⟨hgd, ?_⟩; first | omega | (refine ⟨by omega, by omega⟩) | (simp; omega))) ?_))
    refine AWp.cut ⟨[(0, .ptr 0 0 0), (1, I f), (6, .hnd 5 0 (outN l f x i).length (outN l f x i).length false), (7, I i), (8, .ptr 6 0 0), (18, .hnd 1 0 l.length l.length false), (19, I l.length), (20, I i)],
      [.box 43 [.hnd 1 0 l.length l.length false, .hnd 2 0 l.length l.length true, .hnd 3 0 l.length l.length true, .hnd 4 0 (mid l f x i).ord.length (mid l f x i).ord.length false],
       .arr 34 3 (l.map gs0), .arr 3 1 ((List.range l.length).map fun k => [I ((mid l f x (i + 1)).lo k)]), .arr 4 1 ((List.range l.length).map fun k => [B ((mid l f x i).ac k)]), .arr 3 1 ((mid l f x i).ord.map fun n => [I (n : Nat)]),
       .arr 9 1 ((outN l f x i).map sc), .box 34 (gs0 l[i])]⟩ ?_ ?_
    · refine AWp.ofD [] [] hn mixed rfl ?_
      simp (config := { maxSteps := 2000000 }) only [go_sem, ↓reduceIte, Int.reduceBEq, Int.reduceBNe, Nat.reduceBEq, Nat.reduceAdd, Nat.reduceSub, Nat.reduceLeDiff, Nat.reduceEqDiff, Nat.reduceLT, reduceCtorEq, elo, hmi]
      simp only [decide_eq_true_eq, decide_eq_false_iff_not]
      (repeat (refine And.intro (by first | omega | (refine ⟨by omega, by omega⟩) | (refine ⟨by omega, by omega, by omega⟩) | (simp only [List.length_map, List.length_range, List.length_append, List.length_cons, List.length_nil, List.length_replicate, List.length_set]; omega) | (simp; omega) | (intro hgd; cases hgd) | (intro hgd; refine ⟨hgd, ?_⟩; first | omega | (refine ⟨by omega, by omega⟩) | (simp; omega))) ?_))
      refine ⟨fun h1 => ?_, fun h1 => ?_⟩
      · (repeat (refine And.intro (by first | omega | (refine ⟨by omega, by omega⟩) | (refine ⟨by omega, by omega, by omega⟩) | (simp only [List.length_map, List.length_range, List.length_append, List.length_cons, List.length_nil, List.length_replicate, List.length_set]; omega) | (simp; omega) | (intro hgd; cases hgd) | (intro hgd; refine ⟨hgd, ?_⟩; first | omega | (refine ⟨by omega, by omega⟩) | (simp; omega))) ?_))
        exact weak_to [0, 1, 2, 3, 4, 5, 6] hp hnp rfl (by simp (config := { maxSteps := 2000000 }) only [go_sem, ↓reduceIte, Int.reduceBEq, Int.reduceBNe, Nat.reduceBEq, Nat.reduceAdd, Nat.reduceSub, Nat.reduceLeDiff, Nat.reduceEqDiff, Nat.reduceLT, reduceCtorEq, Aw.pos]) (by simp (config := { maxSteps := 2000000 }) only [go_sem, ↓reduceIte, Int.reduceBEq, Int.reduceBNe, Nat.reduceBEq, Nat.reduceAdd, Nat.reduceSub, Nat.reduceLeDiff, Nat.reduceEqDiff, Nat.reduceLT, reduceCtorEq, Aw.renR, Aw.pos]; rw [hset 0 (by unfold nlo; rw [if_pos (by omega)])])
      (repeat (refine And.intro (by first | omega | (refine ⟨by omega, by omega⟩) | (refine ⟨by omega, by omega, by omega⟩) | (simp only [List.length_map, List.length_range, List.length_append, List.length_cons, List.length_nil, List.length_replicate, List.length_set]; omega) | (simp; omega) | (intro hgd; cases hgd) | (intro hgd; refine ⟨hgd, ?_⟩; first | omega | (refine ⟨by omega, by omega⟩) | (simp; omega))) ?_))
      refine ⟨fun h2 => ?_, fun h2 => ?_⟩
      · (repeat (refine And.intro (by first | omega | (refine ⟨by omega, by omega⟩) | (refine ⟨by omega, by omega, by omega⟩) | (simp only [List.length_map, List.length_range, List.length_append, List.length_cons, List.length_nil, List.length_replicate, List.length_set]; omega) | (simp; omega) | (intro hgd; cases hgd) | (intro hgd; refine ⟨hgd, ?_⟩; first | omega | (refine ⟨by omega, by omega⟩) | (simp; omega))) ?_))
        exact weak_to [0, 1, 2, 3, 4, 5, 6] hp hnp rfl (by simp (config := { maxSteps := 2000000 }) only [go_sem, ↓reduceIte, Int.reduceBEq, Int.reduceBNe, Nat.reduceBEq, Nat.reduceAdd, Nat.reduceSub, Nat.reduceLeDiff, Nat.reduceEqDiff, Nat.reduceLT, reduceCtorEq, Aw.pos]) (by simp (config := { maxSteps := 2000000 }) only [go_sem, ↓reduceIte, Int.reduceBEq, Int.reduceBNe, Nat.reduceBEq, Nat.reduceAdd, Nat.reduceSub, Nat.reduceLeDiff, Nat.reduceEqDiff, Nat.reduceLT, reduceCtorEq, Aw.renR, Aw.pos]; rw [hset _ (by unfold nlo; rw [if_neg (by omega), if_pos h2, w64 (by omega) (by omega)])])
      · refine weak_to [0, 1, 2, 3, 4, 5, 6] hp hnp rfl (by simp (config := { maxSteps := 2000000 }) only [go_sem, ↓reduceIte, Int.reduceBEq, Int.reduceBNe, Nat.reduceBEq, Nat.reduceAdd, Nat.reduceSub, Nat.reduceLeDiff, Nat.reduceEqDiff, Nat.reduceLT, reduceCtorEq, Aw.pos]) (by
          simp (config := { maxSteps := 2000000 }) only [go_sem, ↓reduceIte, Int.reduceBEq, Int.reduceBNe, Nat.reduceBEq, Nat.reduceAdd, Nat.reduceSub, Nat.reduceLeDiff, Nat.reduceEqDiff, Nat.reduceLT, reduceCtorEq, Aw.renR, Aw.pos]
          rw [show ((List.range l.length).map fun k => [I ((mid l f x i).lo k)]) = (List.range l.length).map fun k => [I ((mid l f x (i + 1)).lo k)] from List.map_congr_left fun k hk => ?_]
          by_cases h3 : k = i
          · subst h3
            simp only [mid, Nat.lt_irrefl, if_false, Nat.lt_succ_self, if_true, en]
            unfold nlo; rw [if_neg (by omega), if_neg (by omega)]
          · rw [hmlo k h3])
    · have elo2 := getD_rng (fun k => [I ((mid l f x (i + 1)).lo k)]) hlt
      have eac := getD_rng (fun k => [B ((mid l f x i).ac k)]) hlt
      have hm2 : (mid l f x (i + 1)).lo i = nlo f l[i] (x.lo i) := by simp only [mid, Nat.lt_succ_self, if_true, en]
      have hsa : ∀ v, v = (x.ac i || actB f l[i] (x.lo i) (x.ac i)) → ((List.range l.length).map fun k => [B ((mid l f x i).ac k)]).set i [B v] = (List.range l.length).map fun k => [B ((mid l f x (i + 1)).ac k)] := fun v hv => by
        rw [set_rng]
        refine List.map_congr_left fun k hk => ?_
        by_cases h1 : k = i
        · subst h1; rw [if_pos rfl, hv, ← en]; simp [mid]
        · rw [if_neg h1]
          simp only [mid]
          by_cases h2 : k < i
          · rw [if_pos h2, if_pos (by omega)]
          · rw [if_neg h2, if_neg (by omega)]
      have hAc : (nlo f l[i] (x.lo i) == l[i].wait && !x.ac i) = actB f l[i] (x.lo i) (x.ac i) := rfl
      simp (config := { maxSteps := 2000000 }) only [go_sem, ↓reduceIte, Int.reduceBEq, Int.reduceBNe, Nat.reduceBEq, Nat.reduceAdd, Nat.reduceSub, Nat.reduceLeDiff, Nat.reduceEqDiff, Nat.reduceLT, reduceCtorEq, elo2, eac, hm2, hma, hAc]
      (repeat (refine And.intro (by first | omega | (refine ⟨by omega, by omega⟩) | (refine ⟨by omega, by omega, by omega⟩) | (simp only [List.length_map, List.length_range, List.length_append, List.length_cons, List.length_nil, List.length_replicate, List.length_set]; omega) | (simp; omega) | (intro hgd; cases hgd) | (intro hgd; refine ⟨hgd, ?_⟩; first | omega | (refine ⟨by omega, by omega⟩) | (simp; omega))) ?_))
      have hcl := actL_len l f x i
      have hol := loads_bound hl (actL l f x i) (fun k hk => by have := (mem_actL.1 hk).1; omega) i hcl
      have hfew := hl.few _ (List.getElem_mem hlt)
      refine ⟨fun ha => ?_, fun ha => ?_⟩
      · (repeat (refine And.intro (by first | omega | (refine ⟨by omega, by omega⟩) | (refine ⟨by omega, by omega, by omega⟩) | (simp only [List.length_map, List.length_range, List.length_append, List.length_cons, List.length_nil, List.length_replicate, List.length_set]; omega) | (simp; omega) | (intro hgd; cases hgd) | (intro hgd; refine ⟨hgd, ?_⟩; first | omega | (refine ⟨by omega, by omega⟩) | (simp; omega))) ?_))
        have hord : (mid l f x i).ord.length ≤ 16 := by
          have h1 := len_ord hl hi
          simp only [mid, List.length_append]; omega
        have hordS : (mid l f x (i + 1)).ord = (mid l f x i).ord ++ [i] := by
          simp only [mid]; rw [actL_succ, en, if_pos ha, List.append_assoc]
        have houtS : outN l f x (i + 1) = outN l f x i ++ l[i].loads := by rw [outN_succ, en, if_pos ha]
        refine AWpL.app (r := 4) (els := (mid l f x i).ord.map fun n => [I (n : Nat)]) (ys := [[I i]]) rfl rfl rfl rfl (by rw [hn]; rfl) (by simp) (hp.arr 4 rfl) (Nat.le_refl 1) (fun el hm y hy => ?_) (by simp only [List.length_cons, List.length_nil]; omega) (by simp only [List.length_cons, List.length_nil]; omega) (AWpL.ofM hn rfl ?_)
        · rw [List.mem_singleton.1 hm] at hy
          rw [List.mem_singleton.1 hy]; rfl
        simp (config := { maxSteps := 2000000 }) only [go_sem, ↓reduceIte, Int.reduceBEq, Int.reduceBNe, Nat.reduceBEq, Nat.reduceAdd, Nat.reduceSub, Nat.reduceLeDiff, Nat.reduceEqDiff, Nat.reduceLT, reduceCtorEq]
        refine AWpL.app (r := 5) (els := (outN l f x i).map sc) (ys := l[i].loads.map sc) rfl rfl rfl rfl (by rw [hn]; rfl) (by simp) (hp.none hnp (Nat.le_refl 5)) trivial (fun el hm y hy => ?_) (by simp only [List.length_map]; unfold outN; omega) (by simp only [List.length_map]; unfold outN; omega) (AWpL.ofM hn rfl ?_)
        · obtain ⟨z, _, rfl⟩ := List.mem_map.1 hm
          rw [List.mem_singleton.1 hy]; rfl
        simp (config := { maxSteps := 2000000 }) only [go_sem, ↓reduceIte, Int.reduceBEq, Int.reduceBNe, Nat.reduceBEq, Nat.reduceAdd, Nat.reduceSub, Nat.reduceLeDiff, Nat.reduceEqDiff, Nat.reduceLT, reduceCtorEq, e2]
        refine ⟨k - 1, by omega, i + 1, by omega, weak_to [0, 1, 2, 3, 4, 5] hp hnp rfl (by simp (config := { maxSteps := 2000000 }) only [go_sem, ↓reduceIte, Int.reduceBEq, Int.reduceBNe, Nat.reduceBEq, Nat.reduceAdd, Nat.reduceSub, Nat.reduceLeDiff, Nat.reduceEqDiff, Nat.reduceLT, reduceCtorEq, Aw.pos, houtS, List.length_append, List.length_map]) ?_⟩
        simp (config := { maxSteps := 2000000 }) only [go_sem, ↓reduceIte, Int.reduceBEq, Int.reduceBNe, Nat.reduceBEq, Nat.reduceAdd, Nat.reduceSub, Nat.reduceLeDiff, Nat.reduceEqDiff, Nat.reduceLT, reduceCtorEq, Aw.renR, Aw.pos, hordS, houtS, List.map_append, List.length_append]
        rw [hsa true (by rw [ha, Bool.or_true])]
      · have hordS : (mid l f x (i + 1)).ord = (mid l f x i).ord := by
          simp only [mid]; rw [actL_succ, en, if_neg (by simp [ha]), List.append_nil]
        have houtS : outN l f x (i + 1) = outN l f x i := by rw [outN_succ, en, if_neg (by simp [ha]), List.append_nil]
        have hacS : ((List.range l.length).map fun k => [B ((mid l f x i).ac k)]) = (List.range l.length).map fun k => [B ((mid l f x (i + 1)).ac k)] := by
          refine List.map_congr_left fun k hk => ?_
          simp only [mid]
          by_cases h1 : k = i
          · subst h1; rw [if_neg (by omega), if_pos (by omega), en, ha, Bool.or_false]
          · by_cases h2 : k < i
            · rw [if_pos h2, if_pos (by omega)]
            · rw [if_neg h2, if_neg (by omega)]
        simp (config := { maxSteps := 2000000 }) only [go_sem, ↓reduceIte, Int.reduceBEq, Int.reduceBNe, Nat.reduceBEq, Nat.reduceAdd, Nat.reduceSub, Nat.reduceLeDiff, Nat.reduceEqDiff, Nat.reduceLT, reduceCtorEq, e2]
        exact ⟨k - 1, by omega, i + 1, by omega, weak_to [0, 1, 2, 3, 4, 5] hp hnp rfl (by simp (config := { maxSteps := 2000000 }) only [go_sem, ↓reduceIte, Int.reduceBEq, Int.reduceBNe, Nat.reduceBEq, Nat.reduceAdd, Nat.reduceSub, Nat.reduceLeDiff, Nat.reduceEqDiff, Nat.reduceLT, reduceCtorEq, Aw.pos, houtS]) (by simp (config := { maxSteps := 2000000 }) only [go_sem, ↓reduceIte, Int.reduceBEq, Int.reduceBNe, Nat.reduceBEq, Nat.reduceAdd, Nat.reduceSub, Nat.reduceLeDiff, Nat.reduceEqDiff, Nat.reduceLT, reduceCtorEq, Aw.renR, Aw.pos, hordS, houtS, hacS])⟩
  · have e0 : decide ((i : Int) < (l.length : Int)) = false := by simp; omega
    obtain rfl : i = l.length := by omega
    refine AWp.weak hw (AWp.ofD [] [] hn mixed rfl ?_)
    simp (config := { maxSteps := 2000000 }) only [go_sem, ↓reduceIte, Int.reduceBEq, Int.reduceBNe, Nat.reduceBEq, Nat.reduceAdd, Nat.reduceSub, Nat.reduceLeDiff, Nat.reduceEqDiff, Nat.reduceLT, reduceCtorEq, e0, shR]
    refine Retn.weak (weak_freeze 5 rfl (hp.none hnp (Nat.le_refl 5)) ?_) _ ?_
    · simp (config := { maxSteps := 2000000 }) only [go_sem, ↓reduceIte, Int.reduceBEq, Int.reduceBNe, Nat.reduceBEq, Nat.reduceAdd, Nat.reduceSub, Nat.reduceLeDiff, Nat.reduceEqDiff, Nat.reduceLT, reduceCtorEq, Nat.le_refl]
    refine Retn.weak (weak_ent 4 (by rfl) (Ent.plain _ _ _ _)) _ (Retn.ret (π := [0, 1, 2, 3, 4]) hp hnp ⟨rfl, ?_⟩)
    have h1 : ((List.range l.length).map fun k => [I ((mid l f x l.length).lo k)]) = (List.range l.length).map fun k => [I ((shAny l f x).lo k)] := by
      unfold shAny; rw [if_pos hok]
      refine List.map_congr_left fun k hk => ?_
      simp only [mid, shStep, List.mem_range.1 hk, if_true]
    have h2 : ((List.range l.length).map fun k => [B ((mid l f x l.length).ac k)]) = (List.range l.length).map fun k => [B ((shAny l f x).ac k)] := by
      unfold shAny; rw [if_pos hok]
      refine List.map_congr_left fun k hk => ?_
      simp only [mid, shStep, List.mem_range.1 hk, if_true]
    have h3 : (mid l f x l.length).ord = (shAny l f x).ord := by unfold shAny; rw [if_pos hok]; rfl
    have h4 : ((outN l f x l.length).map sc).take (outN l f x l.length).length = (outN l f x l.length).map sc := List.take_of_length_le (by simp)
    have h5 : stepOut l f x = outN l f x l.length := by unfold stepOut; rw [if_pos hok]
    have h6 : stepErr f = 0 := by unfold stepErr; rw [if_pos hok]
    simp (config := { maxSteps := 2000000 }) only [go_sem, ↓reduceIte, Int.reduceBEq, Int.reduceBNe, Nat.reduceBEq, Nat.reduceAdd, Nat.reduceSub, Nat.reduceLeDiff, Nat.reduceEqDiff, Nat.reduceLT, reduceCtorEq, Aw.renR, Aw.pos, h1, h2, h3, h4, h5, h6]
end Go.Proofs.Ytdcnllgnblgfaaa
