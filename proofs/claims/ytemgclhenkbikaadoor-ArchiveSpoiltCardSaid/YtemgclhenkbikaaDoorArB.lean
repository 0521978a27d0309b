/- Texts: numbers in base 16. -/
import Derived.Test.YtemgclhenkbikaaDoorAwZl
import Derived.Test.YtemgclhenkbikaaDoorArA
import Derived.Shelf.Spec.TrailingZeros
set_option linter.unusedVariables false
set_option linter.unusedSimpArgs false
namespace Go.Proofs.YtemgclhenkbikaaDoor
open Go.Proofs.YtemgclhenkbikaaDoor.Aw
attribute [local go_sem] Int.natCast_zero Int.natCast_one bne_self_eq_false beq_self_eq_true Bool.not_true Bool.not_false Option.isSome_none Option.isSome_some Aw.bkM_nil Option.getD_some Option.getD_none Nat.sub_zero Int.toNat_zero Aw.frzS Aw.frzT Aw.frzA Aw.frzL Aw.frzR Aw.frzO Aw.frzOL Aw.frzOT Aw.frzOR Aw.killS Aw.mapT Aw.mapR Aw.killM Aw.resAVs Aw.resAV Aw.quietOps Aw.wpP Aw.wpT Aw.wpS Aw.AOp.mild List.getElem?_cons_zero List.getElem?_cons_succ Bool.and_false Bool.and_self Bool.false_and Aw.opOb Aw.gdB Aw.Rnd Aw.subTm List.length_map Int.toNat_natCast and_self Aw.SeqC Aw.stops Aw.Ends Aw.looks Aw.renA Aw.renL Aw.renT Aw.renS Aw.wpO Aw.aop Aw.putTm Aw.St.ev Aw.St.put Aw.St.putO Aw.binAV Aw.intBin Aw.strBin Aw.pickAV Aw.optInt Aw.AV.strip Aw.AV.guard Aw.AV.cells Aw.gdOb Aw.AOp.opds Aw.AOp.still Aw.ptrCells Aw.St.reg Aw.fillAV Aw.fillOb Aw.elsOb Aw.splice Aw.firm Aw.cellish Aw.AV.shut Aw.shutAll Aw.Seq Aw.Blk Aw.retS_nil Aw.mapA Aw.mapL Aw.borA Aw.borOb Aw.allOb Aw.tupOf Aw.params Aw.Opd.of Array.toList Value.cells List.map_cons List.map_nil List.getD_cons_zero List.getD_cons_succ List.getD_nil List.length_cons List.length_nil List.take_succ_cons List.take_zero List.take_nil List.drop_zero List.drop_succ_cons List.drop_nil List.set_cons_zero List.set_cons_succ List.append_nil List.nil_append List.cons_append List.all_cons List.all_nil cond_false cond_true if_true if_false true_and and_true Bool.and_true Bool.true_and Option.map_some Option.map_none false_implies forall_const implies_true forall_eq imp_self Bool.cond_false_right Bool.cond_true_left beq_true beq_false Bool.not_eq_true' Bool.false_eq_true Nat.zero_add Nat.add_zero Aw.eqCells Aw.stopDraw Aw.skipS Aw.exactCap Aw.revealS Aw.srcEls Aw.srcSz
attribute [local go_sem ↓] Aw.look_nil Aw.look_ite Aw.wpL_nil Aw.wpL_op Aw.wpL_gd Aw.wpQ_nil Aw.wpQ_op Aw.wpQ_gd Aw.wpC_draw Aw.wpC_reg Aw.wpC_skip Aw.wpC_ret Aw.wpC_exit Aw.wpC_seq Aw.wpC_block Aw.wpC_loop Aw.wpC_cond Aw.stopAt_nil Aw.stopAt_cons Aw.wpD_skip Aw.wpD_ret Aw.wpD_exit Aw.wpD_region Aw.wpD_draw Aw.wpM_nil Aw.wpM_op Aw.wpM_gd Aw.wpD_seq Aw.wpD_block Aw.wpD_loop Aw.wpD_cond
/- internal/strconv.isPowerOfTwo -/
def a66 : ACode :=
  (.seq (.region false [] [
     ⟨(some 2), none, (.mov (.v (.bool false)))⟩])
  (.seq (.region false [] [
     ⟨(some 3), none, (.mov (.t 0))⟩,
     ⟨(some 4), none, (.mov (.t 0))⟩,
     ⟨(some 5), none, (.bin .sub 3 (.t 4) (.v (.int .i64 1)))⟩,
     ⟨(some 6), none, (.bin .and 3 (.t 3) (.t 5))⟩,
     ⟨(some 7), none, (.bin .eql 3 (.t 6) (.v (.int .i64 0)))⟩,
     ⟨(some 2), none, (.mov (.t 7))⟩])
  .ret))
theorem k66 : FnIs Tryd.prog 66 8 [.t 2] a66 := ⟨_, _, Tryd.func66, rfl, by kernel_rfl, by kernel_rfl, rfl⟩
/- internal/strconv.formatBits -/
def a53 : ACode :=
  (.seq (.region false [] [
     ⟨(some 10), none, (.mov (.v (.slice none 0 0)))⟩,
     ⟨(some 11), none, (.mov (.v (.string ⟨#[]⟩)))⟩])
  (.seq (.seq (.region false [] [
     ⟨(some 19), none, (.mov (.t 2))⟩,
     ⟨(some 20), none, (.bin .lss 3 (.t 19) (.v (.int .i64 2)))⟩,
     ⟨(some 21), none, (.mov (.t 20))⟩,
     ⟨(some 22), (some (21, false)), (.mov (.t 2))⟩,
     ⟨(some 23), (some (21, false)), (.bin .eql 3 (.t 22) (.v (.int .i64 10)))⟩,
     ⟨(some 24), none, (.pick (.t 21) (.v (.bool true)) (.t 23))⟩,
     ⟨(some 25), none, (.mov (.t 24))⟩,
     ⟨(some 26), (some (25, false)), (.mov (.t 2))⟩,
     ⟨(some 27), (some (25, false)), (.bin .gtr 3 (.t 26) (.v (.int .i64 36)))⟩,
     ⟨(some 28), none, (.pick (.t 25) (.v (.bool true)) (.t 27))⟩])
  (.cond (.t 28)
    (.region false [] [
       ⟨(some 29), none, (.bad none [])⟩,
       ⟨none, none, (.bad none [])⟩])
    .skip))
  (.seq (.region false [] [
     ⟨(some 12), none, (.alloc 92 (.agg #[(.int .u8 0), (.int .u8 0), (.int .u8 0), (.int .u8 0), (.int .u8 0), (.int .u8 0), (.int .u8 0), (.int .u8 0), (.int .u8 0), (.int .u8 0), (.int .u8 0), (.int .u8 0), (.int .u8 0), (.int .u8 0), (.int .u8 0), (.int .u8 0), (.int .u8 0), (.int .u8 0), (.int .u8 0), (.int .u8 0), (.int .u8 0), (.int .u8 0), (.int .u8 0), (.int .u8 0), (.int .u8 0), (.int .u8 0), (.int .u8 0), (.int .u8 0), (.int .u8 0), (.int .u8 0), (.int .u8 0), (.int .u8 0), (.int .u8 0), (.int .u8 0), (.int .u8 0), (.int .u8 0), (.int .u8 0), (.int .u8 0), (.int .u8 0), (.int .u8 0), (.int .u8 0), (.int .u8 0), (.int .u8 0), (.int .u8 0), (.int .u8 0), (.int .u8 0), (.int .u8 0), (.int .u8 0), (.int .u8 0), (.int .u8 0), (.int .u8 0), (.int .u8 0), (.int .u8 0), (.int .u8 0), (.int .u8 0), (.int .u8 0), (.int .u8 0), (.int .u8 0), (.int .u8 0), (.int .u8 0), (.int .u8 0), (.int .u8 0), (.int .u8 0), (.int .u8 0), (.int .u8 0)]))⟩])
  (.seq (.region false [] [
     ⟨(some 13), none, (.mov (.v (.int .i64 65)))⟩])
  (.seq (.seq (.region false [] [
     ⟨(some 30), none, (.mov (.t 3))⟩])
  (.cond (.t 30)
    (.region false [] [
       ⟨(some 31), none, (.mov (.t 1))⟩,
       ⟨(some 32), none, (.un .neg (.t 31))⟩,
       ⟨(some 1), none, (.mov (.t 32))⟩])
    .skip))
  (.seq (.seq (.region false [] [
     ⟨(some 33), none, (.mov (.t 2))⟩,
     ⟨(some 34), none, (.call 66 [(.t 33)])⟩])
  (.cond (.t 34)
    (.seq (.region false [] [
       ⟨(some 35), none, (.mov (.t 2))⟩,
       ⟨(some 36), none, (.itoi .u64 (.t 35))⟩,
       ⟨(some 37), none, (.call 67 [(.t 36)])⟩,
       ⟨(some 38), none, (.itoi .u64 (.t 37))⟩,
       ⟨(some 14), none, (.mov (.t 38))⟩])
    (.seq (.region false [] [
       ⟨(some 39), none, (.mov (.t 2))⟩,
       ⟨(some 40), none, (.itoi .u64 (.t 39))⟩,
       ⟨(some 15), none, (.mov (.t 40))⟩])
    (.seq (.region false [] [
       ⟨(some 41), none, (.mov (.t 2))⟩,
       ⟨(some 42), none, (.itoi .u64 (.t 41))⟩,
       ⟨(some 43), none, (.bin .sub 87 (.t 42) (.v (.int .u64 1)))⟩,
       ⟨(some 16), none, (.mov (.t 43))⟩])
    (.seq (.block 0 (.loop (.seq (.seq (.region false [] [
         ⟨(some 44), none, (.mov (.t 1))⟩,
         ⟨(some 45), none, (.mov (.t 15))⟩,
         ⟨(some 46), none, (.bin .geq 42 (.t 44) (.t 45))⟩])
      (.cond (.t 46)
        .skip
        (.exit 0)))
      (.block 1 (.seq (.region false [] [
          ⟨(some 47), none, (.mov (.t 13))⟩,
          ⟨(some 48), none, (.bin .sub 3 (.t 47) (.v (.int .i64 1)))⟩,
          ⟨(some 13), none, (.mov (.t 48))⟩])
       (.seq (.region false [] [
          ⟨(some 49), none, (.mov (.t 13))⟩,
          ⟨(some 50), none, (.mov (.t 1))⟩,
          ⟨(some 51), none, (.mov (.t 16))⟩,
          ⟨(some 52), none, (.bin .and 87 (.t 50) (.t 51))⟩,
          ⟨(some 53), none, (.sidx (.v (.string ⟨#[48, 49, 50, 51, 52, 53, 54, 55, 56, 57, 97, 98, 99, 100, 101, 102, 103, 104, 105, 106, 107, 108, 109, 110, 111, 112, 113, 114, 115, 116, 117, 118, 119, 120, 121, 122]⟩)) (.t 52))⟩,
          ⟨(some 54), none, (.idxa 65 1 (.t 12) (.t 49))⟩,
          ⟨none, none, (.store 1 (.t 54) (.t 53))⟩])
       (.region false [] [
          ⟨(some 55), none, (.mov (.t 1))⟩,
          ⟨(some 56), none, (.mov (.t 14))⟩,
          ⟨(some 57), none, (.bin .shr 42 (.t 55) (.t 56))⟩,
          ⟨(some 1), none, (.mov (.t 57))⟩])))))))
    (.seq (.region false [] [
       ⟨(some 58), none, (.mov (.t 13))⟩,
       ⟨(some 59), none, (.bin .sub 3 (.t 58) (.v (.int .i64 1)))⟩,
       ⟨(some 13), none, (.mov (.t 59))⟩])
    (.region false [] [
       ⟨(some 60), none, (.mov (.t 13))⟩,
       ⟨(some 61), none, (.mov (.t 1))⟩,
       ⟨(some 62), none, (.sidx (.v (.string ⟨#[48, 49, 50, 51, 52, 53, 54, 55, 56, 57, 97, 98, 99, 100, 101, 102, 103, 104, 105, 106, 107, 108, 109, 110, 111, 112, 113, 114, 115, 116, 117, 118, 119, 120, 121, 122]⟩)) (.t 61))⟩,
       ⟨(some 63), none, (.idxa 65 1 (.t 12) (.t 60))⟩,
       ⟨none, none, (.store 1 (.t 63) (.t 62))⟩]))))))
    (.seq (.region false [] [
       ⟨(some 64), none, (.mov (.t 2))⟩,
       ⟨(some 65), none, (.itoi .u64 (.t 64))⟩,
       ⟨(some 17), none, (.mov (.t 65))⟩])
    (.seq (.block 2 (.loop (.seq (.seq (.region false [] [
         ⟨(some 66), none, (.mov (.t 1))⟩,
         ⟨(some 67), none, (.mov (.t 17))⟩,
         ⟨(some 68), none, (.bin .geq 42 (.t 66) (.t 67))⟩])
      (.cond (.t 68)
        .skip
        (.exit 2)))
      (.block 3 (.seq (.region false [] [
          ⟨(some 69), none, (.mov (.t 13))⟩,
          ⟨(some 70), none, (.bin .sub 3 (.t 69) (.v (.int .i64 1)))⟩,
          ⟨(some 13), none, (.mov (.t 70))⟩])
       (.seq (.region false [] [
          ⟨(some 71), none, (.mov (.t 1))⟩,
          ⟨(some 72), none, (.mov (.t 17))⟩,
          ⟨(some 73), none, (.bin .quo 42 (.t 71) (.t 72))⟩,
          ⟨(some 18), none, (.mov (.t 73))⟩])
       (.seq (.region false [] [
          ⟨(some 74), none, (.mov (.t 13))⟩,
          ⟨(some 75), none, (.mov (.t 1))⟩,
          ⟨(some 76), none, (.mov (.t 18))⟩,
          ⟨(some 77), none, (.mov (.t 17))⟩,
          ⟨(some 78), none, (.bin .mul 42 (.t 76) (.t 77))⟩,
          ⟨(some 79), none, (.bin .sub 42 (.t 75) (.t 78))⟩,
          ⟨(some 80), none, (.sidx (.v (.string ⟨#[48, 49, 50, 51, 52, 53, 54, 55, 56, 57, 97, 98, 99, 100, 101, 102, 103, 104, 105, 106, 107, 108, 109, 110, 111, 112, 113, 114, 115, 116, 117, 118, 119, 120, 121, 122]⟩)) (.t 79))⟩,
          ⟨(some 81), none, (.idxa 65 1 (.t 12) (.t 74))⟩,
          ⟨none, none, (.store 1 (.t 81) (.t 80))⟩])
       (.region false [] [
          ⟨(some 82), none, (.mov (.t 18))⟩,
          ⟨(some 1), none, (.mov (.t 82))⟩]))))))))
    (.seq (.region false [] [
       ⟨(some 83), none, (.mov (.t 13))⟩,
       ⟨(some 84), none, (.bin .sub 3 (.t 83) (.v (.int .i64 1)))⟩,
       ⟨(some 13), none, (.mov (.t 84))⟩])
    (.region false [] [
       ⟨(some 85), none, (.mov (.t 13))⟩,
       ⟨(some 86), none, (.mov (.t 1))⟩,
       ⟨(some 87), none, (.sidx (.v (.string ⟨#[48, 49, 50, 51, 52, 53, 54, 55, 56, 57, 97, 98, 99, 100, 101, 102, 103, 104, 105, 106, 107, 108, 109, 110, 111, 112, 113, 114, 115, 116, 117, 118, 119, 120, 121, 122]⟩)) (.t 86))⟩,
       ⟨(some 88), none, (.idxa 65 1 (.t 12) (.t 85))⟩,
       ⟨none, none, (.store 1 (.t 88) (.t 87))⟩]))))))
  (.seq (.seq (.region false [] [
     ⟨(some 89), none, (.mov (.t 3))⟩])
  (.cond (.t 89)
    (.seq (.region false [] [
       ⟨(some 90), none, (.mov (.t 13))⟩,
       ⟨(some 91), none, (.bin .sub 3 (.t 90) (.v (.int .i64 1)))⟩,
       ⟨(some 13), none, (.mov (.t 91))⟩])
    (.region false [] [
       ⟨(some 92), none, (.mov (.t 13))⟩,
       ⟨(some 93), none, (.idxa 65 1 (.t 12) (.t 92))⟩,
       ⟨none, none, (.store 1 (.t 93) (.v (.int .u8 45)))⟩]))
    .skip))
  (.seq (.seq (.region false [] [
     ⟨(some 94), none, (.mov (.t 4))⟩])
  (.cond (.t 94)
    (.seq (.region false [] [
       ⟨(some 95), none, (.mov (.t 0))⟩,
       ⟨(some 96), none, (.mov (.t 13))⟩,
       ⟨(some 97), none, (.slcl 65 1 (.t 12) (.t 96))⟩,
       ⟨(some 98), none, (.app 5 1 1 (.int .u8 0) (.t 95) (.t 97))⟩,
       ⟨(some 10), none, (.mov (.t 98))⟩])
    .ret)
    .skip))
  (.seq (.region false [] [
     ⟨(some 99), none, (.mov (.t 13))⟩,
     ⟨(some 100), none, (.slcl 65 1 (.t 12) (.t 99))⟩,
     ⟨(some 101), none, (.bts (.t 100))⟩,
     ⟨(some 11), none, (.mov (.t 101))⟩])
  .ret)))))))))
theorem k53 : FnIs Tryd.prog 53 102 [.t 10, .t 11] a53 := ⟨_, _, Tryd.func53, rfl, by kernel_rfl, by kernel_rfl, rfl⟩
/- internal/strconv.FormatUint -/
def a42 : ACode :=
  (.seq (.region false [] [
     ⟨(some 4), none, (.mov (.v (.string ⟨#[]⟩)))⟩])
  (.seq (.seq (.region false [] [
     ⟨(some 9), none, (.mov (.t 1))⟩,
     ⟨(some 10), none, (.bin .eql 3 (.t 9) (.v (.int .i64 10)))⟩])
  (.cond (.t 10)
    (.seq (.seq (.region false [] [
       ⟨(some 11), none, (.mov (.t 0))⟩,
       ⟨(some 12), none, (.bin .lss 42 (.t 11) (.v (.int .u64 100)))⟩])
    (.cond (.t 12)
      (.seq (.region false [] [
         ⟨(some 13), none, (.mov (.t 0))⟩,
         ⟨(some 14), none, (.itoi .i64 (.t 13))⟩,
         ⟨(some 15), none, (.call 50 [(.t 14)])⟩,
         ⟨(some 4), none, (.mov (.t 15))⟩])
      .ret)
      .skip))
    (.seq (.region false [] [
       ⟨(some 5), none, (.alloc 80 (.agg #[(.int .u8 0), (.int .u8 0), (.int .u8 0), (.int .u8 0), (.int .u8 0), (.int .u8 0), (.int .u8 0), (.int .u8 0), (.int .u8 0), (.int .u8 0), (.int .u8 0), (.int .u8 0), (.int .u8 0), (.int .u8 0), (.int .u8 0), (.int .u8 0), (.int .u8 0), (.int .u8 0), (.int .u8 0), (.int .u8 0), (.int .u8 0), (.int .u8 0), (.int .u8 0), (.int .u8 0)]))⟩])
    (.seq (.region false [] [
       ⟨(some 16), none, (.mov (.t 0))⟩,
       ⟨(some 17), none, (.call 51 [(.t 16)])⟩,
       ⟨(some 6), none, (.mov (.t 17))⟩])
    (.seq (.region false [] [
       ⟨(some 18), none, (.mov (.t 6))⟩,
       ⟨(some 19), none, (.bad none [])⟩,
       ⟨(some 20), none, (.mov (.t 0))⟩,
       ⟨(some 21), none, (.call 52 [(.t 19), (.t 20)])⟩])
    (.seq (.region false [] [
       ⟨(some 22), none, (.mov (.t 6))⟩,
       ⟨(some 23), none, (.bad none [])⟩,
       ⟨(some 24), none, (.bts (.t 23))⟩,
       ⟨(some 4), none, (.mov (.t 24))⟩])
    .ret)))))
    .skip))
  (.seq (.region false [] [
     ⟨(some 26), none, (.mov (.t 0))⟩,
     ⟨(some 27), none, (.mov (.t 1))⟩,
     ⟨(some 28), none, (.call 53 [(.v (.slice none 0 0)), (.t 26), (.t 27), (.v (.bool false)), (.v (.bool false))])⟩,
     ⟨(some 25), none, (.mov (.t 28))⟩,
     ⟨(some 29), none, (.ext 0 (.t 25))⟩,
     ⟨(some 30), none, (.ext 1 (.t 25))⟩,
     ⟨(some 7), none, (.mov (.t 29))⟩,
     ⟨(some 8), none, (.mov (.t 30))⟩])
  (.seq (.region false [] [
     ⟨(some 31), none, (.mov (.t 8))⟩,
     ⟨(some 4), none, (.mov (.t 31))⟩])
  .ret))))
theorem k42 : FnIs Tryd.prog 42 32 [.t 4] a42 := ⟨_, _, Tryd.func42, rfl, by kernel_rfl, by kernel_rfl, rfl⟩
/- strconv.FormatUint -/
def a29 : ACode :=
  (.seq (.region false [] [
     ⟨(some 4), none, (.mov (.v (.string ⟨#[]⟩)))⟩])
  (.seq (.region false [] [
     ⟨(some 5), none, (.mov (.t 0))⟩,
     ⟨(some 6), none, (.mov (.t 1))⟩,
     ⟨(some 7), none, (.call 42 [(.t 5), (.t 6)])⟩,
     ⟨(some 4), none, (.mov (.t 7))⟩])
  .ret))
theorem k29 : FnIs Tryd.prog 29 8 [.t 4] a29 := ⟨_, _, Tryd.func29, rfl, by kernel_rfl, by kernel_rfl, rfl⟩

def renT : Go.Shelf.Ren := ⟨fun f => if f = 27 then 67 else if f = 28 then 84 else if f = 29 then 85 else f, fun t => if t = 0 then 0 else if t = 3 then 3 else if t = 4 then 4 else if t = 5 then 5 else if t = 22 then 42 else if t = 25 then 87 else if t = 27 then 72 else if t = 53 then 120 else if t = 54 then 121 else t, fun g => if g = 0 then 4 else if g = 1 then 5 else g⟩
set_option maxRecDepth 100000 in
theorem laysT : Go.Proofs.Lays7.n27 Tryd.prog renT := by
  constructor
  all_goals first
    | kernel_rfl
    | (intro w; rfl)
    | (intro w; exact Go.RowKit.run_isAgg_plain (by kernel_rfl) rfl)
/-- The table of De Bruijn. -/
def debT : Nat × Array Value := (5, (Lib.deBruijn64tab.map fun (z : Nat) => Value.int .u8 (z : Int)).toArray)
theorem deb_at {w : World} (h : ∃ t m, w.heap[debT.1]? = some (.cells debT.2 t m)) : Go.Proofs.TabAt 5 Lib.deBruijn64tab w := fun j hj => by
  obtain ⟨t, m, h⟩ := h
  have h2 : (debT.2)[j]? = some (.int .u8 (Lib.deBruijn64tab.getD j 0 : Nat)) := by
    unfold debT
    rw [List.getElem?_toArray, List.getElem?_map, List.getElem?_eq_getElem hj, List.getD_eq_getElem?_getD, List.getElem?_eq_getElem hj]
    rfl
  have h3 := cell_of0 (w := w) (b := 5) (o := j) h
  rw [h3]; exact h2
theorem s67 {Γ : List (Nat × Array Value)} (hΓ : debT ∈ Γ) : Aw.SpecG Γ Tryd.prog 67 [] [.val (.int .u64 16)] (Gives (· = I 4)) :=
  SpecG.ofBelow (vs := [.int .u64 16]) (v := .int .i64 4) fun w hg => (Any7.bits_TrailingZeros laysT 16 (by decide) w fun _ => deb_at (hg _ hΓ)).mono fun e w' ⟨h1, h2⟩ => ⟨h1, by rw [h2]; exact Go.RowKit.Below.refl _ _⟩
theorem s66 : Aw.Spec Tryd.prog 66 [] [I 16] (Gives (· = B true)) := by
  refine Aw.Spec.givesD k66 mixed rfl rfl rfl fun E hn hnp hp => ?_
  unfold a66
  simp (config := { maxSteps := 2000000 }) only [go_sem, ↓reduceIte, Int.reduceToNat, Nat.reduceMul, Int.reduceBEq, Int.reduceBNe, Nat.reduceBEq, Nat.reduceAdd, Nat.reduceSub, Nat.reduceLeDiff, Nat.reduceEqDiff, Nat.reduceLT, reduceCtorEq]
  rfl
/-- Digits. -/
def hexS : List UInt8 := [48, 49, 50, 51, 52, 53, 54, 55, 56, 57, 97, 98, 99, 100, 101, 102, 103, 104, 105, 106, 107, 108, 109, 110, 111, 112, 113, 114, 115, 116, 117, 118, 119, 120, 121, 122]
def hx (n : Nat) : UInt8 := hexS.getD n 0
theorem hx_eq (n : Nat) : ([48, 49, 50, 51, 52, 53, 54, 55, 56, 57, 97, 98, 99, 100, 101, 102, 103, 104, 105, 106, 107, 108, 109, 110, 111, 112, 113, 114, 115, 116, 117, 118, 119, 120, 121, 122] : List UInt8).getD n 0 = hx n := rfl
theorem and15 {u : Nat} (h : u < 18446744073709551616) : IntKind.u64.wrap ((BitVec.ofInt 64 (u : Int) &&& BitVec.ofInt 64 15).toNat : Int) = ((u % 16 : Nat) : Int) := by
  have e : (BitVec.ofInt 64 (u : Int) &&& BitVec.ofInt 64 15).toNat = u % 16 := by
    rw [BitVec.toNat_and]
    have h1 : (BitVec.ofInt 64 (u : Int)).toNat = u := by
      rw [BitVec.toNat_ofInt]
      omega
    have h2 : (BitVec.ofInt 64 15).toNat = 15 := by decide
    rw [h1, h2]
    exact Nat.and_two_pow_sub_one_eq_mod u 4
  rw [e, IntKind.wrap_u64]
  omega
theorem and15' {u : Nat} (h : u < 18446744073709551616) : IntKind.u64.wrap ((@BitVec.toNat IntKind.u64.bits (@HAnd.hAnd (BitVec IntKind.u64.bits) (BitVec IntKind.u64.bits) (BitVec IntKind.u64.bits) instHAndOfAndOp (BitVec.ofInt 64 (u : Int)) (BitVec.ofInt 64 15)) : Nat) : Int) = ((u % 16 : Nat) : Int) := and15 h
theorem shr4 (u : Nat) : ((u : Nat) : Int).fdiv (2 ^ min 4 64) = ((u / 16 : Nat) : Int) := by
  rw [show (2 : Int) ^ (min 4 64) = 16 by decide, Int.fdiv_eq_ediv_of_nonneg _ (by decide)]
  omega
/-- A number in base 16, at most k + 1 digits. -/
def hexF : Nat → Nat → List UInt8
  | 0, u => [hx (u % 16)]
  | k + 1, u => if u < 16 then [hx (u % 16)] else hexF k (u / 16) ++ [hx (u % 16)]
def hexT (u : Nat) : List UInt8 := hexF 15 u
abbrev u8 (n : Int) : AV := .val (.int .u8 n)
abbrev ub (c : UInt8) : AV := u8 c.toNat
/-- The array, its places from i on written. -/
def hexC (i : Nat) (L : List UInt8) : List AV := List.replicate i (u8 0) ++ L.map ub
theorem hexC_len (i : Nat) (L : List UInt8) : (hexC i L).length = i + L.length := by unfold hexC; rw [List.length_append, List.length_replicate, List.length_map]
theorem hexC_set (i : Nat) (L : List UInt8) (c : UInt8) : (hexC (i + 1) L).set i (ub c) = hexC i (c :: L) := by
  unfold hexC
  rw [List.replicate_succ', List.append_assoc, List.set_append_right _ _ (by rw [List.length_replicate]; exact Nat.le_refl _), List.length_replicate, Nat.sub_self]
  rfl
theorem hexC_put (i : Nat) (L : List UInt8) (c : UInt8) : List.take (i * 1) (hexC (i + 1) L) ++ AV.val (.int .u8 c.toNat) :: List.drop (i * 1 + 1) (hexC (i + 1) L) = hexC i (c :: L) := by
  unfold hexC
  rw [Nat.mul_one, List.drop_left' (List.length_replicate), List.take_append_of_le_length (by rw [List.length_replicate]; omega), List.take_replicate, show min i (i + 1) = i by omega]
  rfl
theorem hexC_drop (i : Nat) (L : List UInt8) : (hexC i L).drop i = L.map ub := by
  unfold hexC
  rw [List.drop_left' (List.length_replicate)]
theorem shutAll_rep (n : Nat) (x : AV) (h : x.shut = true) : shutAll (List.replicate n x) = true := by
  induction n with
  | zero => rfl
  | succ n ih => rw [List.replicate_succ, shutAll, h, ih]; rfl
theorem shutAll_ub (l : List UInt8) : shutAll (l.map ub) = true := by
  induction l with
  | nil => rfl
  | cons c l ih => rw [List.map_cons, shutAll, ih]; rfl
theorem renL_val (π : List Nat) : ∀ (xs : List AV), (∀ x ∈ xs, ∃ v, x = .val v) → renL π xs = xs
  | [], _ => rfl
  | x :: xs, h => by
    obtain ⟨v, rfl⟩ := h x List.mem_cons_self
    rw [renL, renL_val π xs fun y hy => h y (List.mem_cons_of_mem _ hy), renA]
theorem hexC_ren (π : List Nat) (i : Nat) (L : List UInt8) : renL π (hexC i L) = hexC i L := renL_val π _ fun x hx => by
  unfold hexC at hx
  rcases List.mem_append.1 hx with h | h
  · exact ⟨_, (List.mem_replicate.1 h).2⟩
  · obtain ⟨c, _, rfl⟩ := List.mem_map.1 h
    exact ⟨_, rfl⟩
theorem hexF_low {k u : Nat} (h : u < 16) : hexF k u = [hx u] := by
  cases k with
  | zero => rw [hexF, Nat.mod_eq_of_lt h]
  | succ k => rw [hexF, if_pos h, Nat.mod_eq_of_lt h]
set_option maxRecDepth 20000 in
theorem s53 {Γ : List (Nat × Array Value)} (hΓ : debT ∈ Γ) (d : Nat) (hd : d < 18446744073709551616) : Aw.SpecG Γ Tryd.prog 53 [] [.val (.slice none 0 0), .val (.int .u64 d), I 16, B false, B false] (fun rg v => rg = [] ∧ v = .tup [.val (.slice none 0 0), S ⟨(hexT d).toArray⟩]) := by
  refine SpecG.shut (Post := fun rg v => v = .tup [.val (.slice none 0 0), S ⟨(hexT d).toArray⟩]) ?_ fun rg v h => by subst h; exact ⟨rfl, rfl, rfl⟩
  refine Aw.SpecG.regsW k53 rfl rfl fun E hn hnp hp hT => ?_
  unfold a53
  have pin : ∀ r, E.pin r = none := fun r => hp.none hnp (Nat.zero_le _)
  refine AWp.ofD [] [] hn mixed rfl ?_
  have b1 : decide ((16 : Int) < 2) = false := rfl
  have b2 : decide ((16 : Int) > 36) = false := rfl
  simp (config := { maxSteps := 2000000 }) only [go_sem, ↓reduceIte, Int.reduceToNat, Nat.reduceMul, Int.reduceBEq, Int.reduceBNe, Nat.reduceBEq, Nat.reduceAdd, Nat.reduceSub, Nat.reduceLeDiff, Nat.reduceEqDiff, Nat.reduceLT, reduceCtorEq, b1, b2, Bool.or_false]
  (refine AWpL.calle (s66) rfl (by rw [hn]; rfl) (by simp (config := { maxSteps := 2000000 }) only [go_sem, ↓reduceIte, Int.reduceToNat, Nat.reduceMul, Int.reduceBEq, Int.reduceBNe, Nat.reduceBEq, Nat.reduceAdd, Nat.reduceSub, Nat.reduceLeDiff, Nat.reduceEqDiff, Nat.reduceLT, reduceCtorEq]) (AWpL.ofM hn rfl ?_); simp (config := { maxSteps := 2000000 }) only [go_sem, ↓reduceIte, Int.reduceToNat, Nat.reduceMul, Int.reduceBEq, Int.reduceBNe, Nat.reduceBEq, Nat.reduceAdd, Nat.reduceSub, Nat.reduceLeDiff, Nat.reduceEqDiff, Nat.reduceLT, reduceCtorEq])
  (refine AWpL.calleT (SpecG.at (s67 hΓ) hT) rfl (by rw [hn]; rfl) (by simp (config := { maxSteps := 2000000 }) only [go_sem, ↓reduceIte, Int.reduceToNat, Nat.reduceMul, Int.reduceBEq, Int.reduceBNe, Nat.reduceBEq, Nat.reduceAdd, Nat.reduceSub, Nat.reduceLeDiff, Nat.reduceEqDiff, Nat.reduceLT, reduceCtorEq]) (AWpL.ofM hn rfl ?_); simp (config := { maxSteps := 2000000 }) only [go_sem, ↓reduceIte, Int.reduceToNat, Nat.reduceMul, Int.reduceBEq, Int.reduceBNe, Nat.reduceBEq, Nat.reduceAdd, Nat.reduceSub, Nat.reduceLeDiff, Nat.reduceEqDiff, Nat.reduceLT, reduceCtorEq])
  have c1 : IntKind.u64.wrap 4 = 4 := by decide
  have c2 : IntKind.u64.wrap 16 = 16 := by decide
  have c3 : IntKind.u64.wrap (16 - 1) = 15 := by decide
  refine AWp.loop (fun k s => ∃ (i u : Nat) (L : List UInt8), i + L.length = 65 ∧ L.length + k = 15 ∧ u < 16 ^ (k + 1) ∧ u < 18446744073709551616 ∧ hexT d = hexF k u ++ L ∧
      Weak E s ⟨[(1, .val (.int .u64 u)), (3, B false), (4, B false), (10, .val (.slice none 0 0)), (12, .ptr 0 0 0), (13, I i), (14, .val (.int .u64 4)), (15, .val (.int .u64 16)), (16, .val (.int .u64 15))], [.box 92 (hexC i L)]⟩) (n := 15)
    ⟨65, d, [], rfl, rfl, by omega, hd, by rw [List.append_nil]; rfl, weak_to [0] hp hnp rfl (by simp (config := { maxSteps := 2000000 }) only [go_sem, ↓reduceIte, Int.reduceToNat, Nat.reduceMul, Int.reduceBEq, Int.reduceBNe, Nat.reduceBEq, Nat.reduceAdd, Nat.reduceSub, Nat.reduceLeDiff, Nat.reduceEqDiff, Nat.reduceLT, reduceCtorEq, Aw.pos, c1, c2, c3] <;> rfl) (by simp (config := { maxSteps := 2000000 }) only [go_sem, ↓reduceIte, Int.reduceToNat, Nat.reduceMul, Int.reduceBEq, Int.reduceBNe, Nat.reduceBEq, Nat.reduceAdd, Nat.reduceSub, Nat.reduceLeDiff, Nat.reduceEqDiff, Nat.reduceLT, reduceCtorEq, Aw.renR, Aw.pos] <;> rfl)⟩ ?_
  rintro k s ⟨i, u, L, h1, h2, h3, h4, h5, hw⟩
  refine AWp.weak hw (AWp.ofD [] [] hn mixed rfl ?_)
  obtain ⟨i, rfl⟩ : ∃ j, i = j + 1 := ⟨i - 1, by omega⟩
  have d1 : IntKind.i64.wrap (((i + 1 : Nat) : Int) - 1) = i := by rw [w64 (by omega) (by omega)]; omega
  have hcl := hexC_len (i + 1) L
  have hp1 := fun c => hexC_put i L c
  rcases Nat.lt_or_ge u 16 with hlt | hge
  · have d0 : decide ((u : Int) ≥ 16) = false := decide_eq_false (by omega)
    have hf : hexT d = hx u :: L := by rw [h5, hexF_low hlt]; rfl
    simp (config := { maxSteps := 2000000 }) only [go_sem, ↓reduceIte, Int.reduceToNat, Nat.reduceMul, Int.reduceBEq, Int.reduceBNe, Nat.reduceBEq, Nat.reduceAdd, Nat.reduceSub, Nat.reduceLeDiff, Nat.reduceEqDiff, Nat.reduceLT, reduceCtorEq, d0, d1, hx_eq, hp1]
    refine ⟨⟨by omega, ?_⟩, ⟨by omega, by omega⟩, by omega, ?_⟩
    · show (u : Int) < 36
      omega
    refine AWpL.slcl (r := 0) (e := 92) (cs := hexC i (hx u :: L)) (k0 := i) rfl rfl (by omega) rfl (by rw [hexC_len, List.length_cons]; omega) ?_ (pin 0) (by rw [hn]; rfl) (AWpL.ofM hn rfl ?_)
    · unfold hexC
      rw [shutAll_append (shutAll_rep _ _ rfl) (shutAll_ub _)]
    have hmm : (L.map ub).map (fun c => [c]) = L.map fun c => [ub c] := by rw [List.map_map]; rfl
    rw [hexC_drop]
    simp (config := { maxSteps := 2000000 }) only [go_sem, ↓reduceIte, Int.reduceToNat, Nat.reduceMul, Int.reduceBEq, Int.reduceBNe, Nat.reduceBEq, Nat.reduceAdd, Nat.reduceSub, Nat.reduceLeDiff, Nat.reduceEqDiff, Nat.reduceLT, reduceCtorEq, hmm]
    refine AWpL.bts (hx u :: L) rfl rfl (by rw [hn]; rfl) trivial (AWpL.ofM hn rfl ?_)
    rw [← hf]
    simp (config := { maxSteps := 2000000 }) only [go_sem, ↓reduceIte, Int.reduceToNat, Nat.reduceMul, Int.reduceBEq, Int.reduceBNe, Nat.reduceBEq, Nat.reduceAdd, Nat.reduceSub, Nat.reduceLeDiff, Nat.reduceEqDiff, Nat.reduceLT, reduceCtorEq]
    refine Retn.ret (π := []) hp hnp ⟨rfl, ?_⟩
    simp (config := { maxSteps := 2000000 }) only [go_sem, ↓reduceIte, Int.reduceToNat, Nat.reduceMul, Int.reduceBEq, Int.reduceBNe, Nat.reduceBEq, Nat.reduceAdd, Nat.reduceSub, Nat.reduceLeDiff, Nat.reduceEqDiff, Nat.reduceLT, reduceCtorEq, Aw.renR, Aw.pos]
  · have d0 : decide ((u : Int) ≥ 16) = true := decide_eq_true (by omega)
    have a1 := and15' h4
    have a2 := shr4 u
    obtain ⟨k, rfl⟩ : ∃ j, k = j + 1 := by
      cases k with
      | zero => omega
      | succ j => exact ⟨j, rfl⟩
    have hf : hexT d = hexF k (u / 16) ++ hx (u % 16) :: L := by
      rw [h5, hexF, if_neg (by omega), List.append_assoc]; rfl
    simp (config := { maxSteps := 2000000 }) only [go_sem, ↓reduceIte, Int.reduceToNat, Nat.reduceMul, Int.reduceBEq, Int.reduceBNe, Nat.reduceBEq, Nat.reduceAdd, Nat.reduceSub, Nat.reduceLeDiff, Nat.reduceEqDiff, Nat.reduceLT, reduceCtorEq, d0, d1, a2, hx_eq, hp1]
    erw [a1]
    refine ⟨?_, ⟨by omega, by omega⟩, by omega, by decide, k, by omega, i, u / 16, hx (u % 16) :: L, by rw [List.length_cons]; omega, by rw [List.length_cons]; omega, ?_, by omega, hf, weak_to [0] hp hnp rfl (by simp (config := { maxSteps := 2000000 }) only [go_sem, ↓reduceIte, Int.reduceToNat, Nat.reduceMul, Int.reduceBEq, Int.reduceBNe, Nat.reduceBEq, Nat.reduceAdd, Nat.reduceSub, Nat.reduceLeDiff, Nat.reduceEqDiff, Nat.reduceLT, reduceCtorEq, Aw.pos] <;> rfl) (by simp (config := { maxSteps := 2000000 }) only [go_sem, ↓reduceIte, Int.reduceToNat, Nat.reduceMul, Int.reduceBEq, Int.reduceBNe, Nat.reduceBEq, Nat.reduceAdd, Nat.reduceSub, Nat.reduceLeDiff, Nat.reduceEqDiff, Nat.reduceLT, reduceCtorEq, Aw.renR, Aw.pos, hexC_ren])⟩
    · show ((u % 16 : Nat) : Int) < 36
      omega
    · rw [Nat.pow_succ] at h3
      exact Nat.div_lt_of_lt_mul (by rw [Nat.mul_comm]; exact h3)
set_option maxRecDepth 20000 in
theorem s42 {Γ : List (Nat × Array Value)} (hΓ : debT ∈ Γ) (d : Nat) (hd : d < 18446744073709551616) : Aw.SpecG Γ Tryd.prog 42 [] [.val (.int .u64 d), I 16] (Gives (· = S ⟨(hexT d).toArray⟩)) := by
  refine SpecG.shut (Post := fun rg v => v = S ⟨(hexT d).toArray⟩) ?_ fun rg v h => by subst h; exact ⟨rfl, rfl, rfl⟩
  refine Aw.SpecG.regsW k42 rfl rfl fun E hn hnp hp hT => ?_
  unfold a42
  have pin : ∀ r, E.pin r = none := fun r => hp.none hnp (Nat.zero_le _)
  refine AWp.ofD [] [] hn mixed rfl ?_
  have b1 : ((16 : Int) == 10) = false := rfl
  simp (config := { maxSteps := 2000000 }) only [go_sem, ↓reduceIte, Int.reduceToNat, Nat.reduceMul, Int.reduceBEq, Int.reduceBNe, Nat.reduceBEq, Nat.reduceAdd, Nat.reduceSub, Nat.reduceLeDiff, Nat.reduceEqDiff, Nat.reduceLT, reduceCtorEq, b1]
  (refine AWpL.calleT (SpecG.at (s53 hΓ d hd) hT) rfl (by rw [hn]; rfl) (by simp (config := { maxSteps := 2000000 }) only [go_sem, ↓reduceIte, Int.reduceToNat, Nat.reduceMul, Int.reduceBEq, Int.reduceBNe, Nat.reduceBEq, Nat.reduceAdd, Nat.reduceSub, Nat.reduceLeDiff, Nat.reduceEqDiff, Nat.reduceLT, reduceCtorEq]) (AWpL.ofM hn rfl ?_); simp (config := { maxSteps := 2000000 }) only [go_sem, ↓reduceIte, Int.reduceToNat, Nat.reduceMul, Int.reduceBEq, Int.reduceBNe, Nat.reduceBEq, Nat.reduceAdd, Nat.reduceSub, Nat.reduceLeDiff, Nat.reduceEqDiff, Nat.reduceLT, reduceCtorEq])
  refine Retn.ret (π := []) hp hnp ⟨rfl, ?_⟩
  simp (config := { maxSteps := 2000000 }) only [go_sem, ↓reduceIte, Int.reduceToNat, Nat.reduceMul, Int.reduceBEq, Int.reduceBNe, Nat.reduceBEq, Nat.reduceAdd, Nat.reduceSub, Nat.reduceLeDiff, Nat.reduceEqDiff, Nat.reduceLT, reduceCtorEq, Aw.renR, Aw.pos]
theorem s29 {Γ : List (Nat × Array Value)} (hΓ : debT ∈ Γ) (d : Nat) (hd : d < 18446744073709551616) : Aw.SpecG Γ Tryd.prog 29 [] [.val (.int .u64 d), I 16] (Gives (· = S ⟨(hexT d).toArray⟩)) := by
  refine SpecG.shut (Post := fun rg v => v = S ⟨(hexT d).toArray⟩) ?_ fun rg v h => by subst h; exact ⟨rfl, rfl, rfl⟩
  refine Aw.SpecG.regsW k29 rfl rfl fun E hn hnp hp hT => ?_
  unfold a29
  refine AWp.ofD [] [] hn mixed rfl ?_
  simp (config := { maxSteps := 2000000 }) only [go_sem, ↓reduceIte, Int.reduceToNat, Nat.reduceMul, Int.reduceBEq, Int.reduceBNe, Nat.reduceBEq, Nat.reduceAdd, Nat.reduceSub, Nat.reduceLeDiff, Nat.reduceEqDiff, Nat.reduceLT, reduceCtorEq]
  (refine AWpL.calleT (SpecG.at (s42 hΓ d hd) hT) rfl (by rw [hn]; rfl) (by simp (config := { maxSteps := 2000000 }) only [go_sem, ↓reduceIte, Int.reduceToNat, Nat.reduceMul, Int.reduceBEq, Int.reduceBNe, Nat.reduceBEq, Nat.reduceAdd, Nat.reduceSub, Nat.reduceLeDiff, Nat.reduceEqDiff, Nat.reduceLT, reduceCtorEq]) (AWpL.ofM hn rfl ?_); simp (config := { maxSteps := 2000000 }) only [go_sem, ↓reduceIte, Int.reduceToNat, Nat.reduceMul, Int.reduceBEq, Int.reduceBNe, Nat.reduceBEq, Nat.reduceAdd, Nat.reduceSub, Nat.reduceLeDiff, Nat.reduceEqDiff, Nat.reduceLT, reduceCtorEq])
  refine Retn.ret (π := []) hp hnp ⟨rfl, ?_⟩
  simp (config := { maxSteps := 2000000 }) only [go_sem, ↓reduceIte, Int.reduceToNat, Nat.reduceMul, Int.reduceBEq, Int.reduceBNe, Nat.reduceBEq, Nat.reduceAdd, Nat.reduceSub, Nat.reduceLeDiff, Nat.reduceEqDiff, Nat.reduceLT, reduceCtorEq, Aw.renR, Aw.pos]
end Go.Proofs.YtemgclhenkbikaaDoor
