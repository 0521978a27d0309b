/- Upkeep: what same, allowed and cost compute. -/
import Derived.Test.YtncfffplnmlnfaaAwZf
import Derived.Test.YtncfffplnmlnfaaUpA
set_option linter.unusedVariables false
set_option linter.unusedSimpArgs false
namespace Go.Proofs.Ytncfffplnmlnfaa
open Go.Proofs.Ytncfffplnmlnfaa.Aw
attribute [local go_sem] Int.natCast_zero Int.natCast_one bne_self_eq_false beq_self_eq_true Bool.not_true Bool.not_false Option.isSome_none Option.isSome_some Aw.bkM_nil Option.getD_some Option.getD_none Nat.sub_zero Int.toNat_zero Aw.frzS Aw.frzT Aw.frzA Aw.frzL Aw.frzR Aw.frzO Aw.frzOL Aw.frzOT Aw.frzOR Aw.killS Aw.mapT Aw.mapR Aw.killM Aw.resAVs Aw.resAV Aw.quietOps Aw.wpP Aw.wpT Aw.wpS Aw.AOp.mild List.getElem?_cons_zero List.getElem?_cons_succ Bool.and_false Bool.and_self Bool.false_and Aw.opOb Aw.gdB Aw.Rnd Aw.subTm List.length_map Int.toNat_natCast and_self Aw.SeqC Aw.stops Aw.Ends Aw.looks Aw.renA Aw.renL Aw.renT Aw.renS Aw.wpO Aw.aop Aw.putTm Aw.St.ev Aw.St.put Aw.St.putO Aw.binAV Aw.intBin Aw.strBin Aw.pickAV Aw.optInt Aw.AV.strip Aw.AV.guard Aw.AV.cells Aw.gdOb Aw.AOp.opds Aw.AOp.still Aw.ptrCells Aw.St.reg Aw.fillAV Aw.fillOb Aw.elsOb Aw.splice Aw.firm Aw.cellish Aw.AV.shut Aw.shutAll Aw.Seq Aw.Blk Aw.retS_nil Aw.mapA Aw.mapL Aw.borA Aw.borOb Aw.allOb Aw.tupOf Aw.params Aw.Opd.of Array.toList Value.cells List.map_cons List.map_nil List.getD_cons_zero List.getD_cons_succ List.getD_nil List.length_cons List.length_nil List.take_succ_cons List.take_zero List.take_nil List.drop_zero List.drop_succ_cons List.drop_nil List.set_cons_zero List.set_cons_succ List.append_nil List.nil_append List.cons_append List.all_cons List.all_nil cond_false cond_true if_true if_false true_and and_true Bool.and_true Bool.true_and Option.map_some Option.map_none false_implies forall_const implies_true forall_eq imp_self Bool.cond_false_right Bool.cond_true_left beq_true beq_false Bool.not_eq_true' Bool.false_eq_true Nat.zero_add Nat.add_zero Aw.eqCells Aw.exactCap Aw.overEls Aw.revealS Aw.srcEls Aw.srcSz
attribute [local go_sem ↓] Aw.look_nil Aw.look_ite Aw.wpL_nil Aw.wpL_op Aw.wpL_gd Aw.wpQ_nil Aw.wpQ_op Aw.wpQ_gd Aw.wpC_draw Aw.wpC_reg Aw.wpC_skip Aw.wpC_ret Aw.wpC_exit Aw.wpC_seq Aw.wpC_block Aw.wpC_loop Aw.wpC_cond Aw.stopAt_nil Aw.stopAt_cons Aw.wpD_skip Aw.wpD_ret Aw.wpD_exit Aw.wpD_region Aw.wpD_draw Aw.wpM_nil Aw.wpM_op Aw.wpM_gd Aw.wpD_seq Aw.wpD_block Aw.wpD_loop Aw.wpD_cond
/- gridhall/upkeep.same -/
def a21 : ACode :=
  (.seq (.region false [] [
     ⟨(some 4), none, (.box 25 (.t 0))⟩,
     ⟨(some 8), none, (.mov (.v (.bool false)))⟩])
  (.seq (.region true [[], [], [0, 1], [2], [], [], [4, 5], [6], [], [8], [], [9, 10], [11], [12], [7, 13], [3, 14], [15], [16], [16], [17, 18, 16], [19, 16], [16], [16], [21, 22, 16], [23, 16], [16], [25, 16], [16], [26, 27, 16], [28, 16], [29, 16], [24, 30, 16], [20, 31, 16], [16, 32], [33, 16, 0, 1, 2, 3, 4, 5, 6, 7, 8, 9, 10, 11, 12, 13, 14, 15, 16, 17, 18, 19, 20, 21, 22, 23, 24, 25, 26, 27, 28, 29, 30, 31, 32, 33]] [
     ⟨(some 9), none, (.mov (.t 1))⟩,
     ⟨(some 10), none, (.mov (.t 2))⟩,
     ⟨(some 11), none, (.idx 1 (.t 9) (.t 10))⟩,
     ⟨(some 12), none, (.load 1 false (.t 11))⟩,
     ⟨(some 13), none, (.mov (.t 1))⟩,
     ⟨(some 14), none, (.mov (.t 3))⟩,
     ⟨(some 15), none, (.idx 1 (.t 13) (.t 14))⟩,
     ⟨(some 16), none, (.load 1 false (.t 15))⟩,
     ⟨(some 17), none, (.fld 0 (.t 4))⟩,
     ⟨(some 18), none, (.load 1 false (.t 17))⟩,
     ⟨(some 19), none, (.mov (.t 3))⟩,
     ⟨(some 20), none, (.idx 5 (.t 18) (.t 19))⟩,
     ⟨(some 21), none, (.fld 1 (.t 20))⟩,
     ⟨(some 22), none, (.load 1 false (.t 21))⟩,
     ⟨(some 23), none, (.bin .add 3 (.t 16) (.t 22))⟩,
     ⟨(some 24), none, (.bin .lss 3 (.t 12) (.t 23))⟩,
     ⟨(some 25), none, (.mov (.t 24))⟩,
     ⟨(some 26), (some (25, true)), (.mov (.t 1))⟩,
     ⟨(some 27), (some (25, true)), (.mov (.t 3))⟩,
     ⟨(some 28), (some (25, true)), (.idx 1 (.t 26) (.t 27))⟩,
     ⟨(some 29), (some (25, true)), (.load 1 false (.t 28))⟩,
     ⟨(some 30), (some (25, true)), (.mov (.t 1))⟩,
     ⟨(some 31), (some (25, true)), (.mov (.t 2))⟩,
     ⟨(some 32), (some (25, true)), (.idx 1 (.t 30) (.t 31))⟩,
     ⟨(some 33), (some (25, true)), (.load 1 false (.t 32))⟩,
     ⟨(some 34), (some (25, true)), (.fld 0 (.t 4))⟩,
     ⟨(some 35), (some (25, true)), (.load 1 false (.t 34))⟩,
     ⟨(some 36), (some (25, true)), (.mov (.t 2))⟩,
     ⟨(some 37), (some (25, true)), (.idx 5 (.t 35) (.t 36))⟩,
     ⟨(some 38), (some (25, true)), (.fld 1 (.t 37))⟩,
     ⟨(some 39), (some (25, true)), (.load 1 false (.t 38))⟩,
     ⟨(some 40), (some (25, true)), (.bin .add 3 (.t 33) (.t 39))⟩,
     ⟨(some 41), (some (25, true)), (.bin .lss 3 (.t 29) (.t 40))⟩,
     ⟨(some 42), none, (.pick (.t 25) (.t 41) (.v (.bool false)))⟩,
     ⟨(some 8), none, (.mov (.t 42))⟩])
  .ret))
theorem k21 : FnIs Try.prog 21 43 [.t 8] a21 := ⟨_, _, Try.func21, rfl, by kernel_rfl, by kernel_rfl, rfl⟩
/- gridhall/upkeep.allowed -/
def a16 : ACode :=
  (.seq (.region false [] [
     ⟨(some 2), none, (.box 25 (.t 0))⟩,
     ⟨(some 4), none, (.mov (.v (.int .i64 0)))⟩])
  (.seq (.region false [] [
     ⟨(some 12), none, (.mov (.t 1))⟩,
     ⟨(some 13), none, (.len (.t 12))⟩,
     ⟨(some 14), none, (.bin .sub 3 (.t 13) (.v (.int .i64 1)))⟩,
     ⟨(some 5), none, (.mov (.t 14))⟩])
  (.seq (.seq (.region false [] [
     ⟨(some 15), none, (.fld 1 (.t 2))⟩,
     ⟨(some 16), none, (.load 1 false (.t 15))⟩,
     ⟨(some 17), none, (.len (.t 16))⟩,
     ⟨(some 18), none, (.mov (.v (.int .i64 0)))⟩])
  (.block 0 (.loop (.seq (.region false [] [
       ⟨(some 19), none, (.bin .lss 3 (.t 18) (.t 17))⟩])
    (.seq (.cond (.t 19)
      .skip
      (.exit 0))
    (.seq (.block 1 (.seq (.region false [] [
        ⟨(some 20), none, (.idx 2 (.t 16) (.t 18))⟩,
        ⟨(some 21), none, (.load 2 true (.t 20))⟩,
        ⟨(some 7), none, (.alloc 44 (.agg #[(.int .i64 0), (.int .i64 0)]))⟩,
        ⟨none, none, (.store 2 (.t 7) (.t 21))⟩])
     (.seq (.region false [] [
        ⟨(some 22), none, (.idxa 2 1 (.t 7) (.v (.int .i64 0)))⟩,
        ⟨(some 23), none, (.load 1 false (.t 22))⟩,
        ⟨(some 24), none, (.idxa 2 1 (.t 7) (.v (.int .i64 1)))⟩,
        ⟨(some 25), none, (.load 1 false (.t 24))⟩,
        ⟨(some 26), none, (.mxi (.t 23) (.t 25))⟩,
        ⟨(some 27), none, (.mov (.t 5))⟩,
        ⟨(some 28), none, (.bin .eql 3 (.t 26) (.t 27))⟩,
        ⟨(some 29), none, (.mov (.t 28))⟩,
        ⟨(some 30), (some (29, true)), (.load 3 true (.t 2))⟩,
        ⟨(some 31), (some (29, true)), (.mov (.t 1))⟩,
        ⟨(some 32), (some (29, true)), (.idxa 2 1 (.t 7) (.v (.int .i64 0)))⟩,
        ⟨(some 33), (some (29, true)), (.load 1 false (.t 32))⟩,
        ⟨(some 34), (some (29, true)), (.idxa 2 1 (.t 7) (.v (.int .i64 1)))⟩,
        ⟨(some 35), (some (29, true)), (.load 1 false (.t 34))⟩,
        ⟨(some 36), (some (29, true)), (.call 21 [(.t 30), (.t 31), (.t 33), (.t 35)])⟩,
        ⟨(some 37), none, (.pick (.t 29) (.t 36) (.v (.bool false)))⟩])
     (.cond (.t 37)
       (.seq (.region false [] [
          ⟨(some 4), none, (.mov (.v (.int .i64 11)))⟩])
       .ret)
       .skip))))
    (.region false [] [
       ⟨(some 38), none, (.bin .add 3 (.t 18) (.v (.int .i64 1)))⟩,
       ⟨(some 18), none, (.mov (.t 38))⟩])))))))
  (.seq (.seq (.region false [] [
     ⟨(some 39), none, (.mov (.t 1))⟩,
     ⟨(some 40), none, (.mov (.t 5))⟩,
     ⟨(some 41), none, (.idx 1 (.t 39) (.t 40))⟩,
     ⟨(some 42), none, (.load 1 false (.t 41))⟩,
     ⟨(some 8), none, (.mov (.t 42))⟩])
  (.block 2 (.loop (.seq (.seq (.region true [[], [], [], [1, 2], [3], [], [5], [], [6, 7], [8], [9], [4, 10], [0, 11]] [
       ⟨(some 43), none, (.mov (.t 8))⟩,
       ⟨(some 44), none, (.mov (.t 1))⟩,
       ⟨(some 45), none, (.mov (.t 5))⟩,
       ⟨(some 46), none, (.idx 1 (.t 44) (.t 45))⟩,
       ⟨(some 47), none, (.load 1 false (.t 46))⟩,
       ⟨(some 48), none, (.fld 0 (.t 2))⟩,
       ⟨(some 49), none, (.load 1 false (.t 48))⟩,
       ⟨(some 50), none, (.mov (.t 5))⟩,
       ⟨(some 51), none, (.idx 5 (.t 49) (.t 50))⟩,
       ⟨(some 52), none, (.fld 1 (.t 51))⟩,
       ⟨(some 53), none, (.load 1 false (.t 52))⟩,
       ⟨(some 54), none, (.bin .add 3 (.t 47) (.t 53))⟩,
       ⟨(some 55), none, (.bin .lss 3 (.t 43) (.t 54))⟩])
    (.cond (.t 55)
      .skip
      (.exit 2)))
    (.seq (.block 3 (.seq (.region false [] [
        ⟨(some 9), none, (.mov (.v (.int .i64 0)))⟩])
     (.seq (.seq (.region false [] [
        ⟨(some 58), none, (.mov (.t 1))⟩,
        ⟨(some 59), none, (.len (.t 58))⟩,
        ⟨(some 60), none, (.mov (.v (.int .i64 0)))⟩])
     (.block 4 (.loop (.seq (.region false [] [
          ⟨(some 61), none, (.bin .lss 3 (.t 60) (.t 59))⟩])
       (.seq (.cond (.t 61)
         .skip
         (.exit 4))
       (.seq (.block 5 (.seq (.region false [] [
           ⟨(some 62), none, (.mov (.t 60))⟩,
           ⟨(some 63), none, (.idx 1 (.t 58) (.t 60))⟩,
           ⟨(some 64), none, (.load 1 false (.t 63))⟩,
           ⟨(some 10), none, (.mov (.t 62))⟩,
           ⟨(some 11), none, (.mov (.t 64))⟩])
        (.seq (.region false [] [
           ⟨(some 65), none, (.mov (.t 8))⟩,
           ⟨(some 66), none, (.mov (.t 11))⟩,
           ⟨(some 67), none, (.bin .geq 3 (.t 65) (.t 66))⟩,
           ⟨(some 68), none, (.mov (.t 67))⟩,
           ⟨(some 69), (some (68, true)), (.mov (.t 8))⟩,
           ⟨(some 70), (some (68, true)), (.mov (.t 11))⟩,
           ⟨(some 71), (some (68, true)), (.fld 0 (.t 2))⟩,
           ⟨(some 72), (some (68, true)), (.load 1 false (.t 71))⟩,
           ⟨(some 73), (some (68, true)), (.mov (.t 10))⟩,
           ⟨(some 74), (some (68, true)), (.idx 5 (.t 72) (.t 73))⟩,
           ⟨(some 75), (some (68, true)), (.fld 1 (.t 74))⟩,
           ⟨(some 76), (some (68, true)), (.load 1 false (.t 75))⟩,
           ⟨(some 77), (some (68, true)), (.bin .add 3 (.t 70) (.t 76))⟩,
           ⟨(some 78), (some (68, true)), (.bin .lss 3 (.t 69) (.t 77))⟩,
           ⟨(some 79), none, (.pick (.t 68) (.t 78) (.v (.bool false)))⟩])
        (.cond (.t 79)
          (.region false [] [
             ⟨(some 80), none, (.mov (.t 9))⟩,
             ⟨(some 81), none, (.bin .add 3 (.t 80) (.v (.int .i64 1)))⟩,
             ⟨(some 9), none, (.mov (.t 81))⟩])
          .skip))))
       (.region false [] [
          ⟨(some 82), none, (.bin .add 3 (.t 60) (.v (.int .i64 1)))⟩,
          ⟨(some 60), none, (.mov (.t 82))⟩])))))))
     (.seq (.region false [] [
        ⟨(some 83), none, (.mov (.t 9))⟩,
        ⟨(some 84), none, (.fld 2 (.t 2))⟩,
        ⟨(some 85), none, (.load 1 false (.t 84))⟩,
        ⟨(some 86), none, (.bin .gtr 3 (.t 83) (.t 85))⟩])
     (.cond (.t 86)
       (.seq (.region false [] [
          ⟨(some 4), none, (.mov (.v (.int .i64 9)))⟩])
       .ret)
       .skip)))))
    (.region false [] [
       ⟨(some 56), none, (.mov (.t 8))⟩,
       ⟨(some 57), none, (.bin .add 3 (.t 56) (.v (.int .i64 1)))⟩,
       ⟨(some 8), none, (.mov (.t 57))⟩]))))))
  (.seq (.region false [] [
     ⟨(some 4), none, (.mov (.v (.int .i64 0)))⟩])
  .ret)))))
theorem k16 : FnIs Try.prog 16 87 [.t 4] a16 := ⟨_, _, Try.func16, rfl, by kernel_rfl, by kernel_rfl, rfl⟩
/- gridhall/upkeep.cost -/
def a14 : ACode :=
  (.seq (.region false [] [
     ⟨(some 2), none, (.box 25 (.t 0))⟩,
     ⟨(some 4), none, (.mov (.v (.int .i64 0)))⟩])
  (.seq (.region false [] [
     ⟨(some 5), none, (.mov (.v (.int .i64 0)))⟩])
  (.seq (.seq (.region false [] [
     ⟨(some 8), none, (.mov (.t 1))⟩,
     ⟨(some 9), none, (.len (.t 8))⟩,
     ⟨(some 10), none, (.mov (.v (.int .i64 0)))⟩])
  (.block 0 (.loop (.seq (.region false [] [
       ⟨(some 11), none, (.bin .lss 3 (.t 10) (.t 9))⟩])
    (.seq (.cond (.t 11)
      .skip
      (.exit 0))
    (.seq (.block 1 (.seq (.region false [] [
        ⟨(some 12), none, (.mov (.t 10))⟩,
        ⟨(some 13), none, (.idx 1 (.t 8) (.t 10))⟩,
        ⟨(some 14), none, (.load 1 false (.t 13))⟩,
        ⟨(some 6), none, (.mov (.t 12))⟩,
        ⟨(some 7), none, (.mov (.t 14))⟩])
     (.region true [[], [], [], [2], [], [3, 4], [5], [6], [1, 7], [], [9], [], [10, 11], [12], [13], [8, 14], [0, 15], [16, 0, 1, 2, 3, 4, 5, 6, 7, 8, 9, 10, 11, 12, 13, 14, 15, 16]] [
        ⟨(some 15), none, (.mov (.t 5))⟩,
        ⟨(some 16), none, (.mov (.t 7))⟩,
        ⟨(some 17), none, (.fld 0 (.t 2))⟩,
        ⟨(some 18), none, (.load 1 false (.t 17))⟩,
        ⟨(some 19), none, (.mov (.t 6))⟩,
        ⟨(some 20), none, (.idx 5 (.t 18) (.t 19))⟩,
        ⟨(some 21), none, (.fld 2 (.t 20))⟩,
        ⟨(some 22), none, (.load 1 false (.t 21))⟩,
        ⟨(some 23), none, (.bin .sub 3 (.t 16) (.t 22))⟩,
        ⟨(some 24), none, (.fld 0 (.t 2))⟩,
        ⟨(some 25), none, (.load 1 false (.t 24))⟩,
        ⟨(some 26), none, (.mov (.t 6))⟩,
        ⟨(some 27), none, (.idx 5 (.t 25) (.t 26))⟩,
        ⟨(some 28), none, (.fld 4 (.t 27))⟩,
        ⟨(some 29), none, (.load 1 false (.t 28))⟩,
        ⟨(some 30), none, (.bin .mul 3 (.t 23) (.t 29))⟩,
        ⟨(some 31), none, (.bin .add 3 (.t 15) (.t 30))⟩,
        ⟨(some 5), none, (.mov (.t 31))⟩])))
    (.region false [] [
       ⟨(some 32), none, (.bin .add 3 (.t 10) (.v (.int .i64 1)))⟩,
       ⟨(some 10), none, (.mov (.t 32))⟩])))))))
  (.seq (.region false [] [
     ⟨(some 33), none, (.mov (.t 5))⟩,
     ⟨(some 4), none, (.mov (.t 33))⟩])
  .ret))))
theorem k14 : FnIs Try.prog 14 34 [.t 4] a14 := ⟨_, _, Try.func14, rfl, by kernel_rfl, by kernel_rfl, rfl⟩

abbrev il (nl : Option Bool) (fl : Bool) (l : List Int) : AV := .imm nl fl 1 (l.map fun n => [I n])
def pat (l : List Int) (i : Nat) : Int := l.getD i 0
def job (t : Task) (i : Nat) : Job := t.jobs.getD i default
theorem pat_get {l : List Int} {i : Nat} (h : i < l.length) : (l.map fun n => [I n]).getD i [] = [I (pat l i)] := getD_mapD 0 _ h
theorem job_get {t : Task} {i : Nat} (h : i < t.jobs.length) : (t.jobs.map jc).getD i [] = jc (job t i) := getD_mapD default _ h
theorem job_mem {t : Task} {i : Nat} (h : i < t.jobs.length) : job t i ∈ t.jobs := by
  unfold job; rw [List.getD_eq_getElem?_getD, List.getElem?_eq_getElem h]; exact List.getElem_mem h
theorem pat_mem {l : List Int} {i : Nat} (h : i < l.length) : pat l i ∈ l := by
  unfold pat; rw [List.getD_eq_getElem?_getD, List.getElem?_eq_getElem h]; exact List.getElem_mem h
def sameB (t : Task) (l : List Int) (i k : Nat) : Bool := decide (pat l i < pat l k + (job t k).long) && decide (pat l k < pat l i + (job t i).long)
def Days (l : List Int) : Prop := ∀ x ∈ l, 0 ≤ x ∧ x ≤ 60
theorem s21 (t : Task) (nl fl) (l : List Int) (i k : Nat) (hi : i < l.length) (hk : k < l.length) (hl : l.length ≤ t.jobs.length) (hok : UpOk t) (hv : Days l) :
    Aw.Spec Try.prog 21 [] [ta t, il nl fl l, I i, I k] (Gives (· = B (sameB t l i k))) := by
  refine Aw.Spec.givesD k21 mixed rfl rfl rfl fun E hn hnp hp => ?_
  unfold a21
  have h6 := hok.len
  have a1 := pat_get hi
  have a2 := pat_get hk
  have a3 := job_get (by omega : i < t.jobs.length)
  have a4 := job_get (by omega : k < t.jobs.length)
  have b1 := hv _ (pat_mem hi)
  have b2 := hv _ (pat_mem hk)
  have b3 := hok.jobs _ (job_mem (by omega : i < t.jobs.length))
  have b4 := hok.jobs _ (job_mem (by omega : k < t.jobs.length))
  have c1 : IntKind.i64.wrap (pat l k + (job t k).long) = pat l k + (job t k).long := w64 (by omega) (by omega)
  have c2 : IntKind.i64.wrap (pat l i + (job t i).long) = pat l i + (job t i).long := w64 (by omega) (by omega)
  simp (config := { maxSteps := 2000000 }) only [go_sem, ↓reduceIte, Int.reduceToNat, Nat.reduceMul, Int.reduceBEq, Int.reduceBNe, Nat.reduceBEq, Nat.reduceAdd, Nat.reduceSub, Nat.reduceLeDiff, Nat.reduceEqDiff, Nat.reduceLT, reduceCtorEq, a1, a2, a3, a4, c1, c2]
  (repeat (refine And.intro (by first | omega | (refine ⟨by omega, by omega⟩) | (refine ⟨by omega, by omega, by omega⟩) | (simp only [List.length_map, List.length_range, List.length_append, List.length_cons, List.length_nil, List.length_replicate, List.length_set]; omega) | (simp; omega) | (intro hgd; cases hgd) | (intro hgd; refine ⟨hgd, ?_⟩; first | omega | (refine ⟨by omega, by omega⟩) | (simp; omega))) ?_))
  rfl
def manyN (t : Task) (l : List Int) (d : Int) (i : Nat) : Nat := (List.range i).countP fun i => decide (pat l i ≤ d) && decide (d < pat l i + (job t i).long)
theorem manyN_succ (t l d i) : manyN t l d (i + 1) = manyN t l d i + (if (decide (pat l i ≤ d) && decide (d < pat l i + (job t i).long)) = true then 1 else 0) := by
  unfold manyN
  rw [List.range_succ, List.countP_append]
  simp only [List.countP_cons, List.countP_nil, Nat.zero_add]
theorem manyN_le (t l d i) : manyN t l d i ≤ i := by
  unfold manyN
  have := List.countP_le_length (p := fun i => decide (pat l i ≤ d) && decide (d < pat l i + (job t i).long)) (l := List.range i)
  simpa using this
def badPair (t : Task) (l : List Int) (p : Int × Int) : Bool := (max p.1 p.2 == ((l.length - 1 : Nat) : Int)) && sameB t l p.1.toNat p.2.toNat
def overB (t : Task) (l : List Int) (j : Nat) : Bool := decide (t.crews < (manyN t l (pat l (l.length - 1) + (j : Int)) l.length : Int))
def allowedE (t : Task) (l : List Int) : Int :=
  if t.apart.any (badPair t l) = true then 11 else if (List.range (job t (l.length - 1)).long.toNat).any (overB t l) = true then 9 else 0
theorem any_take {α : Type} {p : α → Bool} {l : List α} {i : Nat} (h : i < l.length) : (l.take (i + 1)).any p = ((l.take i).any p || p l[i]) := by
  rw [take_get h, List.any_append]; simp only [List.any_cons, List.any_nil, Bool.or_false]
theorem any_range_succ (p : Nat → Bool) (i : Nat) : (List.range (i + 1)).any p = ((List.range i).any p || p i) := by
  rw [List.range_succ]; simp
theorem any_of_take {α : Type} {p : α → Bool} {l : List α} {i : Nat} (h : i < l.length) (hp : p l[i] = true) : l.any p = true := List.any_eq_true.2 ⟨_, List.getElem_mem h, hp⟩
set_option maxRecDepth 20000 in
set_option maxHeartbeats 1000000 in
theorem s16 (t : Task) (nl fl) (l : List Int) (hne : 0 < l.length) (hl : l.length ≤ t.jobs.length) (hok : UpOk t) (hv : Days l) :
    Aw.Spec Try.prog 16 [] [ta t, il nl fl l] (Gives (· = I (allowedE t l))) := by
  refine Aw.Spec.givesD k16 mixed rfl rfl rfl fun E hn hnp hp => ?_
  unfold a16
  have h6 := hok.len
  have ha := hok.alen
  have e5 : IntKind.i64.wrap ((l.length : Int) - 1) = ((l.length - 1 : Nat) : Int) := by rw [w64 (by omega) (by omega)]; omega
  simp (config := { maxSteps := 2000000 }) only [go_sem, ↓reduceIte, Int.reduceToNat, Nat.reduceMul, Int.reduceBEq, Int.reduceBNe, Nat.reduceBEq, Nat.reduceAdd, Nat.reduceSub, Nat.reduceLeDiff, Nat.reduceEqDiff, Nat.reduceLT, reduceCtorEq, e5]
  refine AWp.loop (fun k s => ∃ i : Nat, i + k = t.apart.length ∧ (t.apart.take i).any (badPair t l) = false ∧
      Weak E s ⟨[(1, il nl fl l), (2, .ptr 0 0 0), (5, I (l.length - 1 : Nat)), (16, .imm t.na t.fa 2 (t.apart.map pc)), (17, I t.apart.length), (18, I i)], [.box 25 (tc t)]⟩) (n := t.apart.length)
    ⟨0, by omega, by simp, weak_to [0] hp hnp rfl (by simp (config := { maxSteps := 2000000 }) only [go_sem, ↓reduceIte, Int.reduceToNat, Nat.reduceMul, Int.reduceBEq, Int.reduceBNe, Nat.reduceBEq, Nat.reduceAdd, Nat.reduceSub, Nat.reduceLeDiff, Nat.reduceEqDiff, Nat.reduceLT, reduceCtorEq, Aw.pos]) (by simp (config := { maxSteps := 2000000 }) only [go_sem, ↓reduceIte, Int.reduceToNat, Nat.reduceMul, Int.reduceBEq, Int.reduceBNe, Nat.reduceBEq, Nat.reduceAdd, Nat.reduceSub, Nat.reduceLeDiff, Nat.reduceEqDiff, Nat.reduceLT, reduceCtorEq, Aw.renR, Aw.pos])⟩ ?_
  rintro k s ⟨i, hi, hc, hw⟩
  refine AWp.weak hw (AWp.ofD [] [] hn mixed rfl ?_)
  rcases Nat.lt_or_ge i t.apart.length with hlt | hge
  · have e0 : decide ((i : Int) < (t.apart.length : Int)) = true := decide_eq_true (by omega)
    have e1 := getD_map pc hlt
    have e2 : IntKind.i64.wrap ((i : Int) + 1) = ((i + 1 : Nat) : Int) := by rw [w64 (by omega) (by omega)]; omega
    have hpr := hok.pairs _ (List.getElem_mem hlt)
    have htk := any_take (p := badPair t l) hlt
    have hany := any_of_take (p := badPair t l) hlt
    generalize t.apart[i] = p at e1 hpr htk hany
    simp (config := { maxSteps := 2000000 }) only [go_sem, ↓reduceIte, Int.reduceToNat, Nat.reduceMul, Int.reduceBEq, Int.reduceBNe, Nat.reduceBEq, Nat.reduceAdd, Nat.reduceSub, Nat.reduceLeDiff, Nat.reduceEqDiff, Nat.reduceLT, reduceCtorEq, e0, e1]
    (repeat (refine And.intro (by first | omega | (refine ⟨by omega, by omega⟩) | (refine ⟨by omega, by omega, by omega⟩) | (simp only [List.length_map, List.length_range, List.length_append, List.length_cons, List.length_nil, List.length_replicate, List.length_set]; omega) | (simp; omega) | (intro hgd; cases hgd) | (intro hgd; refine ⟨hgd, ?_⟩; first | omega | (refine ⟨by omega, by omega⟩) | (simp; omega))) ?_))
    refine AWpL.gcalle (b := (max p.1 p.2 == ((l.length - 1 : Nat) : Int))) (y := B (sameB t l p.1.toNat p.2.toNat)) (by simp (config := { maxSteps := 2000000 }) only [go_sem, ↓reduceIte, Int.reduceToNat, Nat.reduceMul, Int.reduceBEq, Int.reduceBNe, Nat.reduceBEq, Nat.reduceAdd, Nat.reduceSub, Nat.reduceLeDiff, Nat.reduceEqDiff, Nat.reduceLT, reduceCtorEq]) (fun hb => ?_) rfl (by rw [hn]; rfl) (fun hb => by simp (config := { maxSteps := 2000000 }) only [go_sem, ↓reduceIte, Int.reduceToNat, Nat.reduceMul, Int.reduceBEq, Int.reduceBNe, Nat.reduceBEq, Nat.reduceAdd, Nat.reduceSub, Nat.reduceLeDiff, Nat.reduceEqDiff, Nat.reduceLT, reduceCtorEq, hb]) (AWpL.ofM hn rfl ?_)
    · rw [beq_iff_eq] at hb
      have h := s21 t nl fl l p.1.toNat p.2.toNat (by omega) (by omega) hl hok hv
      rw [Int.toNat_of_nonneg hpr.1, Int.toNat_of_nonneg hpr.2.1] at h
      exact h
    have hbp : ((max p.1 p.2 == ((l.length - 1 : Nat) : Int)) && sameB t l p.1.toNat p.2.toNat) = badPair t l p := rfl
    simp (config := { maxSteps := 2000000 }) only [go_sem, ↓reduceIte, Int.reduceToNat, Nat.reduceMul, Int.reduceBEq, Int.reduceBNe, Nat.reduceBEq, Nat.reduceAdd, Nat.reduceSub, Nat.reduceLeDiff, Nat.reduceEqDiff, Nat.reduceLT, reduceCtorEq, hbp, e2]
    refine ⟨fun h => ?_, fun h => ?_⟩
    · unfold allowedE; rw [if_pos (hany h)]
    · exact ⟨k - 1, by omega, i + 1, by omega, by rw [htk, hc, h]; rfl, weak_to [0] hp hnp rfl (by simp (config := { maxSteps := 2000000 }) only [go_sem, ↓reduceIte, Int.reduceToNat, Nat.reduceMul, Int.reduceBEq, Int.reduceBNe, Nat.reduceBEq, Nat.reduceAdd, Nat.reduceSub, Nat.reduceLeDiff, Nat.reduceEqDiff, Nat.reduceLT, reduceCtorEq, Aw.pos]) (by simp (config := { maxSteps := 2000000 }) only [go_sem, ↓reduceIte, Int.reduceToNat, Nat.reduceMul, Int.reduceBEq, Int.reduceBNe, Nat.reduceBEq, Nat.reduceAdd, Nat.reduceSub, Nat.reduceLeDiff, Nat.reduceEqDiff, Nat.reduceLT, reduceCtorEq, Aw.renR, Aw.pos])⟩
  have e0 : decide ((i : Int) < (t.apart.length : Int)) = false := decide_eq_false (by omega)
  rw [List.take_of_length_le hge] at hc
  have hE : allowedE t l = if (List.range (job t (l.length - 1)).long.toNat).any (overB t l) = true then 9 else 0 := by unfold allowedE; rw [if_neg (by simp [hc])]
  rw [hE]
  have a1 := pat_get (by omega : l.length - 1 < l.length)
  have a2 := job_get (by omega : l.length - 1 < t.jobs.length)
  have b1 := hv _ (pat_mem (by omega : l.length - 1 < l.length))
  have b2 := hok.jobs _ (job_mem (by omega : l.length - 1 < t.jobs.length))
  have c1 : IntKind.i64.wrap (pat l (l.length - 1) + (job t (l.length - 1)).long) = pat l (l.length - 1) + (job t (l.length - 1)).long := w64 (by omega) (by omega)
  simp (config := { maxSteps := 2000000 }) only [go_sem, ↓reduceIte, Int.reduceToNat, Nat.reduceMul, Int.reduceBEq, Int.reduceBNe, Nat.reduceBEq, Nat.reduceAdd, Nat.reduceSub, Nat.reduceLeDiff, Nat.reduceEqDiff, Nat.reduceLT, reduceCtorEq, e0, a1]
  (repeat (refine And.intro (by first | omega | (refine ⟨by omega, by omega⟩) | (refine ⟨by omega, by omega, by omega⟩) | (simp only [List.length_map, List.length_range, List.length_append, List.length_cons, List.length_nil, List.length_replicate, List.length_set]; omega) | (simp; omega) | (intro hgd; cases hgd) | (intro hgd; refine ⟨hgd, ?_⟩; first | omega | (refine ⟨by omega, by omega⟩) | (simp; omega))) ?_))
  refine AWp.loop (fun k s => ∃ j : Nat, j + k = (job t (l.length - 1)).long.toNat ∧ (List.range j).any (overB t l) = false ∧
      Weak E s ⟨[(1, il nl fl l), (2, .ptr 0 0 0), (5, I (l.length - 1 : Nat)), (8, I (pat l (l.length - 1) + (j : Int)))], [.box 25 (tc t)]⟩) (n := (job t (l.length - 1)).long.toNat)
    ⟨0, by omega, by simp, weak_to [0] hp hnp rfl (by simp (config := { maxSteps := 2000000 }) only [go_sem, ↓reduceIte, Int.reduceToNat, Nat.reduceMul, Int.reduceBEq, Int.reduceBNe, Nat.reduceBEq, Nat.reduceAdd, Nat.reduceSub, Nat.reduceLeDiff, Nat.reduceEqDiff, Nat.reduceLT, reduceCtorEq, Aw.pos, Int.add_zero]) (by simp (config := { maxSteps := 2000000 }) only [go_sem, ↓reduceIte, Int.reduceToNat, Nat.reduceMul, Int.reduceBEq, Int.reduceBNe, Nat.reduceBEq, Nat.reduceAdd, Nat.reduceSub, Nat.reduceLeDiff, Nat.reduceEqDiff, Nat.reduceLT, reduceCtorEq, Aw.renR, Aw.pos])⟩ ?_
  clear hw hi hc hge e0
  rintro k s ⟨j, hj, hc, hw⟩
  refine AWp.weak hw (AWp.ofD [] [] hn mixed rfl ?_)
  rcases Nat.lt_or_ge j (job t (l.length - 1)).long.toNat with hlt | hge
  · have e0 : decide (pat l (l.length - 1) + (j : Int) < pat l (l.length - 1) + (job t (l.length - 1)).long) = true := decide_eq_true (by omega)
    have e2 : IntKind.i64.wrap (pat l (l.length - 1) + (j : Int) + 1) = pat l (l.length - 1) + ((j + 1 : Nat) : Int) := by rw [w64 (by omega) (by omega)]; omega
    simp (config := { maxSteps := 2000000 }) only [go_sem, ↓reduceIte, Int.reduceToNat, Nat.reduceMul, Int.reduceBEq, Int.reduceBNe, Nat.reduceBEq, Nat.reduceAdd, Nat.reduceSub, Nat.reduceLeDiff, Nat.reduceEqDiff, Nat.reduceLT, reduceCtorEq, a1, a2, c1, e0]
    (repeat (refine And.intro (by first | omega | (refine ⟨by omega, by omega⟩) | (refine ⟨by omega, by omega, by omega⟩) | (simp only [List.length_map, List.length_range, List.length_append, List.length_cons, List.length_nil, List.length_replicate, List.length_set]; omega) | (simp; omega) | (intro hgd; cases hgd) | (intro hgd; refine ⟨hgd, ?_⟩; first | omega | (refine ⟨by omega, by omega⟩) | (simp; omega))) ?_))
    have hov : overB t l j = decide (t.crews < (manyN t l (pat l (l.length - 1) + (j : Int)) l.length : Int)) := rfl
    generalize hd : pat l (l.length - 1) + (j : Int) = d at *
    have hd1 : 0 ≤ d ∧ d ≤ 200 := by omega
    refine AWp.loop (fun k s => ∃ i : Nat, i + k = l.length ∧
        Weak E s ⟨[(1, il nl fl l), (2, .ptr 0 0 0), (5, I (l.length - 1 : Nat)), (8, I d), (9, I (manyN t l d i)), (58, il nl fl l), (59, I l.length), (60, I i)], [.box 25 (tc t)]⟩) (n := l.length)
      ⟨0, by omega, weak_to [0] hp hnp rfl (by simp (config := { maxSteps := 2000000 }) only [go_sem, ↓reduceIte, Int.reduceToNat, Nat.reduceMul, Int.reduceBEq, Int.reduceBNe, Nat.reduceBEq, Nat.reduceAdd, Nat.reduceSub, Nat.reduceLeDiff, Nat.reduceEqDiff, Nat.reduceLT, reduceCtorEq, Aw.pos, Int.natCast_zero]; rfl) (by simp (config := { maxSteps := 2000000 }) only [go_sem, ↓reduceIte, Int.reduceToNat, Nat.reduceMul, Int.reduceBEq, Int.reduceBNe, Nat.reduceBEq, Nat.reduceAdd, Nat.reduceSub, Nat.reduceLeDiff, Nat.reduceEqDiff, Nat.reduceLT, reduceCtorEq, Aw.renR, Aw.pos])⟩ ?_
    rintro k2 s2 ⟨i, hi, hw2⟩
    refine AWp.weak hw2 (AWp.ofD [] [] hn mixed rfl ?_)
    rcases Nat.lt_or_ge i l.length with hil | hig
    · have f0 : decide ((i : Int) < (l.length : Int)) = true := decide_eq_true (by omega)
      have f1 := pat_get hil
      have f2 := job_get (by omega : i < t.jobs.length)
      have f3 := hv _ (pat_mem hil)
      have f4 := hok.jobs _ (job_mem (by omega : i < t.jobs.length))
      have f5 : IntKind.i64.wrap ((i : Int) + 1) = ((i + 1 : Nat) : Int) := by rw [w64 (by omega) (by omega)]; omega
      have f6 : IntKind.i64.wrap (pat l i + (job t i).long) = pat l i + (job t i).long := w64 (by omega) (by omega)
      have f7 := manyN_le t l d i
      have f8 : IntKind.i64.wrap ((manyN t l d i : Int) + 1) = ((manyN t l d i + 1 : Nat) : Int) := by rw [w64 (by omega) (by omega)]; omega
      have hms := manyN_succ t l d i
      simp (config := { maxSteps := 2000000 }) only [go_sem, ↓reduceIte, Int.reduceToNat, Nat.reduceMul, Int.reduceBEq, Int.reduceBNe, Nat.reduceBEq, Nat.reduceAdd, Nat.reduceSub, Nat.reduceLeDiff, Nat.reduceEqDiff, Nat.reduceLT, reduceCtorEq, f0, f1, f2, f5, f6, f8, ge_iff_le]
      (repeat (refine And.intro (by first | omega | (refine ⟨by omega, by omega⟩) | (refine ⟨by omega, by omega, by omega⟩) | (simp only [List.length_map, List.length_range, List.length_append, List.length_cons, List.length_nil, List.length_replicate, List.length_set]; omega) | (simp; omega) | (intro hgd; cases hgd) | (intro hgd; refine ⟨hgd, ?_⟩; first | omega | (refine ⟨by omega, by omega⟩) | (simp; omega))) ?_))
      refine ⟨fun h => ?_, fun h => ?_⟩
      · rw [if_pos h] at hms
        exact ⟨k2 - 1, by omega, i + 1, by omega, weak_to [0] hp hnp rfl (by simp (config := { maxSteps := 2000000 }) only [go_sem, ↓reduceIte, Int.reduceToNat, Nat.reduceMul, Int.reduceBEq, Int.reduceBNe, Nat.reduceBEq, Nat.reduceAdd, Nat.reduceSub, Nat.reduceLeDiff, Nat.reduceEqDiff, Nat.reduceLT, reduceCtorEq, Aw.pos, hms]) (by simp (config := { maxSteps := 2000000 }) only [go_sem, ↓reduceIte, Int.reduceToNat, Nat.reduceMul, Int.reduceBEq, Int.reduceBNe, Nat.reduceBEq, Nat.reduceAdd, Nat.reduceSub, Nat.reduceLeDiff, Nat.reduceEqDiff, Nat.reduceLT, reduceCtorEq, Aw.renR, Aw.pos])⟩
      · rw [if_neg (by simp [h])] at hms
        exact ⟨k2 - 1, by omega, i + 1, by omega, weak_to [0] hp hnp rfl (by simp (config := { maxSteps := 2000000 }) only [go_sem, ↓reduceIte, Int.reduceToNat, Nat.reduceMul, Int.reduceBEq, Int.reduceBNe, Nat.reduceBEq, Nat.reduceAdd, Nat.reduceSub, Nat.reduceLeDiff, Nat.reduceEqDiff, Nat.reduceLT, reduceCtorEq, Aw.pos, hms, Nat.add_zero]) (by simp (config := { maxSteps := 2000000 }) only [go_sem, ↓reduceIte, Int.reduceToNat, Nat.reduceMul, Int.reduceBEq, Int.reduceBNe, Nat.reduceBEq, Nat.reduceAdd, Nat.reduceSub, Nat.reduceLeDiff, Nat.reduceEqDiff, Nat.reduceLT, reduceCtorEq, Aw.renR, Aw.pos])⟩
    · have f0 : decide ((i : Int) < (l.length : Int)) = false := decide_eq_false (by omega)
      obtain rfl : i = l.length := by omega
      have hov2 : decide ((manyN t l d l.length : Int) > t.crews) = overB t l j := hov.symm
      simp (config := { maxSteps := 2000000 }) only [go_sem, ↓reduceIte, Int.reduceToNat, Nat.reduceMul, Int.reduceBEq, Int.reduceBNe, Nat.reduceBEq, Nat.reduceAdd, Nat.reduceSub, Nat.reduceLeDiff, Nat.reduceEqDiff, Nat.reduceLT, reduceCtorEq, f0, hov2, e2]
      refine ⟨fun h => ?_, fun h => ?_⟩
      · rw [if_pos (List.any_eq_true.2 ⟨j, List.mem_range.2 hlt, h⟩)]
      · exact ⟨k - 1, by omega, j + 1, by omega, by rw [any_range_succ, hc, h]; rfl, weak_to [0] hp hnp rfl (by simp (config := { maxSteps := 2000000 }) only [go_sem, ↓reduceIte, Int.reduceToNat, Nat.reduceMul, Int.reduceBEq, Int.reduceBNe, Nat.reduceBEq, Nat.reduceAdd, Nat.reduceSub, Nat.reduceLeDiff, Nat.reduceEqDiff, Nat.reduceLT, reduceCtorEq, Aw.pos]) (by simp (config := { maxSteps := 2000000 }) only [go_sem, ↓reduceIte, Int.reduceToNat, Nat.reduceMul, Int.reduceBEq, Int.reduceBNe, Nat.reduceBEq, Nat.reduceAdd, Nat.reduceSub, Nat.reduceLeDiff, Nat.reduceEqDiff, Nat.reduceLT, reduceCtorEq, Aw.renR, Aw.pos])⟩
  · have e0 : decide (pat l (l.length - 1) + (j : Int) < pat l (l.length - 1) + (job t (l.length - 1)).long) = false := decide_eq_false (by omega)
    obtain rfl : j = (job t (l.length - 1)).long.toNat := by omega
    simp (config := { maxSteps := 2000000 }) only [go_sem, ↓reduceIte, Int.reduceToNat, Nat.reduceMul, Int.reduceBEq, Int.reduceBNe, Nat.reduceBEq, Nat.reduceAdd, Nat.reduceSub, Nat.reduceLeDiff, Nat.reduceEqDiff, Nat.reduceLT, reduceCtorEq, a1, a2, c1, e0]
    (repeat (refine And.intro (by first | omega | (refine ⟨by omega, by omega⟩) | (refine ⟨by omega, by omega, by omega⟩) | (simp only [List.length_map, List.length_range, List.length_append, List.length_cons, List.length_nil, List.length_replicate, List.length_set]; omega) | (simp; omega) | (intro hgd; cases hgd) | (intro hgd; refine ⟨hgd, ?_⟩; first | omega | (refine ⟨by omega, by omega⟩) | (simp; omega))) ?_))
    rw [if_neg (by simp [hc])]
def costN (t : Task) (l : List Int) : Nat → Int
  | 0 => 0
  | i + 1 => costN t l i + (pat l i - (job t i).first) * (job t i).weight
def InWin (t : Task) (l : List Int) : Prop := l.length ≤ t.jobs.length ∧ ∀ i, i < l.length → (job t i).first ≤ pat l i ∧ pat l i ≤ (job t i).last
theorem InWin.days {t : Task} {l : List Int} (hok : UpOk t) (h : InWin t l) : Days l := fun x hx => by
  obtain ⟨i, hi, rfl⟩ := List.getElem_of_mem hx
  have h1 := h.2 i hi
  have h2 := hok.jobs _ (job_mem (by have := h.1; omega : i < t.jobs.length))
  have h3 : pat l i = l[i] := by unfold pat; rw [List.getD_eq_getElem?_getD, List.getElem?_eq_getElem hi]; rfl
  omega
theorem term_bound {t : Task} {l : List Int} (hok : UpOk t) (h : InWin t l) {i : Nat} (hi : i < l.length) : 0 ≤ (pat l i - (job t i).first) * (job t i).weight ∧ (pat l i - (job t i).first) * (job t i).weight ≤ 12000 := by
  have h1 := h.2 i hi
  have h2 := hok.jobs _ (job_mem (by have := h.1; omega : i < t.jobs.length))
  obtain ⟨d, hd⟩ : ∃ d : Nat, pat l i - (job t i).first = d := ⟨(pat l i - (job t i).first).toNat, by omega⟩
  obtain ⟨w, hw⟩ : ∃ w : Nat, (job t i).weight = w := ⟨(job t i).weight.toNat, by omega⟩
  rw [hd, hw]
  have h3 : d * w ≤ 12 * 1000 := Nat.mul_le_mul (by omega) (by omega)
  rw [← Int.natCast_mul]; omega
theorem costN_bound {t : Task} {l : List Int} (hok : UpOk t) (h : InWin t l) : ∀ i, i ≤ l.length → 0 ≤ costN t l i ∧ costN t l i ≤ 12000 * i
  | 0, _ => by simp [costN]
  | i + 1, hi => by
    have h1 := costN_bound hok h i (by omega)
    have h2 := term_bound hok h (by omega : i < l.length)
    unfold costN; omega
theorem s14 (t : Task) (nl fl) (l : List Int) (hok : UpOk t) (hv : InWin t l) : Aw.Spec Try.prog 14 [] [ta t, il nl fl l] (Gives (· = I (costN t l l.length))) := by
  refine Aw.Spec.givesD k14 mixed rfl rfl rfl fun E hn hnp hp => ?_
  unfold a14
  have h6 := hok.len
  have hl := hv.1
  simp (config := { maxSteps := 2000000 }) only [go_sem, ↓reduceIte, Int.reduceToNat, Nat.reduceMul, Int.reduceBEq, Int.reduceBNe, Nat.reduceBEq, Nat.reduceAdd, Nat.reduceSub, Nat.reduceLeDiff, Nat.reduceEqDiff, Nat.reduceLT, reduceCtorEq]
  refine AWp.loop (fun k s => ∃ i : Nat, i + k = l.length ∧
      Weak E s ⟨[(2, .ptr 0 0 0), (5, I (costN t l i)), (8, il nl fl l), (9, I l.length), (10, I i)], [.box 25 (tc t)]⟩) (n := l.length)
    ⟨0, by omega, weak_to [0] hp hnp rfl (by simp (config := { maxSteps := 2000000 }) only [go_sem, ↓reduceIte, Int.reduceToNat, Nat.reduceMul, Int.reduceBEq, Int.reduceBNe, Nat.reduceBEq, Nat.reduceAdd, Nat.reduceSub, Nat.reduceLeDiff, Nat.reduceEqDiff, Nat.reduceLT, reduceCtorEq, Aw.pos, costN]) (by simp (config := { maxSteps := 2000000 }) only [go_sem, ↓reduceIte, Int.reduceToNat, Nat.reduceMul, Int.reduceBEq, Int.reduceBNe, Nat.reduceBEq, Nat.reduceAdd, Nat.reduceSub, Nat.reduceLeDiff, Nat.reduceEqDiff, Nat.reduceLT, reduceCtorEq, Aw.renR, Aw.pos])⟩ ?_
  rintro k s ⟨i, hi, hw⟩
  refine AWp.weak hw (AWp.ofD [] [] hn mixed rfl ?_)
  rcases Nat.lt_or_ge i l.length with hil | hig
  · have f0 : decide ((i : Int) < (l.length : Int)) = true := decide_eq_true (by omega)
    have f1 := pat_get hil
    have f2 := job_get (by omega : i < t.jobs.length)
    have f3 := hv.days hok _ (pat_mem hil)
    have f4 := hok.jobs _ (job_mem (by omega : i < t.jobs.length))
    have f5 : IntKind.i64.wrap ((i : Int) + 1) = ((i + 1 : Nat) : Int) := by rw [w64 (by omega) (by omega)]; omega
    have f6 := term_bound hok hv hil
    have f7 := costN_bound hok hv i (by omega)
    have f8 : IntKind.i64.wrap (pat l i - (job t i).first) = pat l i - (job t i).first := w64 (by omega) (by omega)
    have f9 : IntKind.i64.wrap ((pat l i - (job t i).first) * (job t i).weight) = (pat l i - (job t i).first) * (job t i).weight := w64 (by omega) (by omega)
    have f10 : IntKind.i64.wrap (costN t l i + (pat l i - (job t i).first) * (job t i).weight) = costN t l (i + 1) := w64 (by omega) (by omega)
    simp (config := { maxSteps := 2000000 }) only [go_sem, ↓reduceIte, Int.reduceToNat, Nat.reduceMul, Int.reduceBEq, Int.reduceBNe, Nat.reduceBEq, Nat.reduceAdd, Nat.reduceSub, Nat.reduceLeDiff, Nat.reduceEqDiff, Nat.reduceLT, reduceCtorEq, f0, f1, f2, f5, f8, f9, f10]
    (repeat (refine And.intro (by first | omega | (refine ⟨by omega, by omega⟩) | (refine ⟨by omega, by omega, by omega⟩) | (simp only [List.length_map, List.length_range, List.length_append, List.length_cons, List.length_nil, List.length_replicate, List.length_set]; omega) | (simp; omega) | (intro hgd; cases hgd) | (intro hgd; refine ⟨hgd, ?_⟩; first | omega | (refine ⟨by omega, by omega⟩) | (simp; omega))) ?_))
    exact ⟨k - 1, by omega, i + 1, by omega, weak_to [0] hp hnp rfl (by simp (config := { maxSteps := 2000000 }) only [go_sem, ↓reduceIte, Int.reduceToNat, Nat.reduceMul, Int.reduceBEq, Int.reduceBNe, Nat.reduceBEq, Nat.reduceAdd, Nat.reduceSub, Nat.reduceLeDiff, Nat.reduceEqDiff, Nat.reduceLT, reduceCtorEq, Aw.pos]) (by simp (config := { maxSteps := 2000000 }) only [go_sem, ↓reduceIte, Int.reduceToNat, Nat.reduceMul, Int.reduceBEq, Int.reduceBNe, Nat.reduceBEq, Nat.reduceAdd, Nat.reduceSub, Nat.reduceLeDiff, Nat.reduceEqDiff, Nat.reduceLT, reduceCtorEq, Aw.renR, Aw.pos])⟩
  · have f0 : decide ((i : Int) < (l.length : Int)) = false := decide_eq_false (by omega)
    obtain rfl : i = l.length := by omega
    simp (config := { maxSteps := 2000000 }) only [go_sem, ↓reduceIte, Int.reduceToNat, Nat.reduceMul, Int.reduceBEq, Int.reduceBNe, Nat.reduceBEq, Nat.reduceAdd, Nat.reduceSub, Nat.reduceLeDiff, Nat.reduceEqDiff, Nat.reduceLT, reduceCtorEq, f0]
end Go.Proofs.Ytncfffplnmlnfaa
