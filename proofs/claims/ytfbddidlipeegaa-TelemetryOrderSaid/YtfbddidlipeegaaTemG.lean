/- Telemetry: slices.Insert of one element. -/
import Derived.Test.YtfbddidlipeegaaAwZg
import Derived.Test.YtfbddidlipeegaaTemF
set_option linter.unusedVariables false
set_option linter.unusedSimpArgs false
namespace Go.Proofs.Ytfbddidlipeegaa
open Go.Proofs.Ytfbddidlipeegaa.Aw
attribute [local go_sem] Int.natCast_zero Int.natCast_one bne_self_eq_false beq_self_eq_true Bool.not_true Bool.not_false Option.isSome_none Option.isSome_some Aw.bkM_nil Option.getD_some Option.getD_none Nat.sub_zero Int.toNat_zero Aw.frzS Aw.frzT Aw.frzA Aw.frzL Aw.frzR Aw.frzO Aw.frzOL Aw.frzOT Aw.frzOR Aw.killS Aw.mapT Aw.mapR Aw.killM Aw.resAVs Aw.resAV Aw.quietOps Aw.wpP Aw.wpT Aw.wpS Aw.AOp.mild List.getElem?_cons_zero List.getElem?_cons_succ Bool.and_false Bool.and_self Bool.false_and Aw.opOb Aw.gdB Aw.Rnd Aw.subTm List.length_map Int.toNat_natCast and_self Aw.SeqC Aw.stops Aw.Ends Aw.looks Aw.renA Aw.renL Aw.renT Aw.renS Aw.wpO Aw.aop Aw.putTm Aw.St.ev Aw.St.put Aw.St.putO Aw.binAV Aw.intBin Aw.strBin Aw.pickAV Aw.optInt Aw.AV.strip Aw.AV.guard Aw.AV.cells Aw.gdOb Aw.AOp.opds Aw.AOp.still Aw.ptrCells Aw.St.reg Aw.fillAV Aw.fillOb Aw.elsOb Aw.splice Aw.firm Aw.cellish Aw.AV.shut Aw.shutAll Aw.Seq Aw.Blk Aw.retS_nil Aw.mapA Aw.mapL Aw.borA Aw.borOb Aw.allOb Aw.tupOf Aw.params Aw.Opd.of Array.toList Value.cells List.map_cons List.map_nil List.getD_cons_zero List.getD_cons_succ List.getD_nil List.length_cons List.length_nil List.take_succ_cons List.take_zero List.take_nil List.drop_zero List.drop_succ_cons List.drop_nil List.set_cons_zero List.set_cons_succ List.append_nil List.nil_append List.cons_append List.all_cons List.all_nil cond_false cond_true if_true if_false true_and and_true Bool.and_true Bool.true_and Option.map_some Option.map_none false_implies forall_const implies_true forall_eq imp_self Bool.cond_false_right Bool.cond_true_left beq_true beq_false Bool.not_eq_true' Bool.false_eq_true Nat.zero_add Nat.add_zero Aw.eqCells Aw.exactCap Aw.revealS Aw.srcEls Aw.srcSz
attribute [local go_sem ↓] Aw.look_nil Aw.look_ite Aw.wpL_nil Aw.wpL_op Aw.wpL_gd Aw.wpQ_nil Aw.wpQ_op Aw.wpQ_gd Aw.wpC_draw Aw.wpC_reg Aw.wpC_skip Aw.wpC_ret Aw.wpC_exit Aw.wpC_seq Aw.wpC_block Aw.wpC_loop Aw.wpC_cond Aw.stopAt_nil Aw.stopAt_cons Aw.wpD_skip Aw.wpD_ret Aw.wpD_exit Aw.wpD_region Aw.wpD_draw Aw.wpM_nil Aw.wpM_op Aw.wpM_gd Aw.wpD_seq Aw.wpD_block Aw.wpD_loop Aw.wpD_cond
/- slices.Insert[[]gridhall/api.TelemetryMsg,gridhall/api.TelemetryMsg] -/
def a15 : ACode :=
  (.seq (.region false [] [
     ⟨(some 6), none, (.mov (.v (.slice none 0 0)))⟩])
  (.seq (.region false [] [
     ⟨(some 10), none, (.mov (.t 0))⟩,
     ⟨(some 11), none, (.mov (.t 1))⟩,
     ⟨(some 12), none, (.slc 4 (.t 10) (some (.t 11)) none none)⟩])
  (.seq (.region false [] [
     ⟨(some 13), none, (.mov (.t 2))⟩,
     ⟨(some 14), none, (.len (.t 13))⟩,
     ⟨(some 7), none, (.mov (.t 14))⟩])
  (.seq (.seq (.region false [] [
     ⟨(some 15), none, (.mov (.t 7))⟩,
     ⟨(some 16), none, (.bin .eql 3 (.t 15) (.v (.int .i64 0)))⟩])
  (.cond (.t 16)
    (.seq (.region false [] [
       ⟨(some 17), none, (.mov (.t 0))⟩,
       ⟨(some 6), none, (.mov (.t 17))⟩])
    .ret)
    .skip))
  (.seq (.region false [] [
     ⟨(some 18), none, (.mov (.t 0))⟩,
     ⟨(some 19), none, (.len (.t 18))⟩,
     ⟨(some 8), none, (.mov (.t 19))⟩])
  (.seq (.seq (.region false [] [
     ⟨(some 20), none, (.mov (.t 1))⟩,
     ⟨(some 21), none, (.mov (.t 8))⟩,
     ⟨(some 22), none, (.bin .eql 3 (.t 20) (.t 21))⟩])
  (.cond (.t 22)
    (.seq (.region false [] [
       ⟨(some 23), none, (.mov (.t 0))⟩,
       ⟨(some 24), none, (.mov (.t 2))⟩,
       ⟨(some 25), none, (.app 29 4 40 (.agg #[(.string ⟨#[]⟩), (.int .i64 0), (.int .i64 0), (.int .i64 0)]) (.t 23) (.t 24))⟩,
       ⟨(some 6), none, (.mov (.t 25))⟩])
    .ret)
    .skip))
  (.seq (.seq (.region false [] [
     ⟨(some 26), none, (.mov (.t 8))⟩,
     ⟨(some 27), none, (.mov (.t 7))⟩,
     ⟨(some 28), none, (.bin .add 3 (.t 26) (.t 27))⟩,
     ⟨(some 29), none, (.mov (.t 0))⟩,
     ⟨(some 30), none, (.cap (.t 29))⟩,
     ⟨(some 31), none, (.bin .gtr 3 (.t 28) (.t 30))⟩])
  (.cond (.t 31)
    (.seq (.region false [] [
       ⟨(some 32), none, (.mov (.t 0))⟩,
       ⟨(some 33), none, (.mov (.t 1))⟩,
       ⟨(some 34), none, (.slc 4 (.t 32) none (some (.t 33)) none)⟩,
       ⟨(some 35), none, (.mov (.t 8))⟩,
       ⟨(some 36), none, (.mov (.t 7))⟩,
       ⟨(some 37), none, (.bin .add 3 (.t 35) (.t 36))⟩,
       ⟨(some 38), none, (.mov (.t 1))⟩,
       ⟨(some 39), none, (.bin .sub 3 (.t 37) (.t 38))⟩,
       ⟨(some 40), none, (.appz 29 4 40 (.agg #[(.string ⟨#[]⟩), (.int .i64 0), (.int .i64 0), (.int .i64 0)]) (.t 34) (.t 39))⟩,
       ⟨(some 9), none, (.mov (.t 40))⟩])
    (.seq (.region false [] [
       ⟨(some 41), none, (.mov (.t 9))⟩,
       ⟨(some 42), none, (.mov (.t 1))⟩,
       ⟨(some 43), none, (.slc 4 (.t 41) (some (.t 42)) none none)⟩,
       ⟨(some 44), none, (.mov (.t 2))⟩,
       ⟨(some 45), none, (.copy 4 (.t 43) (.t 44))⟩])
    (.seq (.region true [[], [], [], [1, 2], [0, 3], [], [], [5, 6], [4, 7]] [
       ⟨(some 46), none, (.mov (.t 9))⟩,
       ⟨(some 47), none, (.mov (.t 1))⟩,
       ⟨(some 48), none, (.mov (.t 7))⟩,
       ⟨(some 49), none, (.bin .add 3 (.t 47) (.t 48))⟩,
       ⟨(some 50), none, (.slc 4 (.t 46) (some (.t 49)) none none)⟩,
       ⟨(some 51), none, (.mov (.t 0))⟩,
       ⟨(some 52), none, (.mov (.t 1))⟩,
       ⟨(some 53), none, (.slc 4 (.t 51) (some (.t 52)) none none)⟩,
       ⟨(some 54), none, (.copy 4 (.t 50) (.t 53))⟩])
    (.seq (.region false [] [
       ⟨(some 55), none, (.mov (.t 9))⟩,
       ⟨(some 6), none, (.mov (.t 55))⟩])
    .ret))))
    .skip))
  (.seq (.region false [] [
     ⟨(some 56), none, (.mov (.t 0))⟩,
     ⟨(some 57), none, (.mov (.t 8))⟩,
     ⟨(some 58), none, (.mov (.t 7))⟩,
     ⟨(some 59), none, (.bin .add 3 (.t 57) (.t 58))⟩,
     ⟨(some 60), none, (.slc 4 (.t 56) none (some (.t 59)) none)⟩,
     ⟨(some 0), none, (.mov (.t 60))⟩])
  (.seq (.seq (.region false [] [
     ⟨(some 61), none, (.mov (.t 2))⟩,
     ⟨(some 62), none, (.mov (.t 0))⟩,
     ⟨(some 63), none, (.mov (.t 1))⟩,
     ⟨(some 64), none, (.mov (.t 7))⟩,
     ⟨(some 65), none, (.bin .add 3 (.t 63) (.t 64))⟩,
     ⟨(some 66), none, (.slc 4 (.t 62) (some (.t 65)) none none)⟩,
     ⟨(some 67), none, (.bad (some 21) [(.t 61), (.t 66)])⟩,
     ⟨(some 68), none, (.un .not (.t 67))⟩])
  (.cond (.t 68)
    (.seq (.region true [[], [], [], [1, 2], [0, 3], [], [], [5, 6], [4, 7]] [
       ⟨(some 69), none, (.mov (.t 0))⟩,
       ⟨(some 70), none, (.mov (.t 1))⟩,
       ⟨(some 71), none, (.mov (.t 7))⟩,
       ⟨(some 72), none, (.bin .add 3 (.t 70) (.t 71))⟩,
       ⟨(some 73), none, (.slc 4 (.t 69) (some (.t 72)) none none)⟩,
       ⟨(some 74), none, (.mov (.t 0))⟩,
       ⟨(some 75), none, (.mov (.t 1))⟩,
       ⟨(some 76), none, (.slc 4 (.t 74) (some (.t 75)) none none)⟩,
       ⟨(some 77), none, (.copy 4 (.t 73) (.t 76))⟩])
    (.seq (.region false [] [
       ⟨(some 78), none, (.mov (.t 0))⟩,
       ⟨(some 79), none, (.mov (.t 1))⟩,
       ⟨(some 80), none, (.slc 4 (.t 78) (some (.t 79)) none none)⟩,
       ⟨(some 81), none, (.mov (.t 2))⟩,
       ⟨(some 82), none, (.copy 4 (.t 80) (.t 81))⟩])
    (.seq (.region false [] [
       ⟨(some 83), none, (.mov (.t 0))⟩,
       ⟨(some 6), none, (.mov (.t 83))⟩])
    .ret)))
    .skip))
  (.seq (.region false [] [
     ⟨(some 84), none, (.mov (.t 0))⟩,
     ⟨(some 85), none, (.mov (.t 8))⟩,
     ⟨(some 86), none, (.slc 4 (.t 84) (some (.t 85)) none none)⟩,
     ⟨(some 87), none, (.mov (.t 2))⟩,
     ⟨(some 88), none, (.copy 4 (.t 86) (.t 87))⟩])
  (.seq (.region false [] [
     ⟨(some 89), none, (.mov (.t 0))⟩,
     ⟨(some 90), none, (.mov (.t 1))⟩,
     ⟨(some 91), none, (.slc 4 (.t 89) (some (.t 90)) none none)⟩,
     ⟨(some 92), none, (.mov (.t 7))⟩,
     ⟨(some 93), none, (.call 22 [(.t 91), (.t 92)])⟩])
  (.seq (.region false [] [
     ⟨(some 94), none, (.mov (.t 0))⟩,
     ⟨(some 6), none, (.mov (.t 94))⟩])
  .ret))))))))))))
theorem k15 : FnIs Try.prog 15 95 [.t 6] a15 := ⟨_, _, Try.func15, rfl, by kernel_rfl, by kernel_rfl, rfl⟩
/- slices.Insert[[]int,int] -/
def a16 : ACode :=
  (.seq (.region false [] [
     ⟨(some 6), none, (.mov (.v (.slice none 0 0)))⟩])
  (.seq (.region false [] [
     ⟨(some 10), none, (.mov (.t 0))⟩,
     ⟨(some 11), none, (.mov (.t 1))⟩,
     ⟨(some 12), none, (.slc 1 (.t 10) (some (.t 11)) none none)⟩])
  (.seq (.region false [] [
     ⟨(some 13), none, (.mov (.t 2))⟩,
     ⟨(some 14), none, (.len (.t 13))⟩,
     ⟨(some 7), none, (.mov (.t 14))⟩])
  (.seq (.seq (.region false [] [
     ⟨(some 15), none, (.mov (.t 7))⟩,
     ⟨(some 16), none, (.bin .eql 3 (.t 15) (.v (.int .i64 0)))⟩])
  (.cond (.t 16)
    (.seq (.region false [] [
       ⟨(some 17), none, (.mov (.t 0))⟩,
       ⟨(some 6), none, (.mov (.t 17))⟩])
    .ret)
    .skip))
  (.seq (.region false [] [
     ⟨(some 18), none, (.mov (.t 0))⟩,
     ⟨(some 19), none, (.len (.t 18))⟩,
     ⟨(some 8), none, (.mov (.t 19))⟩])
  (.seq (.seq (.region false [] [
     ⟨(some 20), none, (.mov (.t 1))⟩,
     ⟨(some 21), none, (.mov (.t 8))⟩,
     ⟨(some 22), none, (.bin .eql 3 (.t 20) (.t 21))⟩])
  (.cond (.t 22)
    (.seq (.region false [] [
       ⟨(some 23), none, (.mov (.t 0))⟩,
       ⟨(some 24), none, (.mov (.t 2))⟩,
       ⟨(some 25), none, (.app 3 1 8 (.int .i64 0) (.t 23) (.t 24))⟩,
       ⟨(some 6), none, (.mov (.t 25))⟩])
    .ret)
    .skip))
  (.seq (.seq (.region false [] [
     ⟨(some 26), none, (.mov (.t 8))⟩,
     ⟨(some 27), none, (.mov (.t 7))⟩,
     ⟨(some 28), none, (.bin .add 3 (.t 26) (.t 27))⟩,
     ⟨(some 29), none, (.mov (.t 0))⟩,
     ⟨(some 30), none, (.cap (.t 29))⟩,
     ⟨(some 31), none, (.bin .gtr 3 (.t 28) (.t 30))⟩])
  (.cond (.t 31)
    (.seq (.region false [] [
       ⟨(some 32), none, (.mov (.t 0))⟩,
       ⟨(some 33), none, (.mov (.t 1))⟩,
       ⟨(some 34), none, (.slc 1 (.t 32) none (some (.t 33)) none)⟩,
       ⟨(some 35), none, (.mov (.t 8))⟩,
       ⟨(some 36), none, (.mov (.t 7))⟩,
       ⟨(some 37), none, (.bin .add 3 (.t 35) (.t 36))⟩,
       ⟨(some 38), none, (.mov (.t 1))⟩,
       ⟨(some 39), none, (.bin .sub 3 (.t 37) (.t 38))⟩,
       ⟨(some 40), none, (.appz 3 1 8 (.int .i64 0) (.t 34) (.t 39))⟩,
       ⟨(some 9), none, (.mov (.t 40))⟩])
    (.seq (.region false [] [
       ⟨(some 41), none, (.mov (.t 9))⟩,
       ⟨(some 42), none, (.mov (.t 1))⟩,
       ⟨(some 43), none, (.slc 1 (.t 41) (some (.t 42)) none none)⟩,
       ⟨(some 44), none, (.mov (.t 2))⟩,
       ⟨(some 45), none, (.copy 1 (.t 43) (.t 44))⟩])
    (.seq (.region true [[], [], [], [1, 2], [0, 3], [], [], [5, 6], [4, 7]] [
       ⟨(some 46), none, (.mov (.t 9))⟩,
       ⟨(some 47), none, (.mov (.t 1))⟩,
       ⟨(some 48), none, (.mov (.t 7))⟩,
       ⟨(some 49), none, (.bin .add 3 (.t 47) (.t 48))⟩,
       ⟨(some 50), none, (.slc 1 (.t 46) (some (.t 49)) none none)⟩,
       ⟨(some 51), none, (.mov (.t 0))⟩,
       ⟨(some 52), none, (.mov (.t 1))⟩,
       ⟨(some 53), none, (.slc 1 (.t 51) (some (.t 52)) none none)⟩,
       ⟨(some 54), none, (.copy 1 (.t 50) (.t 53))⟩])
    (.seq (.region false [] [
       ⟨(some 55), none, (.mov (.t 9))⟩,
       ⟨(some 6), none, (.mov (.t 55))⟩])
    .ret))))
    .skip))
  (.seq (.region false [] [
     ⟨(some 56), none, (.mov (.t 0))⟩,
     ⟨(some 57), none, (.mov (.t 8))⟩,
     ⟨(some 58), none, (.mov (.t 7))⟩,
     ⟨(some 59), none, (.bin .add 3 (.t 57) (.t 58))⟩,
     ⟨(some 60), none, (.slc 1 (.t 56) none (some (.t 59)) none)⟩,
     ⟨(some 0), none, (.mov (.t 60))⟩])
  (.seq (.seq (.region false [] [
     ⟨(some 61), none, (.mov (.t 2))⟩,
     ⟨(some 62), none, (.mov (.t 0))⟩,
     ⟨(some 63), none, (.mov (.t 1))⟩,
     ⟨(some 64), none, (.mov (.t 7))⟩,
     ⟨(some 65), none, (.bin .add 3 (.t 63) (.t 64))⟩,
     ⟨(some 66), none, (.slc 1 (.t 62) (some (.t 65)) none none)⟩,
     ⟨(some 67), none, (.bad (some 23) [(.t 61), (.t 66)])⟩,
     ⟨(some 68), none, (.un .not (.t 67))⟩])
  (.cond (.t 68)
    (.seq (.region true [[], [], [], [1, 2], [0, 3], [], [], [5, 6], [4, 7]] [
       ⟨(some 69), none, (.mov (.t 0))⟩,
       ⟨(some 70), none, (.mov (.t 1))⟩,
       ⟨(some 71), none, (.mov (.t 7))⟩,
       ⟨(some 72), none, (.bin .add 3 (.t 70) (.t 71))⟩,
       ⟨(some 73), none, (.slc 1 (.t 69) (some (.t 72)) none none)⟩,
       ⟨(some 74), none, (.mov (.t 0))⟩,
       ⟨(some 75), none, (.mov (.t 1))⟩,
       ⟨(some 76), none, (.slc 1 (.t 74) (some (.t 75)) none none)⟩,
       ⟨(some 77), none, (.copy 1 (.t 73) (.t 76))⟩])
    (.seq (.region false [] [
       ⟨(some 78), none, (.mov (.t 0))⟩,
       ⟨(some 79), none, (.mov (.t 1))⟩,
       ⟨(some 80), none, (.slc 1 (.t 78) (some (.t 79)) none none)⟩,
       ⟨(some 81), none, (.mov (.t 2))⟩,
       ⟨(some 82), none, (.copy 1 (.t 80) (.t 81))⟩])
    (.seq (.region false [] [
       ⟨(some 83), none, (.mov (.t 0))⟩,
       ⟨(some 6), none, (.mov (.t 83))⟩])
    .ret)))
    .skip))
  (.seq (.region false [] [
     ⟨(some 84), none, (.mov (.t 0))⟩,
     ⟨(some 85), none, (.mov (.t 8))⟩,
     ⟨(some 86), none, (.slc 1 (.t 84) (some (.t 85)) none none)⟩,
     ⟨(some 87), none, (.mov (.t 2))⟩,
     ⟨(some 88), none, (.copy 1 (.t 86) (.t 87))⟩])
  (.seq (.region false [] [
     ⟨(some 89), none, (.mov (.t 0))⟩,
     ⟨(some 90), none, (.mov (.t 1))⟩,
     ⟨(some 91), none, (.slc 1 (.t 89) (some (.t 90)) none none)⟩,
     ⟨(some 92), none, (.mov (.t 7))⟩,
     ⟨(some 93), none, (.call 24 [(.t 91), (.t 92)])⟩])
  (.seq (.region false [] [
     ⟨(some 94), none, (.mov (.t 0))⟩,
     ⟨(some 6), none, (.mov (.t 94))⟩])
  .ret))))))))))))
theorem k16 : FnIs Try.prog 16 95 [.t 6] a16 := ⟨_, _, Try.func16, rfl, by kernel_rfl, by kernel_rfl, rfl⟩

/-- x put in before the i-th place. -/
def insL {α : Type} (l : List α) (i : Nat) (x : α) : List α := l.take i ++ x :: l.drop i
theorem insL_len {α : Type} {l : List α} {i : Nat} {x : α} (h : i ≤ l.length) : (insL l i x).length = l.length + 1 := by unfold insL; simp; omega
theorem insL_map {α β : Type} (f : α → β) (l : List α) (i : Nat) (x : α) : (insL l i x).map f = insL (l.map f) i (f x) := by unfold insL; simp
theorem ins_room {L R : List (List AV)} {x : List AV} {i n : Nat} (hn : L.length = n) (hi : i < n) (hR : 0 < R.length) :
    (overEls (overEls (L ++ R) (i + 1) (L.drop i)) i [x]).take (n + 1) = insL L i x := by
  have h1 : (overEls (L ++ R) (i + 1) (L.drop i)).take i = L.take i := by
    unfold overEls
    rw [List.take_append_of_le_length (by simp; omega), List.take_take, List.take_append_of_le_length (by omega), Nat.min_eq_left (by omega)]
  have h2 : (overEls (L ++ R) (i + 1) (L.drop i)).drop (i + 1) = L.drop i ++ (L ++ R).drop (i + 1 + (L.drop i).length) := by
    unfold overEls
    rw [List.drop_left' (by simp; omega)]
  unfold overEls at *
  rw [h1]
  simp only [List.length_cons, List.length_nil, Nat.zero_add]
  rw [h2]
  unfold insL
  rw [List.take_append, List.take_of_length_le (by simp; omega)]
  congr 1
  have h3 : n + 1 - (L.take i).length = (n - i) + 1 := by simp; omega
  rw [h3]
  simp only [List.cons_append, List.nil_append, List.take_succ_cons]
  rw [List.take_append_of_le_length (by simp; omega), List.take_of_length_le (by simp; omega)]
theorem ins_new {L : List (List AV)} {x z : List AV} {i n : Nat} (hn : L.length = n) (hi : i < n) :
    overEls (overEls (L.take i ++ List.replicate (n + 1 - i) z) i [x]) (i + 1) (L.drop i) = insL L i x := by
  have h1 : (overEls (L.take i ++ List.replicate (n + 1 - i) z) i [x]).take (i + 1) = L.take i ++ [x] := by
    unfold overEls
    rw [List.take_left' (i := i) (by rw [List.length_take]; omega), ← List.append_assoc, List.take_left' (by rw [List.length_append, List.length_take, List.length_singleton]; omega)]
  have h2 : (overEls (L.take i ++ List.replicate (n + 1 - i) z) i [x]).length = n + 1 := by
    rw [overEls_length (by rw [List.length_append, List.length_take, List.length_replicate, List.length_singleton]; omega)]
    rw [List.length_append, List.length_take, List.length_replicate]; omega
  generalize overEls (L.take i ++ List.replicate (n + 1 - i) z) i [x] = X at *
  unfold overEls
  rw [h1, List.drop_of_length_le (l := X) (by rw [List.length_drop]; omega)]
  unfold insL
  rw [List.append_nil, List.append_assoc]; rfl
/-- A message of zeros. -/
abbrev zM : List AV := [S ⟨#[]⟩, I 0, I 0, I 0]
theorem cellM (m : Msg) : ∀ y ∈ mc m, cellish y = true := by
  intro y hy
  simp only [List.mem_cons, List.not_mem_nil, or_false] at hy
  rcases hy with rfl | rfl | rfl | rfl <;> rfl
abbrev ic (n : Int) : List AV := [I n]
theorem cellI (n : Int) : ∀ y ∈ ic n, cellish y = true := by
  intro y hy
  rw [List.mem_singleton.1 hy]; rfl

theorem ovOvM : OvlFn Try.prog 21 4 := ⟨_, 22, 4, 29, Try.func21, by kernel_rfl, by kernel_rfl, by kernel_rfl, by kernel_rfl, by kernel_rfl, by kernel_rfl⟩
set_option maxRecDepth 20000 in
theorem s15 (l : List Msg) (m : Msg) (i : Nat) (hi : i ≤ l.length) (hl : l.length ≤ 1000) :
    Aw.Spec Try.prog 15 [.arr 29 4 (l.map mc), .arr 29 4 [mc m]] [.hnd 0 0 l.length l.length false, I i, .hnd 1 0 1 1 true]
      (fun rg v => rg = [.arr 29 4 ((insL l i m).map mc), .arr 29 4 [mc m]] ∧ v = .hnd 0 0 (l.length + 1) (l.length + 1) false) := by
  have hcm := cellM m
  have hcl : ∀ el ∈ l.map mc, ∀ x ∈ el, cellish x = true := fun el hm => by
    obtain ⟨z, _, rfl⟩ := List.mem_map.1 hm
    exact cellM z
  refine Aw.Spec.of k15 rfl fun E hn hnp hp => ?_
  replace hnp : E.np = 2 := hnp
  unfold a15
  have e1 : IntKind.i64.wrap ((l.length : Int) + 1) = ((l.length + 1 : Nat) : Int) := by rw [w64 (by omega) (by omega)]; omega
  have e2 : IntKind.i64.wrap ((i : Int) + 1) = ((i + 1 : Nat) : Int) := by rw [w64 (by omega) (by omega)]; omega
  have e4 : IntKind.i64.wrap (((l.length + 1 : Nat) : Int) - (i : Int)) = ((l.length + 1 - i : Nat) : Int) := by rw [w64 (by omega) (by omega)]; omega
  rcases Nat.eq_or_lt_of_le hi with heq | hlt
  · have e0 : ((i : Int) == (l.length : Int)) = true := by simp; omega
    refine AWp.ofD [] [] hn mixed rfl ?_
    simp (config := { maxSteps := 2000000 }) only [go_sem, ↓reduceIte, Int.reduceToNat, Nat.reduceMul, Int.reduceBEq, Int.reduceBNe, Nat.reduceBEq, Nat.reduceAdd, Nat.reduceSub, Nat.reduceLeDiff, Nat.reduceEqDiff, Nat.reduceLT, reduceCtorEq, e1, e2, e0]
    (repeat (refine And.intro (by first | omega | (refine ⟨by omega, by omega⟩) | (refine ⟨by omega, by omega, by omega⟩) | (simp only [List.length_map, List.length_range, List.length_append, List.length_cons, List.length_nil, List.length_replicate, List.length_set]; omega) | (simp; omega) | (intro hgd; cases hgd) | (intro hgd; refine ⟨hgd, ?_⟩; first | omega | (refine ⟨by omega, by omega⟩) | (simp; omega))) ?_))
    refine AWpL.app (r := 0) (els := l.map mc) (ys := [mc m]) rfl rfl rfl rfl (by rw [hn]; rfl) (by simp) (hp.arr 0 rfl) (Nat.le_refl 1) (fun el hm => by rw [List.mem_singleton.1 hm]; exact hcm) (by simp only [List.length_cons, List.length_nil]; omega) (by simp only [List.length_cons, List.length_nil]; omega) (AWpL.ofM hn rfl ?_)
    simp (config := { maxSteps := 2000000 }) only [go_sem, ↓reduceIte, Int.reduceToNat, Nat.reduceMul, Int.reduceBEq, Int.reduceBNe, Nat.reduceBEq, Nat.reduceAdd, Nat.reduceSub, Nat.reduceLeDiff, Nat.reduceEqDiff, Nat.reduceLT, reduceCtorEq]
    refine Retn.ret (π := [0, 1]) hp hnp ⟨rfl, ?_⟩
    simp (config := { maxSteps := 2000000 }) only [go_sem, ↓reduceIte, Int.reduceToNat, Nat.reduceMul, Int.reduceBEq, Int.reduceBNe, Nat.reduceBEq, Nat.reduceAdd, Nat.reduceSub, Nat.reduceLeDiff, Nat.reduceEqDiff, Nat.reduceLT, reduceCtorEq, Aw.renR, Aw.pos, insL_map]
    unfold insL
    rw [heq, List.take_of_length_le (by simp), List.drop_of_length_le (by simp)]
  refine AWp.reveal (t := 0) (r := 0) (els := l.map mc) rfl rfl fun cc hcc _ => ?_
  refine AWp.ofD [] [] hn mixed rfl ?_
  have e0 : ((i : Int) == (l.length : Int)) = false := by simp; omega
  rcases Nat.lt_or_ge cc (l.length + 1) with hc | hc
  · obtain rfl : cc = l.length := by omega
    have e3 : decide (((l.length + 1 : Nat) : Int) > (l.length : Int)) = true := decide_eq_true (by omega)
    simp (config := { maxSteps := 2000000 }) only [go_sem, ↓reduceIte, Int.reduceToNat, Nat.reduceMul, Int.reduceBEq, Int.reduceBNe, Nat.reduceBEq, Nat.reduceAdd, Nat.reduceSub, Nat.reduceLeDiff, Nat.reduceEqDiff, Nat.reduceLT, reduceCtorEq, Aw.revealS, e1, e2, e0, e3, e4, Nat.sub_self, List.replicate_zero, List.append_nil]
    (repeat (refine And.intro (by first | omega | (refine ⟨by omega, by omega⟩) | (refine ⟨by omega, by omega, by omega⟩) | (simp only [List.length_map, List.length_range, List.length_append, List.length_cons, List.length_nil, List.length_replicate, List.length_set]; omega) | (simp; omega) | (intro hgd; cases hgd) | (intro hgd; refine ⟨hgd, ?_⟩; first | omega | (refine ⟨by omega, by omega⟩) | (simp; omega))) ?_))
    refine AWpL.appzFresh (c := l.length) (els := (l.map mc).take i) (kk := .i64) (m := ((l.length + 1 - i : Nat) : Int)) rfl rfl (by simp; omega) rfl rfl (by rw [hn]; rfl) (by omega) (by simp; omega) (by simp; omega) (by simp; omega) (AWpL.ofM hn rfl ?_)
    have hsum : i + (l.length + 1 - i) = l.length + 1 := by omega
    have h3 : l.length + 1 - (i + 1) = l.length - i := by omega
    have hone : [mc m].take (l.length + 1 - i) = [mc m] := List.take_of_length_le (by simp; omega)
    simp (config := { maxSteps := 2000000 }) only [go_sem, ↓reduceIte, Int.reduceToNat, Nat.reduceMul, Int.reduceBEq, Int.reduceBNe, Nat.reduceBEq, Nat.reduceAdd, Nat.reduceSub, Nat.reduceLeDiff, Nat.reduceEqDiff, Nat.reduceLT, reduceCtorEq, List.length_take, List.length_map, Nat.min_eq_left hi, hsum]
    (repeat (refine And.intro (by first | omega | (refine ⟨by omega, by omega⟩) | (refine ⟨by omega, by omega, by omega⟩) | (simp only [List.length_map, List.length_range, List.length_append, List.length_cons, List.length_nil, List.length_replicate, List.length_set]; omega) | (simp; omega) | (intro hgd; cases hgd) | (intro hgd; refine ⟨hgd, ?_⟩; first | omega | (refine ⟨by omega, by omega⟩) | (simp; omega))) ?_))
    refine AWpL.copy (r := 2) (els := (l.map mc).take i ++ List.replicate (l.length + 1 - i) zM) (ys := [mc m]) rfl rfl rfl rfl (by rw [hn]; rfl) (by simp) (by simp; omega) (fun el hm y hy => by
      rw [List.mem_singleton.1 (List.mem_of_mem_take hm)] at hy; exact hcm y hy) (by omega) (AWpL.ofM hn rfl ?_)
    rw [hone]
    have hfin := ins_new (L := l.map mc) (x := mc m) (z := zM) (i := i) (n := l.length) (by simp) hlt
    have hlen : (overEls ((l.map mc).take i ++ List.replicate (l.length + 1 - i) zM) i [mc m]).length = l.length + 1 := by
      rw [overEls_length (by simp; omega)]; simp; omega
    generalize overEls ((l.map mc).take i ++ List.replicate (l.length + 1 - i) zM) i [mc m] = X at *
    simp (config := { maxSteps := 2000000 }) only [go_sem, ↓reduceIte, Int.reduceToNat, Nat.reduceMul, Int.reduceBEq, Int.reduceBNe, Nat.reduceBEq, Nat.reduceAdd, Nat.reduceSub, Nat.reduceLeDiff, Nat.reduceEqDiff, Nat.reduceLT, reduceCtorEq]
    refine AWp.plan (.take 0 [false, true, true, true, false, true, true, true, false] (.take 1 [true, false, true, false, false, true, true, true, false] (.take 2 [true, true, false, false, false, true, true, true, false] (.take 3 [true, true, true, false, false, true, true, true, false] (.take 4 [true, true, true, true, false, true, true, true, false] (.take 5 [true, true, true, true, true, false, true, false, false] (.take 6 [true, true, true, true, true, true, false, false, false] (.take 7 [true, true, true, true, true, true, true, false, false] (.one 8 .done))))))))) [true, true, true, true, true, true, true, true, false] mixed hn rfl rfl ?_
    simp (config := { maxSteps := 2000000 }) only [go_sem, ↓reduceIte, Int.reduceToNat, Nat.reduceMul, Int.reduceBEq, Int.reduceBNe, Nat.reduceBEq, Nat.reduceAdd, Nat.reduceSub, Nat.reduceLeDiff, Nat.reduceEqDiff, Nat.reduceLT, reduceCtorEq, e1, e2, h3]
    (repeat (refine And.intro (by first | omega | (refine ⟨by omega, by omega⟩) | (refine ⟨by omega, by omega, by omega⟩) | (simp only [List.length_map, List.length_range, List.length_append, List.length_cons, List.length_nil, List.length_replicate, List.length_set]; omega) | (simp; omega) | (intro hgd; cases hgd) | (intro hgd; refine ⟨hgd, ?_⟩; first | omega | (refine ⟨by omega, by omega⟩) | (simp; omega))) ?_))
    refine AOne.rule ?_
    have hys : ((l.map mc).drop i).take (l.length - i) = (l.map mc).drop i := List.take_of_length_le (by simp)
    have hys2 : ((l.map mc).drop i).take (l.length - i) = (l.map mc).drop i := List.take_of_length_le (by simp)
    refine AWpL.copy (r := 2) (els := X) (ys := (l.map mc).drop i) (ob := i + (l.length - i) ≤ (l.map mc).length) rfl rfl (by show some (((l.map mc).drop i).take (l.length - i), _) = _; rw [hys]) rfl (by rw [hn]; rfl) (by simp; omega) (by omega) (fun el hm => hcl el (List.mem_of_mem_drop (List.mem_of_mem_take hm))) (by omega) (AWpL.ofM hn rfl ?_)
    rw [hys, hfin]
    simp (config := { maxSteps := 2000000 }) only [go_sem, ↓reduceIte, Int.reduceToNat, Nat.reduceMul, Int.reduceBEq, Int.reduceBNe, Nat.reduceBEq, Nat.reduceAdd, Nat.reduceSub, Nat.reduceLeDiff, Nat.reduceEqDiff, Nat.reduceLT, reduceCtorEq]
    refine Retn.weak (weak_renP [2, 1] (fun r p hr => by
      obtain ⟨h4, h5⟩ := hp r p hr
      rcases r with _ | _ | r
      · cases h5
      · cases h5
      · omega) rfl) _ ?_
    simp (config := { maxSteps := 2000000 }) only [go_sem, ↓reduceIte, Int.reduceToNat, Nat.reduceMul, Int.reduceBEq, Int.reduceBNe, Nat.reduceBEq, Nat.reduceAdd, Nat.reduceSub, Nat.reduceLeDiff, Nat.reduceEqDiff, Nat.reduceLT, reduceCtorEq, Aw.renS, Aw.pos]
    refine Retn.ret (π := [0, 1]) hp hnp ⟨rfl, ?_⟩
    simp (config := { maxSteps := 2000000 }) only [go_sem, ↓reduceIte, Int.reduceToNat, Nat.reduceMul, Int.reduceBEq, Int.reduceBNe, Nat.reduceBEq, Nat.reduceAdd, Nat.reduceSub, Nat.reduceLeDiff, Nat.reduceEqDiff, Nat.reduceLT, reduceCtorEq, Aw.renR, Aw.pos, insL_map]
  · have e3 : decide (((l.length + 1 : Nat) : Int) > (cc : Int)) = false := decide_eq_false (by omega)
    have h3 : l.length + 1 - (i + 1) = l.length - i := by omega
    have hone : [mc m].take (l.length + 1 - i) = [mc m] := List.take_of_length_le (by simp; omega)
    simp (config := { maxSteps := 2000000 }) only [go_sem, ↓reduceIte, Int.reduceToNat, Nat.reduceMul, Int.reduceBEq, Int.reduceBNe, Nat.reduceBEq, Nat.reduceAdd, Nat.reduceSub, Nat.reduceLeDiff, Nat.reduceEqDiff, Nat.reduceLT, reduceCtorEq, Aw.revealS, e1, e2, e0, e3]
    (repeat (refine And.intro (by first | omega | (refine ⟨by omega, by omega⟩) | (refine ⟨by omega, by omega, by omega⟩) | (simp only [List.length_map, List.length_range, List.length_append, List.length_cons, List.length_nil, List.length_replicate, List.length_set]; omega) | (simp; omega) | (intro hgd; cases hgd) | (intro hgd; refine ⟨hgd, ?_⟩; first | omega | (refine ⟨by omega, by omega⟩) | (simp; omega))) ?_))
    refine AWpL.ovl (f := 21) (sz := 4) ovOvM rfl rfl (by decide) rfl rfl (by decide) (by omega) (by omega) (by rw [hn]; rfl) (AWpL.ofM hn rfl ?_)
    simp (config := { maxSteps := 2000000 }) only [go_sem, ↓reduceIte, Int.reduceToNat, Nat.reduceMul, Int.reduceBEq, Int.reduceBNe, Nat.reduceBEq, Nat.reduceAdd, Nat.reduceSub, Nat.reduceLeDiff, Nat.reduceEqDiff, Nat.reduceLT, reduceCtorEq]
    refine AWp.plan (.take 0 [false, true, true, true, false, true, true, true, false] (.take 1 [true, false, true, false, false, true, true, true, false] (.take 2 [true, true, false, false, false, true, true, true, false] (.take 3 [true, true, true, false, false, true, true, true, false] (.take 4 [true, true, true, true, false, true, true, true, false] (.take 5 [true, true, true, true, true, false, true, false, false] (.take 6 [true, true, true, true, true, true, false, false, false] (.take 7 [true, true, true, true, true, true, true, false, false] (.one 8 .done))))))))) [true, true, true, true, true, true, true, true, false] mixed hn rfl rfl ?_
    simp (config := { maxSteps := 2000000 }) only [go_sem, ↓reduceIte, Int.reduceToNat, Nat.reduceMul, Int.reduceBEq, Int.reduceBNe, Nat.reduceBEq, Nat.reduceAdd, Nat.reduceSub, Nat.reduceLeDiff, Nat.reduceEqDiff, Nat.reduceLT, reduceCtorEq, e1, e2, h3]
    (repeat (refine And.intro (by first | omega | (refine ⟨by omega, by omega⟩) | (refine ⟨by omega, by omega, by omega⟩) | (simp only [List.length_map, List.length_range, List.length_append, List.length_cons, List.length_nil, List.length_replicate, List.length_set]; omega) | (simp; omega) | (intro hgd; cases hgd) | (intro hgd; refine ⟨hgd, ?_⟩; first | omega | (refine ⟨by omega, by omega⟩) | (simp; omega))) ?_))
    refine AOne.rule ?_
    have hys : ((((l.map mc) ++ List.replicate (cc - l.length) (List.replicate 4 AV.any)).drop i).take (l.length + 1 - i)).take (l.length - i) = (l.map mc).drop i := by
      rw [List.take_take, Nat.min_eq_left (by omega), List.drop_append_of_le_length (by simp; omega), List.take_left' (by simp)]
    refine AWpL.copy (r := 0) (els := (l.map mc) ++ List.replicate (cc - l.length) (List.replicate 4 AV.any)) (ys := (((l.map mc) ++ List.replicate (cc - l.length) (List.replicate 4 AV.any)).drop i).take (l.length + 1 - i)) rfl rfl rfl rfl (by rw [hn]; rfl) (by simp; omega) (by simp; omega) (fun el hm => by
      rw [hys] at hm; exact hcl el (List.mem_of_mem_drop hm)) (by omega) (AWpL.ofM hn rfl ?_)
    have hfin := ins_room (L := l.map mc) (R := List.replicate (cc - l.length) (List.replicate 4 AV.any)) (x := mc m) (i := i) (n := l.length) (by simp) hlt (by simp; omega)
    rw [hys]
    have hlen : (overEls ((l.map mc) ++ List.replicate (cc - l.length) (List.replicate 4 AV.any)) (i + 1) ((l.map mc).drop i)).length = cc := by
      rw [overEls_length (by simp; omega)]; simp; omega
    generalize overEls ((l.map mc) ++ List.replicate (cc - l.length) (List.replicate 4 AV.any)) (i + 1) ((l.map mc).drop i) = X at *
    simp (config := { maxSteps := 2000000 }) only [go_sem, ↓reduceIte, Int.reduceToNat, Nat.reduceMul, Int.reduceBEq, Int.reduceBNe, Nat.reduceBEq, Nat.reduceAdd, Nat.reduceSub, Nat.reduceLeDiff, Nat.reduceEqDiff, Nat.reduceLT, reduceCtorEq]
    (repeat (refine And.intro (by first | omega | (refine ⟨by omega, by omega⟩) | (refine ⟨by omega, by omega, by omega⟩) | (simp only [List.length_map, List.length_range, List.length_append, List.length_cons, List.length_nil, List.length_replicate, List.length_set]; omega) | (simp; omega) | (intro hgd; cases hgd) | (intro hgd; refine ⟨hgd, ?_⟩; first | omega | (refine ⟨by omega, by omega⟩) | (simp; omega))) ?_))
    refine AWpL.copy (r := 0) (els := X) (ys := [mc m]) rfl rfl rfl rfl (by rw [hn]; rfl) (by simp) (by omega) (fun el hm y hy => by
      rw [List.mem_singleton.1 (List.mem_of_mem_take hm)] at hy; exact hcm y hy) (by omega) (AWpL.ofM hn rfl ?_)
    rw [hone]
    simp (config := { maxSteps := 2000000 }) only [go_sem, ↓reduceIte, Int.reduceToNat, Nat.reduceMul, Int.reduceBEq, Int.reduceBNe, Nat.reduceBEq, Nat.reduceAdd, Nat.reduceSub, Nat.reduceLeDiff, Nat.reduceEqDiff, Nat.reduceLT, reduceCtorEq]
    refine Retn.weak ((weak_cut 0 (l.length + 1) (by rfl)).trans (weak_ent 6 (by rfl) (Ent.cap _ _ _ _ _))) _ (Retn.ret (π := [0, 1]) hp hnp ⟨rfl, ?_⟩)
    simp (config := { maxSteps := 2000000 }) only [go_sem, ↓reduceIte, Int.reduceToNat, Nat.reduceMul, Int.reduceBEq, Int.reduceBNe, Nat.reduceBEq, Nat.reduceAdd, Nat.reduceSub, Nat.reduceLeDiff, Nat.reduceEqDiff, Nat.reduceLT, reduceCtorEq, Aw.renR, Aw.pos, insL_map, hfin]

theorem ovOvI : OvlFn Try.prog 23 1 := ⟨_, 40, 4, 3, Try.func23, by kernel_rfl, by kernel_rfl, by kernel_rfl, by kernel_rfl, by kernel_rfl, by kernel_rfl⟩
set_option maxRecDepth 20000 in
theorem s16 (l : List Int) (m : Int) (i : Nat) (hi : i ≤ l.length) (hl : l.length ≤ 1000) :
    Aw.Spec Try.prog 16 [.arr 3 1 (l.map ic), .arr 3 1 [ic m]] [.hnd 0 0 l.length l.length false, I i, .hnd 1 0 1 1 true]
      (fun rg v => rg = [.arr 3 1 ((insL l i m).map ic), .arr 3 1 [ic m]] ∧ v = .hnd 0 0 (l.length + 1) (l.length + 1) false) := by
  have hcm := cellI m
  have hcl : ∀ el ∈ l.map ic, ∀ x ∈ el, cellish x = true := fun el hm => by
    obtain ⟨z, _, rfl⟩ := List.mem_map.1 hm
    exact cellI z
  refine Aw.Spec.of k16 rfl fun E hn hnp hp => ?_
  replace hnp : E.np = 2 := hnp
  unfold a16
  have e1 : IntKind.i64.wrap ((l.length : Int) + 1) = ((l.length + 1 : Nat) : Int) := by rw [w64 (by omega) (by omega)]; omega
  have e2 : IntKind.i64.wrap ((i : Int) + 1) = ((i + 1 : Nat) : Int) := by rw [w64 (by omega) (by omega)]; omega
  have e4 : IntKind.i64.wrap (((l.length + 1 : Nat) : Int) - (i : Int)) = ((l.length + 1 - i : Nat) : Int) := by rw [w64 (by omega) (by omega)]; omega
  rcases Nat.eq_or_lt_of_le hi with heq | hlt
  · have e0 : ((i : Int) == (l.length : Int)) = true := by simp; omega
    refine AWp.ofD [] [] hn mixed rfl ?_
    simp (config := { maxSteps := 2000000 }) only [go_sem, ↓reduceIte, Int.reduceToNat, Nat.reduceMul, Int.reduceBEq, Int.reduceBNe, Nat.reduceBEq, Nat.reduceAdd, Nat.reduceSub, Nat.reduceLeDiff, Nat.reduceEqDiff, Nat.reduceLT, reduceCtorEq, e1, e2, e0]
    (repeat (refine And.intro (by first | omega | (refine ⟨by omega, by omega⟩) | (refine ⟨by omega, by omega, by omega⟩) | (simp only [List.length_map, List.length_range, List.length_append, List.length_cons, List.length_nil, List.length_replicate, List.length_set]; omega) | (simp; omega) | (intro hgd; cases hgd) | (intro hgd; refine ⟨hgd, ?_⟩; first | omega | (refine ⟨by omega, by omega⟩) | (simp; omega))) ?_))
    refine AWpL.app (r := 0) (els := l.map ic) (ys := [ic m]) rfl rfl rfl rfl (by rw [hn]; rfl) (by simp) (hp.arr 0 rfl) (Nat.le_refl 1) (fun el hm => by rw [List.mem_singleton.1 hm]; exact hcm) (by simp only [List.length_cons, List.length_nil]; omega) (by simp only [List.length_cons, List.length_nil]; omega) (AWpL.ofM hn rfl ?_)
    simp (config := { maxSteps := 2000000 }) only [go_sem, ↓reduceIte, Int.reduceToNat, Nat.reduceMul, Int.reduceBEq, Int.reduceBNe, Nat.reduceBEq, Nat.reduceAdd, Nat.reduceSub, Nat.reduceLeDiff, Nat.reduceEqDiff, Nat.reduceLT, reduceCtorEq]
    refine Retn.ret (π := [0, 1]) hp hnp ⟨rfl, ?_⟩
    simp (config := { maxSteps := 2000000 }) only [go_sem, ↓reduceIte, Int.reduceToNat, Nat.reduceMul, Int.reduceBEq, Int.reduceBNe, Nat.reduceBEq, Nat.reduceAdd, Nat.reduceSub, Nat.reduceLeDiff, Nat.reduceEqDiff, Nat.reduceLT, reduceCtorEq, Aw.renR, Aw.pos, insL_map]
    unfold insL
    rw [heq, List.take_of_length_le (by simp), List.drop_of_length_le (by simp)]
  refine AWp.reveal (t := 0) (r := 0) (els := l.map ic) rfl rfl fun cc hcc _ => ?_
  refine AWp.ofD [] [] hn mixed rfl ?_
  have e0 : ((i : Int) == (l.length : Int)) = false := by simp; omega
  rcases Nat.lt_or_ge cc (l.length + 1) with hc | hc
  · obtain rfl : cc = l.length := by omega
    have e3 : decide (((l.length + 1 : Nat) : Int) > (l.length : Int)) = true := decide_eq_true (by omega)
    simp (config := { maxSteps := 2000000 }) only [go_sem, ↓reduceIte, Int.reduceToNat, Nat.reduceMul, Int.reduceBEq, Int.reduceBNe, Nat.reduceBEq, Nat.reduceAdd, Nat.reduceSub, Nat.reduceLeDiff, Nat.reduceEqDiff, Nat.reduceLT, reduceCtorEq, Aw.revealS, e1, e2, e0, e3, e4, Nat.sub_self, List.replicate_zero, List.append_nil]
    (repeat (refine And.intro (by first | omega | (refine ⟨by omega, by omega⟩) | (refine ⟨by omega, by omega, by omega⟩) | (simp only [List.length_map, List.length_range, List.length_append, List.length_cons, List.length_nil, List.length_replicate, List.length_set]; omega) | (simp; omega) | (intro hgd; cases hgd) | (intro hgd; refine ⟨hgd, ?_⟩; first | omega | (refine ⟨by omega, by omega⟩) | (simp; omega))) ?_))
    refine AWpL.appzFresh (c := l.length) (els := (l.map ic).take i) (kk := .i64) (m := ((l.length + 1 - i : Nat) : Int)) rfl rfl (by simp; omega) rfl rfl (by rw [hn]; rfl) (by omega) (by simp; omega) (by simp; omega) (by simp; omega) (AWpL.ofM hn rfl ?_)
    have hsum : i + (l.length + 1 - i) = l.length + 1 := by omega
    have h3 : l.length + 1 - (i + 1) = l.length - i := by omega
    have hone : [ic m].take (l.length + 1 - i) = [ic m] := List.take_of_length_le (by simp; omega)
    simp (config := { maxSteps := 2000000 }) only [go_sem, ↓reduceIte, Int.reduceToNat, Nat.reduceMul, Int.reduceBEq, Int.reduceBNe, Nat.reduceBEq, Nat.reduceAdd, Nat.reduceSub, Nat.reduceLeDiff, Nat.reduceEqDiff, Nat.reduceLT, reduceCtorEq, List.length_take, List.length_map, Nat.min_eq_left hi, hsum]
    (repeat (refine And.intro (by first | omega | (refine ⟨by omega, by omega⟩) | (refine ⟨by omega, by omega, by omega⟩) | (simp only [List.length_map, List.length_range, List.length_append, List.length_cons, List.length_nil, List.length_replicate, List.length_set]; omega) | (simp; omega) | (intro hgd; cases hgd) | (intro hgd; refine ⟨hgd, ?_⟩; first | omega | (refine ⟨by omega, by omega⟩) | (simp; omega))) ?_))
    refine AWpL.copy (r := 2) (els := (l.map ic).take i ++ List.replicate (l.length + 1 - i) [I 0]) (ys := [ic m]) rfl rfl rfl rfl (by rw [hn]; rfl) (by simp) (by simp; omega) (fun el hm y hy => by
      rw [List.mem_singleton.1 (List.mem_of_mem_take hm)] at hy; exact hcm y hy) (by omega) (AWpL.ofM hn rfl ?_)
    rw [hone]
    have hfin := ins_new (L := l.map ic) (x := ic m) (z := [I 0]) (i := i) (n := l.length) (by simp) hlt
    have hlen : (overEls ((l.map ic).take i ++ List.replicate (l.length + 1 - i) [I 0]) i [ic m]).length = l.length + 1 := by
      rw [overEls_length (by simp; omega)]; simp; omega
    generalize overEls ((l.map ic).take i ++ List.replicate (l.length + 1 - i) [I 0]) i [ic m] = X at *
    simp (config := { maxSteps := 2000000 }) only [go_sem, ↓reduceIte, Int.reduceToNat, Nat.reduceMul, Int.reduceBEq, Int.reduceBNe, Nat.reduceBEq, Nat.reduceAdd, Nat.reduceSub, Nat.reduceLeDiff, Nat.reduceEqDiff, Nat.reduceLT, reduceCtorEq]
    refine AWp.plan (.take 0 [false, true, true, true, false, true, true, true, false] (.take 1 [true, false, true, false, false, true, true, true, false] (.take 2 [true, true, false, false, false, true, true, true, false] (.take 3 [true, true, true, false, false, true, true, true, false] (.take 4 [true, true, true, true, false, true, true, true, false] (.take 5 [true, true, true, true, true, false, true, false, false] (.take 6 [true, true, true, true, true, true, false, false, false] (.take 7 [true, true, true, true, true, true, true, false, false] (.one 8 .done))))))))) [true, true, true, true, true, true, true, true, false] mixed hn rfl rfl ?_
    simp (config := { maxSteps := 2000000 }) only [go_sem, ↓reduceIte, Int.reduceToNat, Nat.reduceMul, Int.reduceBEq, Int.reduceBNe, Nat.reduceBEq, Nat.reduceAdd, Nat.reduceSub, Nat.reduceLeDiff, Nat.reduceEqDiff, Nat.reduceLT, reduceCtorEq, e1, e2, h3]
    (repeat (refine And.intro (by first | omega | (refine ⟨by omega, by omega⟩) | (refine ⟨by omega, by omega, by omega⟩) | (simp only [List.length_map, List.length_range, List.length_append, List.length_cons, List.length_nil, List.length_replicate, List.length_set]; omega) | (simp; omega) | (intro hgd; cases hgd) | (intro hgd; refine ⟨hgd, ?_⟩; first | omega | (refine ⟨by omega, by omega⟩) | (simp; omega))) ?_))
    refine AOne.rule ?_
    have hys : ((l.map ic).drop i).take (l.length - i) = (l.map ic).drop i := List.take_of_length_le (by simp)
    have hys2 : ((l.map ic).drop i).take (l.length - i) = (l.map ic).drop i := List.take_of_length_le (by simp)
    refine AWpL.copy (r := 2) (els := X) (ys := (l.map ic).drop i) (ob := i + (l.length - i) ≤ (l.map ic).length) rfl rfl (by show some (((l.map ic).drop i).take (l.length - i), _) = _; rw [hys]) rfl (by rw [hn]; rfl) (by simp; omega) (by omega) (fun el hm => hcl el (List.mem_of_mem_drop (List.mem_of_mem_take hm))) (by omega) (AWpL.ofM hn rfl ?_)
    rw [hys, hfin]
    simp (config := { maxSteps := 2000000 }) only [go_sem, ↓reduceIte, Int.reduceToNat, Nat.reduceMul, Int.reduceBEq, Int.reduceBNe, Nat.reduceBEq, Nat.reduceAdd, Nat.reduceSub, Nat.reduceLeDiff, Nat.reduceEqDiff, Nat.reduceLT, reduceCtorEq]
    refine Retn.weak (weak_renP [2, 1] (fun r p hr => by
      obtain ⟨h4, h5⟩ := hp r p hr
      rcases r with _ | _ | r
      · cases h5
      · cases h5
      · omega) rfl) _ ?_
    simp (config := { maxSteps := 2000000 }) only [go_sem, ↓reduceIte, Int.reduceToNat, Nat.reduceMul, Int.reduceBEq, Int.reduceBNe, Nat.reduceBEq, Nat.reduceAdd, Nat.reduceSub, Nat.reduceLeDiff, Nat.reduceEqDiff, Nat.reduceLT, reduceCtorEq, Aw.renS, Aw.pos]
    refine Retn.ret (π := [0, 1]) hp hnp ⟨rfl, ?_⟩
    simp (config := { maxSteps := 2000000 }) only [go_sem, ↓reduceIte, Int.reduceToNat, Nat.reduceMul, Int.reduceBEq, Int.reduceBNe, Nat.reduceBEq, Nat.reduceAdd, Nat.reduceSub, Nat.reduceLeDiff, Nat.reduceEqDiff, Nat.reduceLT, reduceCtorEq, Aw.renR, Aw.pos, insL_map]
  · have e3 : decide (((l.length + 1 : Nat) : Int) > (cc : Int)) = false := decide_eq_false (by omega)
    have h3 : l.length + 1 - (i + 1) = l.length - i := by omega
    have hone : [ic m].take (l.length + 1 - i) = [ic m] := List.take_of_length_le (by simp; omega)
    simp (config := { maxSteps := 2000000 }) only [go_sem, ↓reduceIte, Int.reduceToNat, Nat.reduceMul, Int.reduceBEq, Int.reduceBNe, Nat.reduceBEq, Nat.reduceAdd, Nat.reduceSub, Nat.reduceLeDiff, Nat.reduceEqDiff, Nat.reduceLT, reduceCtorEq, Aw.revealS, e1, e2, e0, e3]
    (repeat (refine And.intro (by first | omega | (refine ⟨by omega, by omega⟩) | (refine ⟨by omega, by omega, by omega⟩) | (simp only [List.length_map, List.length_range, List.length_append, List.length_cons, List.length_nil, List.length_replicate, List.length_set]; omega) | (simp; omega) | (intro hgd; cases hgd) | (intro hgd; refine ⟨hgd, ?_⟩; first | omega | (refine ⟨by omega, by omega⟩) | (simp; omega))) ?_))
    refine AWpL.ovl (f := 23) (sz := 1) ovOvI rfl rfl (by decide) rfl rfl (by decide) (by omega) (by omega) (by rw [hn]; rfl) (AWpL.ofM hn rfl ?_)
    simp (config := { maxSteps := 2000000 }) only [go_sem, ↓reduceIte, Int.reduceToNat, Nat.reduceMul, Int.reduceBEq, Int.reduceBNe, Nat.reduceBEq, Nat.reduceAdd, Nat.reduceSub, Nat.reduceLeDiff, Nat.reduceEqDiff, Nat.reduceLT, reduceCtorEq]
    refine AWp.plan (.take 0 [false, true, true, true, false, true, true, true, false] (.take 1 [true, false, true, false, false, true, true, true, false] (.take 2 [true, true, false, false, false, true, true, true, false] (.take 3 [true, true, true, false, false, true, true, true, false] (.take 4 [true, true, true, true, false, true, true, true, false] (.take 5 [true, true, true, true, true, false, true, false, false] (.take 6 [true, true, true, true, true, true, false, false, false] (.take 7 [true, true, true, true, true, true, true, false, false] (.one 8 .done))))))))) [true, true, true, true, true, true, true, true, false] mixed hn rfl rfl ?_
    simp (config := { maxSteps := 2000000 }) only [go_sem, ↓reduceIte, Int.reduceToNat, Nat.reduceMul, Int.reduceBEq, Int.reduceBNe, Nat.reduceBEq, Nat.reduceAdd, Nat.reduceSub, Nat.reduceLeDiff, Nat.reduceEqDiff, Nat.reduceLT, reduceCtorEq, e1, e2, h3]
    (repeat (refine And.intro (by first | omega | (refine ⟨by omega, by omega⟩) | (refine ⟨by omega, by omega, by omega⟩) | (simp only [List.length_map, List.length_range, List.length_append, List.length_cons, List.length_nil, List.length_replicate, List.length_set]; omega) | (simp; omega) | (intro hgd; cases hgd) | (intro hgd; refine ⟨hgd, ?_⟩; first | omega | (refine ⟨by omega, by omega⟩) | (simp; omega))) ?_))
    refine AOne.rule ?_
    have hys : ((((l.map ic) ++ List.replicate (cc - l.length) (List.replicate 1 AV.any)).drop i).take (l.length + 1 - i)).take (l.length - i) = (l.map ic).drop i := by
      rw [List.take_take, Nat.min_eq_left (by omega), List.drop_append_of_le_length (by simp; omega), List.take_left' (by simp)]
    refine AWpL.copy (r := 0) (els := (l.map ic) ++ List.replicate (cc - l.length) (List.replicate 1 AV.any)) (ys := (((l.map ic) ++ List.replicate (cc - l.length) (List.replicate 1 AV.any)).drop i).take (l.length + 1 - i)) rfl rfl rfl rfl (by rw [hn]; rfl) (by simp; omega) (by simp; omega) (fun el hm => by
      rw [hys] at hm; exact hcl el (List.mem_of_mem_drop hm)) (by omega) (AWpL.ofM hn rfl ?_)
    have hfin := ins_room (L := l.map ic) (R := List.replicate (cc - l.length) (List.replicate 1 AV.any)) (x := ic m) (i := i) (n := l.length) (by simp) hlt (by simp; omega)
    rw [hys]
    have hlen : (overEls ((l.map ic) ++ List.replicate (cc - l.length) (List.replicate 1 AV.any)) (i + 1) ((l.map ic).drop i)).length = cc := by
      rw [overEls_length (by simp; omega)]; simp; omega
    generalize overEls ((l.map ic) ++ List.replicate (cc - l.length) (List.replicate 1 AV.any)) (i + 1) ((l.map ic).drop i) = X at *
    simp (config := { maxSteps := 2000000 }) only [go_sem, ↓reduceIte, Int.reduceToNat, Nat.reduceMul, Int.reduceBEq, Int.reduceBNe, Nat.reduceBEq, Nat.reduceAdd, Nat.reduceSub, Nat.reduceLeDiff, Nat.reduceEqDiff, Nat.reduceLT, reduceCtorEq]
    (repeat (refine And.intro (by first | omega | (refine ⟨by omega, by omega⟩) | (refine ⟨by omega, by omega, by omega⟩) | (simp only [List.length_map, List.length_range, List.length_append, List.length_cons, List.length_nil, List.length_replicate, List.length_set]; omega) | (simp; omega) | (intro hgd; cases hgd) | (intro hgd; refine ⟨hgd, ?_⟩; first | omega | (refine ⟨by omega, by omega⟩) | (simp; omega))) ?_))
    refine AWpL.copy (r := 0) (els := X) (ys := [ic m]) rfl rfl rfl rfl (by rw [hn]; rfl) (by simp) (by omega) (fun el hm y hy => by
      rw [List.mem_singleton.1 (List.mem_of_mem_take hm)] at hy; exact hcm y hy) (by omega) (AWpL.ofM hn rfl ?_)
    rw [hone]
    simp (config := { maxSteps := 2000000 }) only [go_sem, ↓reduceIte, Int.reduceToNat, Nat.reduceMul, Int.reduceBEq, Int.reduceBNe, Nat.reduceBEq, Nat.reduceAdd, Nat.reduceSub, Nat.reduceLeDiff, Nat.reduceEqDiff, Nat.reduceLT, reduceCtorEq]
    refine Retn.weak ((weak_cut 0 (l.length + 1) (by rfl)).trans (weak_ent 6 (by rfl) (Ent.cap _ _ _ _ _))) _ (Retn.ret (π := [0, 1]) hp hnp ⟨rfl, ?_⟩)
    simp (config := { maxSteps := 2000000 }) only [go_sem, ↓reduceIte, Int.reduceToNat, Nat.reduceMul, Int.reduceBEq, Int.reduceBNe, Nat.reduceBEq, Nat.reduceAdd, Nat.reduceSub, Nat.reduceLeDiff, Nat.reduceEqDiff, Nat.reduceLT, reduceCtorEq, Aw.renR, Aw.pos, insL_map, hfin]

end Go.Proofs.Ytfbddidlipeegaa
