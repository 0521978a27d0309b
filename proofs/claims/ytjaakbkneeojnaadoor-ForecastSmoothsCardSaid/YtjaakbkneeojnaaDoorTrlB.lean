/- Texts: HasPrefix, CutPrefix, Cut at one byte. -/
import Derived.Test.YtjaakbkneeojnaaDoorAwZl
import Derived.Test.YtjaakbkneeojnaaDoorTrlA
set_option linter.unusedVariables false
set_option linter.unusedSimpArgs false
namespace Go.Proofs.YtjaakbkneeojnaaDoor
open Go.Proofs.YtjaakbkneeojnaaDoor.Aw
attribute [local go_sem] Int.natCast_zero Int.natCast_one bne_self_eq_false beq_self_eq_true Bool.not_true Bool.not_false Option.isSome_none Option.isSome_some Aw.bkM_nil Option.getD_some Option.getD_none Nat.sub_zero Int.toNat_zero Aw.frzS Aw.frzT Aw.frzA Aw.frzL Aw.frzR Aw.frzO Aw.frzOL Aw.frzOT Aw.frzOR Aw.killS Aw.mapT Aw.mapR Aw.killM Aw.resAVs Aw.resAV Aw.quietOps Aw.wpP Aw.wpT Aw.wpS Aw.AOp.mild List.getElem?_cons_zero List.getElem?_cons_succ Bool.and_false Bool.and_self Bool.false_and Aw.opOb Aw.gdB Aw.Rnd Aw.subTm List.length_map Int.toNat_natCast and_self Aw.SeqC Aw.stops Aw.Ends Aw.looks Aw.renA Aw.renL Aw.renT Aw.renS Aw.wpO Aw.aop Aw.putTm Aw.St.ev Aw.St.put Aw.St.putO Aw.binAV Aw.intBin Aw.strBin Aw.pickAV Aw.optInt Aw.AV.strip Aw.AV.guard Aw.AV.cells Aw.gdOb Aw.AOp.opds Aw.AOp.still Aw.ptrCells Aw.St.reg Aw.fillAV Aw.fillOb Aw.elsOb Aw.splice Aw.firm Aw.cellish Aw.AV.shut Aw.shutAll Aw.Seq Aw.Blk Aw.retS_nil Aw.mapA Aw.mapL Aw.borA Aw.borOb Aw.allOb Aw.tupOf Aw.params Aw.Opd.of Array.toList Value.cells List.map_cons List.map_nil List.getD_cons_zero List.getD_cons_succ List.getD_nil List.length_cons List.length_nil List.take_succ_cons List.take_zero List.take_nil List.drop_zero List.drop_succ_cons List.drop_nil List.set_cons_zero List.set_cons_succ List.append_nil List.nil_append List.cons_append List.all_cons List.all_nil cond_false cond_true if_true if_false true_and and_true Bool.and_true Bool.true_and Option.map_some Option.map_none false_implies forall_const implies_true forall_eq imp_self Bool.cond_false_right Bool.cond_true_left beq_true beq_false Bool.not_eq_true' Bool.false_eq_true Nat.zero_add Nat.add_zero Aw.eqCells Aw.stopDraw Aw.skipS Aw.exactCap Aw.revealS Aw.srcEls Aw.srcSz
attribute [local go_sem ↓] Aw.look_nil Aw.look_ite Aw.wpL_nil Aw.wpL_op Aw.wpL_gd Aw.wpQ_nil Aw.wpQ_op Aw.wpQ_gd Aw.wpC_draw Aw.wpC_reg Aw.wpC_skip Aw.wpC_ret Aw.wpC_exit Aw.wpC_seq Aw.wpC_block Aw.wpC_loop Aw.wpC_cond Aw.stopAt_nil Aw.stopAt_cons Aw.wpD_skip Aw.wpD_ret Aw.wpD_exit Aw.wpD_region Aw.wpD_draw Aw.wpM_nil Aw.wpM_op Aw.wpM_gd Aw.wpD_seq Aw.wpD_block Aw.wpD_loop Aw.wpD_cond
/- internal/stringslite.HasPrefix -/
def a86 : ACode :=
  (.seq (.region false [] [
     ⟨(some 4), none, (.mov (.v (.bool false)))⟩])
  (.seq (.region false [] [
     ⟨(some 5), none, (.mov (.t 0))⟩,
     ⟨(some 6), none, (.lens (.t 5))⟩,
     ⟨(some 7), none, (.mov (.t 1))⟩,
     ⟨(some 8), none, (.lens (.t 7))⟩,
     ⟨(some 9), none, (.bin .geq 3 (.t 6) (.t 8))⟩,
     ⟨(some 10), none, (.mov (.t 9))⟩,
     ⟨(some 11), (some (10, true)), (.mov (.t 0))⟩,
     ⟨(some 12), (some (10, true)), (.mov (.t 1))⟩,
     ⟨(some 13), (some (10, true)), (.lens (.t 12))⟩,
     ⟨(some 14), (some (10, true)), (.slcs (.t 11) none (some (.t 13)))⟩,
     ⟨(some 15), (some (10, true)), (.mov (.t 1))⟩,
     ⟨(some 16), (some (10, true)), (.bin .eql 9 (.t 14) (.t 15))⟩,
     ⟨(some 17), none, (.pick (.t 10) (.t 16) (.v (.bool false)))⟩,
     ⟨(some 4), none, (.mov (.t 17))⟩])
  .ret))
theorem k86 : FnIs Tryd.prog 86 18 [.t 4] a86 := ⟨_, _, Tryd.func86, rfl, by kernel_rfl, by kernel_rfl, rfl⟩
/- internal/stringslite.CutPrefix -/
def a79 : ACode :=
  (.seq (.region false [] [
     ⟨(some 4), none, (.mov (.v (.string ⟨#[]⟩)))⟩,
     ⟨(some 5), none, (.mov (.v (.bool false)))⟩])
  (.seq (.seq (.region false [] [
     ⟨(some 6), none, (.mov (.t 0))⟩,
     ⟨(some 7), none, (.mov (.t 1))⟩,
     ⟨(some 8), none, (.call 86 [(.t 6), (.t 7)])⟩,
     ⟨(some 9), none, (.un .not (.t 8))⟩])
  (.cond (.t 9)
    (.seq (.region false [] [
       ⟨(some 10), none, (.mov (.t 0))⟩,
       ⟨(some 4), none, (.mov (.t 10))⟩,
       ⟨(some 5), none, (.mov (.v (.bool false)))⟩])
    .ret)
    .skip))
  (.seq (.region false [] [
     ⟨(some 11), none, (.mov (.t 0))⟩,
     ⟨(some 12), none, (.mov (.t 1))⟩,
     ⟨(some 13), none, (.lens (.t 12))⟩,
     ⟨(some 14), none, (.slcs (.t 11) (some (.t 13)) none)⟩,
     ⟨(some 4), none, (.mov (.t 14))⟩,
     ⟨(some 5), none, (.mov (.v (.bool true)))⟩])
  .ret)))
theorem k79 : FnIs Tryd.prog 79 15 [.t 4, .t 5] a79 := ⟨_, _, Tryd.func79, rfl, by kernel_rfl, by kernel_rfl, rfl⟩
/- strings.CutPrefix -/
def a63 : ACode :=
  (.seq (.region false [] [
     ⟨(some 4), none, (.mov (.v (.string ⟨#[]⟩)))⟩,
     ⟨(some 5), none, (.mov (.v (.bool false)))⟩])
  (.seq (.region false [] [
     ⟨(some 6), none, (.mov (.t 0))⟩,
     ⟨(some 7), none, (.mov (.t 1))⟩,
     ⟨(some 8), none, (.call 79 [(.t 6), (.t 7)])⟩,
     ⟨(some 9), none, (.ext 0 (.t 8))⟩,
     ⟨(some 10), none, (.ext 1 (.t 8))⟩,
     ⟨(some 4), none, (.mov (.t 9))⟩,
     ⟨(some 5), none, (.mov (.t 10))⟩])
  .ret))
theorem k63 : FnIs Tryd.prog 63 11 [.t 4, .t 5] a63 := ⟨_, _, Tryd.func63, rfl, by kernel_rfl, by kernel_rfl, rfl⟩
/- internal/stringslite.Cut -/
def a80 : ACode :=
  (.seq (.region false [] [
     ⟨(some 4), none, (.mov (.v (.string ⟨#[]⟩)))⟩,
     ⟨(some 5), none, (.mov (.v (.string ⟨#[]⟩)))⟩,
     ⟨(some 6), none, (.mov (.v (.bool false)))⟩])
  (.seq (.seq (.region false [] [
     ⟨(some 8), none, (.mov (.t 0))⟩,
     ⟨(some 9), none, (.mov (.t 1))⟩,
     ⟨(some 10), none, (.call 87 [(.t 8), (.t 9)])⟩,
     ⟨(some 7), none, (.mov (.t 10))⟩])
  (.seq (.region false [] [
     ⟨(some 11), none, (.mov (.t 7))⟩,
     ⟨(some 12), none, (.bin .geq 3 (.t 11) (.v (.int .i64 0)))⟩])
  (.cond (.t 12)
    (.seq (.region true [[], [], [0, 1], [], [], [], [5], [4, 6], [3, 7], [2, 0, 1, 2], [8, 9, 0, 1, 2, 3, 4, 5, 6, 7, 8, 9], [10, 0, 1, 2, 3, 4, 5, 6, 7, 8, 9, 10]] [
       ⟨(some 13), none, (.mov (.t 0))⟩,
       ⟨(some 14), none, (.mov (.t 7))⟩,
       ⟨(some 15), none, (.slcs (.t 13) none (some (.t 14)))⟩,
       ⟨(some 16), none, (.mov (.t 0))⟩,
       ⟨(some 17), none, (.mov (.t 7))⟩,
       ⟨(some 18), none, (.mov (.t 1))⟩,
       ⟨(some 19), none, (.lens (.t 18))⟩,
       ⟨(some 20), none, (.bin .add 3 (.t 17) (.t 19))⟩,
       ⟨(some 21), none, (.slcs (.t 16) (some (.t 20)) none)⟩,
       ⟨(some 4), none, (.mov (.t 15))⟩,
       ⟨(some 5), none, (.mov (.t 21))⟩,
       ⟨(some 6), none, (.mov (.v (.bool true)))⟩])
    .ret)
    .skip)))
  (.seq (.region false [] [
     ⟨(some 22), none, (.mov (.t 0))⟩,
     ⟨(some 4), none, (.mov (.t 22))⟩,
     ⟨(some 5), none, (.mov (.v (.string ⟨#[]⟩)))⟩,
     ⟨(some 6), none, (.mov (.v (.bool false)))⟩])
  .ret)))
theorem k80 : FnIs Tryd.prog 80 23 [.t 4, .t 5, .t 6] a80 := ⟨_, _, Tryd.func80, rfl, by kernel_rfl, by kernel_rfl, rfl⟩
/- strings.Cut -/
def a64 : ACode :=
  (.seq (.region false [] [
     ⟨(some 4), none, (.mov (.v (.string ⟨#[]⟩)))⟩,
     ⟨(some 5), none, (.mov (.v (.string ⟨#[]⟩)))⟩,
     ⟨(some 6), none, (.mov (.v (.bool false)))⟩])
  (.seq (.region false [] [
     ⟨(some 7), none, (.mov (.t 0))⟩,
     ⟨(some 8), none, (.mov (.t 1))⟩,
     ⟨(some 9), none, (.call 80 [(.t 7), (.t 8)])⟩,
     ⟨(some 10), none, (.ext 0 (.t 9))⟩,
     ⟨(some 11), none, (.ext 1 (.t 9))⟩,
     ⟨(some 12), none, (.ext 2 (.t 9))⟩,
     ⟨(some 4), none, (.mov (.t 10))⟩,
     ⟨(some 5), none, (.mov (.t 11))⟩,
     ⟨(some 6), none, (.mov (.t 12))⟩])
  .ret))
theorem k64 : FnIs Tryd.prog 64 13 [.t 4, .t 5, .t 6] a64 := ⟨_, _, Tryd.func64, rfl, by kernel_rfl, by kernel_rfl, rfl⟩

/-- A text of bytes. -/
def bA (l : List UInt8) : ByteArray := ⟨l.toArray⟩
theorem bA_list (l : List UInt8) : (bA l).data.toList = l := rfl
theorem bA_data (s : ByteArray) : bA s.data.toList = s := by
  cases s with | mk d => simp [bA]
theorem bA_size (l : List UInt8) : (bA l).size = l.length := rfl
theorem bA_ext (l : List UInt8) (a b : Nat) : (bA l).extract a b = bA ((l.take b).drop a) := by
  rw [← bA_data ((bA l).extract a b)]
  congr 1
  rw [ByteArray.data_extract, Array.toList_extract, List.extract_eq_take_drop, bA_list, List.drop_take]
theorem bA_toList (l : List UInt8) : (bA l).toList = l := by rw [Lib.toList_data]; rfl
/-- Does a text begin with a byte? -/
def begins (c : UInt8) (l : List UInt8) : Bool := l.head? == some c
set_option maxRecDepth 20000 in
theorem s86 (l : List UInt8) (c : UInt8) (hl : l.length ≤ 9223372036854775807) : Aw.Spec Tryd.prog 86 [] [S (bA l), S ⟨#[c]⟩] (Gives (· = B (begins c l))) := by
  refine Aw.Spec.givesD k86 mixed rfl rfl rfl fun E hn hnp hp => ?_
  unfold a86
  have e1 : (⟨#[c]⟩ : ByteArray).toList = [c] := by rw [Lib.toList_data]
  have e2 : (⟨#[c]⟩ : ByteArray).size = 1 := rfl
  simp (config := { maxSteps := 2000000 }) only [go_sem, ↓reduceIte, Int.reduceToNat, Nat.reduceMul, Int.reduceBEq, Int.reduceBNe, Nat.reduceBEq, Nat.reduceAdd, Nat.reduceSub, Nat.reduceLeDiff, Nat.reduceEqDiff, Nat.reduceLT, reduceCtorEq, bA_size, bA_ext, bA_toList, e1, e2, Option.toList_none, Option.toList_some]
  refine ⟨fun h => ⟨h, by omega, by omega, by have := of_decide_eq_true h; omega⟩, ?_⟩
  congr 2
  unfold begins
  cases l with
  | nil => rfl
  | cons x l =>
    have : decide (((x :: l).length : Int) ≥ 1) = true := decide_eq_true (by rw [List.length_cons]; omega)
    rw [this, Bool.true_and]
    show ([x] == [c]) = (some x == some c)
    by_cases h : x = c
    · subst h; simp
    · rw [beq_eq_false_iff_ne.2 (by simpa using h), beq_eq_false_iff_ne.2 (by simpa using h)]
theorem s79 (l : List UInt8) (c : UInt8) (hl : l.length ≤ 9223372036854775807) : Aw.Spec Tryd.prog 79 [] [S (bA l), S ⟨#[c]⟩] (Gives (· = .tup [S (bA (if begins c l = true then l.tail else l)), B (begins c l)])) := by
  refine Aw.Spec.givesD k79 mixed rfl rfl rfl fun E hn hnp hp => ?_
  unfold a79
  have e2 : (⟨#[c]⟩ : ByteArray).size = 1 := rfl
  simp (config := { maxSteps := 2000000 }) only [go_sem, ↓reduceIte, Int.reduceToNat, Nat.reduceMul, Int.reduceBEq, Int.reduceBNe, Nat.reduceBEq, Nat.reduceAdd, Nat.reduceSub, Nat.reduceLeDiff, Nat.reduceEqDiff, Nat.reduceLT, reduceCtorEq]
  (refine AWpL.calle (s86 l c hl) rfl (by rw [hn]; rfl) (by simp (config := { maxSteps := 2000000 }) only [go_sem, ↓reduceIte, Int.reduceToNat, Nat.reduceMul, Int.reduceBEq, Int.reduceBNe, Nat.reduceBEq, Nat.reduceAdd, Nat.reduceSub, Nat.reduceLeDiff, Nat.reduceEqDiff, Nat.reduceLT, reduceCtorEq]) (AWpL.ofM hn rfl ?_); simp (config := { maxSteps := 2000000 }) only [go_sem, ↓reduceIte, Int.reduceToNat, Nat.reduceMul, Int.reduceBEq, Int.reduceBNe, Nat.reduceBEq, Nat.reduceAdd, Nat.reduceSub, Nat.reduceLeDiff, Nat.reduceEqDiff, Nat.reduceLT, reduceCtorEq])
  have e3 : (#[c] : Array UInt8).size = 1 := rfl
  refine ⟨fun h => by rw [h]; rfl, fun h => ?_⟩
  have h2 : begins c l = true := by simpa using h
  have hl1 : 1 ≤ l.length := by
    cases l with
    | nil => unfold begins at h2; simp at h2
    | cons => rw [List.length_cons]; omega
  rw [e3]
  refine ⟨⟨by omega, by rw [bA_size]; omega, Int.le_refl _⟩, ?_⟩
  rw [h2, if_pos rfl, bA_ext, bA_size, List.take_length, List.drop_one]
theorem s63 (l : List UInt8) (c : UInt8) (hl : l.length ≤ 9223372036854775807) : Aw.Spec Tryd.prog 63 [] [S (bA l), S ⟨#[c]⟩] (Gives (· = .tup [S (bA (if begins c l = true then l.tail else l)), B (begins c l)])) := by
  refine Aw.Spec.givesD k63 mixed rfl rfl rfl fun E hn hnp hp => ?_
  unfold a63
  simp (config := { maxSteps := 2000000 }) only [go_sem, ↓reduceIte, Int.reduceToNat, Nat.reduceMul, Int.reduceBEq, Int.reduceBNe, Nat.reduceBEq, Nat.reduceAdd, Nat.reduceSub, Nat.reduceLeDiff, Nat.reduceEqDiff, Nat.reduceLT, reduceCtorEq]
  (refine AWpL.calle (s79 l c hl) rfl (by rw [hn]; rfl) (by simp (config := { maxSteps := 2000000 }) only [go_sem, ↓reduceIte, Int.reduceToNat, Nat.reduceMul, Int.reduceBEq, Int.reduceBNe, Nat.reduceBEq, Nat.reduceAdd, Nat.reduceSub, Nat.reduceLeDiff, Nat.reduceEqDiff, Nat.reduceLT, reduceCtorEq]) (AWpL.ofM hn rfl ?_); simp (config := { maxSteps := 2000000 }) only [go_sem, ↓reduceIte, Int.reduceToNat, Nat.reduceMul, Int.reduceBEq, Int.reduceBNe, Nat.reduceBEq, Nat.reduceAdd, Nat.reduceSub, Nat.reduceLeDiff, Nat.reduceEqDiff, Nat.reduceLT, reduceCtorEq])
/-- A text cut at a byte: what is before it, what is behind it, whether it is there. -/
def cutL (c : UInt8) (l : List UInt8) : List UInt8 × List UInt8 × Bool := if c ∈ l then (l.takeWhile (· != c), (l.dropWhile (· != c)).tail, true) else (l, [], false)
theorem idx_cases (c : UInt8) : ∀ l : List UInt8, (Lib.indexByte l c = -1 ∧ c ∉ l) ∨ ∃ i : Nat, Lib.indexByte l c = i ∧ i < l.length ∧ c ∈ l ∧ l.takeWhile (· != c) = l.take i ∧ (l.dropWhile (· != c)).tail = l.drop (i + 1)
  | [] => .inl ⟨rfl, by simp⟩
  | b :: l => by
    unfold Lib.indexByte
    by_cases h : b = c
    · subst h
      right
      refine ⟨0, by simp, by simp, by simp, ?_, ?_⟩
      · rw [List.takeWhile_cons, if_neg (by simp)]; rfl
      · rw [List.dropWhile_cons, if_neg (by simp)]; rfl
    · rw [if_neg (by simpa using h)]
      rcases idx_cases c l with ⟨h1, h2⟩ | ⟨i, h1, h2, h3, h4, h5⟩
      · left
        rw [h1, if_pos (by rfl)]
        exact ⟨rfl, by simp [Ne.symm h, h2]⟩
      · right
        rw [h1, if_neg (by rw [beq_iff_eq]; omega)]
        refine ⟨i + 1, by omega, by rw [List.length_cons]; omega, List.mem_cons_of_mem _ h3, ?_, ?_⟩
        · rw [List.takeWhile_cons, if_pos (by simpa using h), h4]; rfl
        · rw [List.dropWhile_cons, if_pos (by simpa using h), h5]; rfl
theorem s80 (l : List UInt8) (c : UInt8) (hl : l.length ≤ 9223372036854775807) : Aw.Spec Tryd.prog 80 [] [S (bA l), S ⟨#[c]⟩] (Gives (· = .tup [S (bA (cutL c l).1), S (bA (cutL c l).2.1), B (cutL c l).2.2])) := by
  refine Aw.Spec.givesD k80 mixed rfl rfl rfl fun E hn hnp hp => ?_
  unfold a80
  simp (config := { maxSteps := 2000000 }) only [go_sem, ↓reduceIte, Int.reduceToNat, Nat.reduceMul, Int.reduceBEq, Int.reduceBNe, Nat.reduceBEq, Nat.reduceAdd, Nat.reduceSub, Nat.reduceLeDiff, Nat.reduceEqDiff, Nat.reduceLT, reduceCtorEq]
  (refine AWpL.calle (s87 (bA l) c) rfl (by rw [hn]; rfl) (by simp (config := { maxSteps := 2000000 }) only [go_sem, ↓reduceIte, Int.reduceToNat, Nat.reduceMul, Int.reduceBEq, Int.reduceBNe, Nat.reduceBEq, Nat.reduceAdd, Nat.reduceSub, Nat.reduceLeDiff, Nat.reduceEqDiff, Nat.reduceLT, reduceCtorEq]) (AWpL.ofM hn rfl ?_); simp (config := { maxSteps := 2000000 }) only [go_sem, ↓reduceIte, Int.reduceToNat, Nat.reduceMul, Int.reduceBEq, Int.reduceBNe, Nat.reduceBEq, Nat.reduceAdd, Nat.reduceSub, Nat.reduceLeDiff, Nat.reduceEqDiff, Nat.reduceLT, reduceCtorEq])
  have e3 : (#[c] : Array UInt8).size = 1 := rfl
  rw [bA_list, e3]
  unfold cutL
  rcases idx_cases c l with ⟨h1, h2⟩ | ⟨i, h1, h2, h3, h4, h5⟩
  · rw [h1, if_neg h2]
    exact ⟨fun h => absurd h (by decide), fun _ => rfl⟩
  · have e4 : IntKind.i64.wrap ((i : Int) + ((1 : Nat) : Int)) = ((i + 1 : Nat) : Int) := by rw [w64 (by omega) (by omega)]; rfl
    rw [h1, if_pos h3, e4]
    refine ⟨fun _ => ⟨⟨by omega, by omega, by rw [bA_size]; omega⟩, ⟨by omega, by rw [bA_size]; omega, Int.le_refl _⟩, ?_⟩, fun h => absurd (of_decide_eq_false h) (by omega)⟩
    rw [bA_ext, bA_ext, bA_size, List.take_length, Int.toNat_natCast, Int.toNat_natCast, List.drop_zero, h4, h5]
theorem s64 (l : List UInt8) (c : UInt8) (hl : l.length ≤ 9223372036854775807) : Aw.Spec Tryd.prog 64 [] [S (bA l), S ⟨#[c]⟩] (Gives (· = .tup [S (bA (cutL c l).1), S (bA (cutL c l).2.1), B (cutL c l).2.2])) := by
  refine Aw.Spec.givesD k64 mixed rfl rfl rfl fun E hn hnp hp => ?_
  unfold a64
  simp (config := { maxSteps := 2000000 }) only [go_sem, ↓reduceIte, Int.reduceToNat, Nat.reduceMul, Int.reduceBEq, Int.reduceBNe, Nat.reduceBEq, Nat.reduceAdd, Nat.reduceSub, Nat.reduceLeDiff, Nat.reduceEqDiff, Nat.reduceLT, reduceCtorEq]
  (refine AWpL.calle (s80 l c hl) rfl (by rw [hn]; rfl) (by simp (config := { maxSteps := 2000000 }) only [go_sem, ↓reduceIte, Int.reduceToNat, Nat.reduceMul, Int.reduceBEq, Int.reduceBNe, Nat.reduceBEq, Nat.reduceAdd, Nat.reduceSub, Nat.reduceLeDiff, Nat.reduceEqDiff, Nat.reduceLT, reduceCtorEq]) (AWpL.ofM hn rfl ?_); simp (config := { maxSteps := 2000000 }) only [go_sem, ↓reduceIte, Int.reduceToNat, Nat.reduceMul, Int.reduceBEq, Int.reduceBNe, Nat.reduceBEq, Nat.reduceAdd, Nat.reduceSub, Nat.reduceLeDiff, Nat.reduceEqDiff, Nat.reduceLT, reduceCtorEq])
end Go.Proofs.YtjaakbkneeojnaaDoor
