/- What functions of the slices package and of names compute. -/
import Derived.Test.YtoickofcmngdjaaAwZl
import Derived.Test.YtoickofcmngdjaaProg
import Derived.KernelRfl
import Derived.IntWalk
set_option linter.unusedVariables false
set_option linter.unusedSimpArgs false
namespace Go.Proofs.Ytoickofcmngdjaa
open Go.Proofs.Ytoickofcmngdjaa.Aw
attribute [local go_sem] Int.natCast_zero Int.natCast_one bne_self_eq_false beq_self_eq_true Bool.not_true Bool.not_false Option.isSome_none Option.isSome_some Aw.bkM_nil Option.getD_some Option.getD_none Nat.sub_zero Int.toNat_zero Aw.frzS Aw.frzT Aw.frzA Aw.frzL Aw.frzR Aw.frzO Aw.frzOL Aw.frzOT Aw.frzOR Aw.killS Aw.mapT Aw.mapR Aw.killM Aw.resAVs Aw.resAV Aw.quietOps Aw.wpP Aw.wpT Aw.wpS Aw.AOp.mild List.getElem?_cons_zero List.getElem?_cons_succ Bool.and_false Bool.and_self Bool.false_and Aw.opOb Aw.gdB Aw.Rnd Aw.subTm List.length_map Int.toNat_natCast and_self Aw.SeqC Aw.stops Aw.Ends Aw.looks Aw.renA Aw.renL Aw.renT Aw.renS Aw.wpO Aw.aop Aw.putTm Aw.St.ev Aw.St.put Aw.St.putO Aw.binAV Aw.intBin Aw.strBin Aw.pickAV Aw.optInt Aw.AV.strip Aw.AV.guard Aw.AV.cells Aw.gdOb Aw.AOp.opds Aw.AOp.still Aw.ptrCells Aw.St.reg Aw.fillAV Aw.fillOb Aw.elsOb Aw.splice Aw.firm Aw.cellish Aw.AV.shut Aw.shutAll Aw.Seq Aw.Blk Aw.retS_nil Aw.mapA Aw.mapL Aw.borA Aw.borOb Aw.allOb Aw.tupOf Aw.params Aw.Opd.of Array.toList Value.cells List.map_cons List.map_nil List.getD_cons_zero List.getD_cons_succ List.getD_nil List.length_cons List.length_nil List.take_succ_cons List.take_zero List.take_nil List.drop_zero List.drop_succ_cons List.drop_nil List.set_cons_zero List.set_cons_succ List.append_nil List.nil_append List.cons_append List.all_cons List.all_nil cond_false cond_true if_true if_false true_and and_true Bool.and_true Bool.true_and Option.map_some Option.map_none false_implies forall_const implies_true forall_eq imp_self Bool.cond_false_right Bool.cond_true_left beq_true beq_false Bool.not_eq_true' Bool.false_eq_true Nat.zero_add Nat.add_zero Aw.eqCells Aw.stopDraw Aw.skipS Aw.exactCap Aw.revealS Aw.srcEls Aw.srcSz
attribute [local go_sem ↓] Aw.look_nil Aw.look_ite Aw.wpL_nil Aw.wpL_op Aw.wpL_gd Aw.wpQ_nil Aw.wpQ_op Aw.wpQ_gd Aw.wpC_draw Aw.wpC_reg Aw.wpC_skip Aw.wpC_ret Aw.wpC_exit Aw.wpC_seq Aw.wpC_block Aw.wpC_loop Aw.wpC_cond Aw.stopAt_nil Aw.stopAt_cons Aw.wpD_skip Aw.wpD_ret Aw.wpD_exit Aw.wpD_region Aw.wpD_draw Aw.wpM_nil Aw.wpM_op Aw.wpM_gd Aw.wpD_seq Aw.wpD_block Aw.wpD_loop Aw.wpD_cond
/- slices.Index[[]string,string] -/
def a16 : ACode :=
  (.seq (.region false [] [
     ⟨(some 4), none, (.mov (.v (.int .i64 0)))⟩])
  (.seq (.seq (.region false [] [
     ⟨(some 6), none, (.mov (.t 0))⟩,
     ⟨(some 7), none, (.len (.t 6))⟩,
     ⟨(some 8), none, (.mov (.v (.int .i64 0)))⟩])
  (.block 0 (.loop (.seq (.region false [] [
       ⟨(some 9), none, (.bin .lss 3 (.t 8) (.t 7))⟩])
    (.seq (.cond (.t 9)
      .skip
      (.exit 0))
    (.seq (.block 1 (.seq (.region false [] [
        ⟨(some 10), none, (.mov (.t 8))⟩,
        ⟨(some 5), none, (.mov (.t 10))⟩])
     (.seq (.region false [] [
        ⟨(some 11), none, (.mov (.t 1))⟩,
        ⟨(some 12), none, (.mov (.t 0))⟩,
        ⟨(some 13), none, (.mov (.t 5))⟩,
        ⟨(some 14), none, (.idx 1 (.t 12) (.t 13))⟩,
        ⟨(some 15), none, (.load 1 false (.t 14))⟩,
        ⟨(some 16), none, (.bin .eql 9 (.t 11) (.t 15))⟩])
     (.cond (.t 16)
       (.seq (.region false [] [
          ⟨(some 17), none, (.mov (.t 5))⟩,
          ⟨(some 4), none, (.mov (.t 17))⟩])
       .ret)
       .skip))))
    (.region false [] [
       ⟨(some 18), none, (.bin .add 3 (.t 8) (.v (.int .i64 1)))⟩,
       ⟨(some 8), none, (.mov (.t 18))⟩])))))))
  (.seq (.region false [] [
     ⟨(some 4), none, (.mov (.v (.int .i64 (-1))))⟩])
  .ret)))
theorem k16 : FnIs Try.prog 16 19 [.t 4] a16 := ⟨_, _, Try.func16, rfl, by kernel_rfl, by kernel_rfl, rfl⟩

/- slices.Contains[[]string,string] -/
def a10 : ACode :=
  (.seq (.region false [] [
     ⟨(some 4), none, (.mov (.v (.bool false)))⟩])
  (.seq (.region false [] [
     ⟨(some 5), none, (.mov (.t 0))⟩,
     ⟨(some 6), none, (.mov (.t 1))⟩,
     ⟨(some 7), none, (.call 16 [(.t 5), (.t 6)])⟩,
     ⟨(some 8), none, (.bin .geq 3 (.t 7) (.v (.int .i64 0)))⟩,
     ⟨(some 4), none, (.mov (.t 8))⟩])
  .ret))
theorem k10 : FnIs Try.prog 10 9 [.t 4] a10 := ⟨_, _, Try.func10, rfl, by kernel_rfl, by kernel_rfl, rfl⟩

/- gridhall/gridhallref4.Cut -/
def a8 : ACode :=
  (.seq (.region false [] [
     ⟨(some 6), none, (.mov (.v (.int .i64 0)))⟩])
  (.seq (.region false [] [
     ⟨(some 8), none, (.mov (.t 2))⟩,
     ⟨(some 9), none, (.mov (.t 1))⟩,
     ⟨(some 10), none, (.bin .sub 3 (.t 8) (.t 9))⟩,
     ⟨(some 11), none, (.bin .add 3 (.t 10) (.v (.int .i64 1)))⟩,
     ⟨(some 7), none, (.mov (.t 11))⟩])
  (.seq (.region false [] [
     ⟨(some 12), none, (.mov (.t 0))⟩,
     ⟨(some 13), none, (.mov (.t 7))⟩,
     ⟨(some 14), none, (.bin .rem 3 (.t 12) (.t 13))⟩,
     ⟨(some 0), none, (.mov (.t 14))⟩])
  (.seq (.seq (.region false [] [
     ⟨(some 15), none, (.mov (.t 0))⟩,
     ⟨(some 16), none, (.bin .lss 3 (.t 15) (.v (.int .i64 0)))⟩])
  (.cond (.t 16)
    (.region false [] [
       ⟨(some 17), none, (.mov (.t 0))⟩,
       ⟨(some 18), none, (.mov (.t 7))⟩,
       ⟨(some 19), none, (.bin .add 3 (.t 17) (.t 18))⟩,
       ⟨(some 0), none, (.mov (.t 19))⟩])
    .skip))
  (.seq (.region false [] [
     ⟨(some 20), none, (.mov (.t 1))⟩,
     ⟨(some 21), none, (.mov (.t 0))⟩,
     ⟨(some 22), none, (.bin .add 3 (.t 20) (.t 21))⟩,
     ⟨(some 6), none, (.mov (.t 22))⟩])
  .ret)))))
theorem k8 : FnIs Try.prog 8 23 [.t 6] a8 := ⟨_, _, Try.func8, rfl, by kernel_rfl, by kernel_rfl, rfl⟩

theorem mixed : Try.prog.follows .mixedOrders = true := by kernel_rfl
abbrev I (n : Int) : AV := .val (.int .i64 n)
abbrev B (b : Bool) : AV := .val (.bool b)
abbrev S (s : ByteArray) : AV := .val (.string s)
abbrev sc (s : ByteArray) : List AV := [S s]
abbrev ss (nil : Option Bool) (full : Bool) (l : List ByteArray) : AV := .imm nil full 1 (l.map sc)
theorem w64 {n : Int} (h0 : -9223372036854775808 ≤ n) (h1 : n ≤ 9223372036854775807) : IntKind.i64.wrap n = n := IntWalk.i64_in n ⟨h0, h1⟩
theorem take_get {α : Type} {l : List α} {i : Nat} (h : i < l.length) : l.take (i + 1) = l.take i ++ [l[i]] := by simp
theorem getD_map {α : Type} {l : List α} (c : α → List AV) {i : Nat} (h : i < l.length) : (l.map c).getD i [] = c l[i] := by
  rw [List.getD_eq_getElem?_getD, List.getElem?_map, List.getElem?_eq_getElem h]; rfl
theorem getD_rng (g : Nat → List AV) {n i : Nat} (h : i < n) : ((List.range n).map g).getD i [] = g i := by
  rw [List.getD_eq_getElem?_getD, List.getElem?_map, List.getElem?_range h]; rfl
theorem set_rng {α : Type} (g : Nat → α) (n i : Nat) (v : α) : ((List.range n).map g).set i v = (List.range n).map fun k => if k = i then v else g k := by
  apply List.ext_getElem
  · simp
  · intro k h1 h2
    simp only [List.getElem_set, List.getElem_map, List.getElem_range]
    by_cases e : i = k
    · subst e; simp
    · rw [if_neg e, if_neg (Ne.symm e)]
theorem getD_mapD {α : Type} (d : α) {l : List α} (c : α → List AV) {i : Nat} (h : i < l.length) : (l.map c).getD i [] = c (l.getD i d) := by
  rw [List.getD_eq_getElem?_getD, List.getElem?_map, List.getElem?_eq_getElem h, List.getD_eq_getElem?_getD, List.getElem?_eq_getElem h]; rfl
/-- The first place where p holds. -/
def fIndex {α : Type} (p : α → Bool) : Nat → List α → Int
  | _, [] => -1
  | k, x :: l => if p x = true then (k : Int) else fIndex p (k + 1) l
theorem fIndex_drop {α : Type} {p : α → Bool} {l : List α} {i : Nat} (h : i < l.length) : fIndex p i (l.drop i) = if p l[i] = true then (i : Int) else fIndex p (i + 1) (l.drop (i + 1)) := by
  rw [List.drop_eq_getElem_cons h]; rfl
theorem fIndex_any {α : Type} (p : α → Bool) : ∀ (l : List α) (k : Nat), decide (fIndex p k l ≥ 0) = l.any p
  | [], k => by simp [fIndex]
  | y :: l, k => by
    unfold fIndex
    rw [List.any_cons]
    cases h : p y
    · simp only [Bool.false_eq_true, if_false, Bool.false_or]; exact fIndex_any p l (k + 1)
    · simp
/-- Equal strings. -/
def seq (a b : ByteArray) : Bool := a.toList == b.toList
/-- The first place of x. -/
def sIndex (x : ByteArray) : Nat → List ByteArray → Int
  | _, [] => -1
  | k, y :: l => if seq x y then k else sIndex x (k + 1) l
theorem sIndex_drop {x : ByteArray} {l : List ByteArray} {i : Nat} (h : i < l.length) : sIndex x i (l.drop i) = if seq x l[i] then (i : Int) else sIndex x (i + 1) (l.drop (i + 1)) := by
  rw [List.drop_eq_getElem_cons h]; rfl
theorem sIndex_any (x : ByteArray) : ∀ (l : List ByteArray) (k : Nat), decide (sIndex x k l ≥ 0) = l.any (seq x)
  | [], k => by simp [sIndex]
  | y :: l, k => by
    unfold sIndex
    rw [List.any_cons]
    cases h : seq x y
    · simp only [Bool.false_eq_true, if_false, Bool.false_or]; exact sIndex_any x l (k + 1)
    · simp
theorem s16 (nil full) (l : List ByteArray) (x : ByteArray) (hl : l.length ≤ 9223372036854775807) : Aw.Spec Try.prog 16 [] [ss nil full l, S x] (Gives (· = I (sIndex x 0 l))) := by
  refine Aw.Spec.givesD k16 mixed rfl rfl rfl fun E hn hnp hp => ?_
  unfold a16
  simp (config := { maxSteps := 2000000 }) only [go_sem, ↓reduceIte, Int.reduceToNat, Nat.reduceMul, Int.reduceBEq, Int.reduceBNe, Nat.reduceBEq, Nat.reduceAdd, Nat.reduceSub, Nat.reduceLeDiff, Nat.reduceEqDiff, Nat.reduceLT, reduceCtorEq]
  refine AWp.loop (fun k s => ∃ i : Nat, i + k = l.length ∧ sIndex x 0 l = sIndex x i (l.drop i) ∧ Weak E s ⟨[(0, ss nil full l), (1, S x), (7, I l.length), (8, I i)], []⟩) (n := l.length)
    ⟨0, by omega, rfl, weak_to [] hp hnp rfl (by simp (config := { maxSteps := 2000000 }) only [go_sem, ↓reduceIte, Int.reduceToNat, Nat.reduceMul, Int.reduceBEq, Int.reduceBNe, Nat.reduceBEq, Nat.reduceAdd, Nat.reduceSub, Nat.reduceLeDiff, Nat.reduceEqDiff, Nat.reduceLT, reduceCtorEq, Int.natCast_zero]) rfl⟩ ?_
  rintro k s ⟨i, hi, hs, hw⟩
  refine AWp.weak hw (AWp.ofD [] [] hn mixed rfl ?_)
  rcases Nat.lt_or_ge i l.length with hlt | hge
  · have e0 : decide ((i : Int) < (l.length : Int)) = true := by simp; omega
    have e1 := getD_map sc hlt
    have e2 : IntKind.i64.wrap ((i : Int) + 1) = ((i + 1 : Nat) : Int) := by rw [w64 (by omega) (by omega)]; omega
    simp (config := { maxSteps := 2000000 }) only [go_sem, ↓reduceIte, Int.reduceToNat, Nat.reduceMul, Int.reduceBEq, Int.reduceBNe, Nat.reduceBEq, Nat.reduceAdd, Nat.reduceSub, Nat.reduceLeDiff, Nat.reduceEqDiff, Nat.reduceLT, reduceCtorEq, e0, e1, e2]
    rw [sIndex_drop hlt] at hs
    refine ⟨⟨by omega, by omega⟩, fun h => ?_, fun h => ?_⟩
    · rw [hs, if_pos (show seq x l[i] = true from h)]
    · rw [if_neg (by show ¬ (seq x l[i] = true); unfold seq; rw [h]; simp)] at hs
      exact ⟨k - 1, by omega, i + 1, by omega, hs, weak_to [] hp hnp rfl (by simp (config := { maxSteps := 2000000 }) only [go_sem, ↓reduceIte, Int.reduceToNat, Nat.reduceMul, Int.reduceBEq, Int.reduceBNe, Nat.reduceBEq, Nat.reduceAdd, Nat.reduceSub, Nat.reduceLeDiff, Nat.reduceEqDiff, Nat.reduceLT, reduceCtorEq]) rfl⟩
  · have e0 : decide ((i : Int) < (l.length : Int)) = false := by simp; omega
    simp (config := { maxSteps := 2000000 }) only [go_sem, ↓reduceIte, Int.reduceToNat, Nat.reduceMul, Int.reduceBEq, Int.reduceBNe, Nat.reduceBEq, Nat.reduceAdd, Nat.reduceSub, Nat.reduceLeDiff, Nat.reduceEqDiff, Nat.reduceLT, reduceCtorEq, e0]
    rw [hs, List.drop_of_length_le hge]
    rfl
theorem s10 (nil full) (l : List ByteArray) (x : ByteArray) (hl : l.length ≤ 9223372036854775807) : Aw.Spec Try.prog 10 [] [ss nil full l, S x] (Gives (· = B (l.any (seq x)))) := by
  refine Aw.Spec.givesD k10 mixed rfl rfl rfl fun E hn hnp hp => ?_
  unfold a10
  simp (config := { maxSteps := 2000000 }) only [go_sem, ↓reduceIte, Int.reduceToNat, Nat.reduceMul, Int.reduceBEq, Int.reduceBNe, Nat.reduceBEq, Nat.reduceAdd, Nat.reduceSub, Nat.reduceLeDiff, Nat.reduceEqDiff, Nat.reduceLT, reduceCtorEq]
  refine AWpL.calle (s16 nil full l x hl) rfl (by rw [hn]; rfl) (by simp (config := { maxSteps := 2000000 }) only [go_sem, ↓reduceIte, Int.reduceToNat, Nat.reduceMul, Int.reduceBEq, Int.reduceBNe, Nat.reduceBEq, Nat.reduceAdd, Nat.reduceSub, Nat.reduceLeDiff, Nat.reduceEqDiff, Nat.reduceLT, reduceCtorEq]) (AWpL.ofM hn rfl ?_)
  simp (config := { maxSteps := 2000000 }) only [go_sem, ↓reduceIte, Int.reduceToNat, Nat.reduceMul, Int.reduceBEq, Int.reduceBNe, Nat.reduceBEq, Nat.reduceAdd, Nat.reduceSub, Nat.reduceLeDiff, Nat.reduceEqDiff, Nat.reduceLT, reduceCtorEq]
  rw [sIndex_any]
/-- The letters of a name, from place k on. -/
def nmOk : Nat → List UInt8 → Bool
  | _, [] => true
  | k, c :: cs => ((decide ((65 : Int) ≤ c.toNat) && decide ((c.toNat : Int) ≤ 90)) || (decide (0 < k) && decide ((48 : Int) ≤ c.toNat) && decide ((c.toNat : Int) ≤ 57))) && nmOk (k + 1) cs
theorem nmOk_drop {l : List UInt8} {i : Nat} (h : i < l.length) : nmOk i (l.drop i) = (((decide ((65 : Int) ≤ l[i].toNat) && decide ((l[i].toNat : Int) ≤ 90)) || (decide (0 < i) && decide ((48 : Int) ≤ l[i].toNat) && decide ((l[i].toNat : Int) ≤ 57))) && nmOk (i + 1) (l.drop (i + 1))) := by
  rw [List.drop_eq_getElem_cons h]; rfl
def nm (n : Int) (s : ByteArray) : Bool := nmOk 0 s.data.toList && (!(s.toList == (ByteArray.mk #[]).toList) && decide ((s.size : Int) ≤ n))
/-- A number cut into a range. -/
def cut (n a b : Int) : Int := a + n % (b - a + 1)
theorem cut_range (n a b : Int) (h : a ≤ b) : a ≤ cut n a b ∧ cut n a b ≤ b := by
  unfold cut
  have h1 := Int.emod_nonneg n (b := b - a + 1) (by omega)
  have h2 := Int.emod_lt_of_pos n (b := b - a + 1) (by omega)
  omega
theorem s8 (n a b : Int) (ha : -1000000000000 ≤ a) (hb : b ≤ 1000000000000) (hab : a ≤ b) : Aw.Spec Try.prog 8 [] [I n, I a, I b] (Gives (· = I (cut n a b))) := by
  refine Aw.Spec.givesD k8 mixed rfl rfl rfl fun E hn hnp hp => ?_
  unfold a8
  simp (config := { maxSteps := 2000000 }) only [go_sem, ↓reduceIte, Int.reduceToNat, Nat.reduceMul, Int.reduceBEq, Int.reduceBNe, Nat.reduceBEq, Nat.reduceAdd, Nat.reduceSub, Nat.reduceLeDiff, Nat.reduceEqDiff, Nat.reduceLT, reduceCtorEq]
  rw [w64 (n := b - a) (by omega) (by omega), w64 (n := b - a + 1) (by omega) (by omega)]
  simp only [decide_eq_true_eq, decide_eq_false_iff_not]
  unfold cut
  have h1 := Int.emod_nonneg n (b := b - a + 1) (by omega)
  have h2 := Int.emod_lt_of_pos n (b := b - a + 1) (by omega)
  have h3 : n.tmod (b - a + 1) = if 0 ≤ n ∨ (b - a + 1) ∣ n then n % (b - a + 1) else n % (b - a + 1) - (b - a + 1) := by
    rw [Int.tmod_eq_emod]; split <;> omega
  refine ⟨by omega, fun h => ?_, fun h => ?_⟩
  · rw [h3] at h ⊢
    split at h
    · omega
    · rename_i hc
      rw [if_neg hc, w64 (n := n % (b - a + 1) - (b - a + 1) + (b - a + 1)) (by omega) (by omega), w64 (by omega) (by omega)]
      congr 3; omega
  · rw [h3] at h ⊢
    split at h
    · rename_i hc
      rw [if_pos hc, w64 (by omega) (by omega)]
    · omega
end Go.Proofs.Ytoickofcmngdjaa
