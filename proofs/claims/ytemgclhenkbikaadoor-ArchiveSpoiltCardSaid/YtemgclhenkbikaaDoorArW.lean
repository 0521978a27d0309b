/- Archives: the law of the spoilt text. -/
import Derived.Test.YtemgclhenkbikaaDoorAwZl
import Derived.Test.YtemgclhenkbikaaDoorArU
import Derived.Test.YtemgclhenkbikaaDoorArS
import Derived.Test.YtemgclhenkbikaaDoorPlnA
import Derived.Test.YtemgclhenkbikaaDoorAwZn
set_option linter.unusedVariables false
set_option linter.unusedSimpArgs false
namespace Go.Proofs.YtemgclhenkbikaaDoor
open Go.Proofs.YtemgclhenkbikaaDoor.Aw
attribute [local go_sem] Int.natCast_zero Int.natCast_one bne_self_eq_false beq_self_eq_true Bool.not_true Bool.not_false Option.isSome_none Option.isSome_some Aw.bkM_nil Option.getD_some Option.getD_none Nat.sub_zero Int.toNat_zero Aw.frzS Aw.frzT Aw.frzA Aw.frzL Aw.frzR Aw.frzO Aw.frzOL Aw.frzOT Aw.frzOR Aw.killS Aw.mapT Aw.mapR Aw.killM Aw.resAVs Aw.resAV Aw.quietOps Aw.wpP Aw.wpT Aw.wpS Aw.AOp.mild List.getElem?_cons_zero List.getElem?_cons_succ Bool.and_false Bool.and_self Bool.false_and Aw.opOb Aw.gdB Aw.Rnd Aw.subTm List.length_map Int.toNat_natCast and_self Aw.SeqC Aw.stops Aw.Ends Aw.looks Aw.renA Aw.renL Aw.renT Aw.renS Aw.wpO Aw.aop Aw.putTm Aw.St.ev Aw.St.put Aw.St.putO Aw.binAV Aw.intBin Aw.strBin Aw.pickAV Aw.optInt Aw.AV.strip Aw.AV.guard Aw.AV.cells Aw.gdOb Aw.AOp.opds Aw.AOp.still Aw.ptrCells Aw.St.reg Aw.fillAV Aw.fillOb Aw.elsOb Aw.splice Aw.firm Aw.cellish Aw.AV.shut Aw.shutAll Aw.Seq Aw.Blk Aw.retS_nil Aw.mapA Aw.mapL Aw.borA Aw.borOb Aw.allOb Aw.tupOf Aw.params Aw.Opd.of Array.toList Value.cells List.map_cons List.map_nil List.getD_cons_zero List.getD_cons_succ List.getD_nil List.length_cons List.length_nil List.take_succ_cons List.take_zero List.take_nil List.drop_zero List.drop_succ_cons List.drop_nil List.set_cons_zero List.set_cons_succ List.append_nil List.nil_append List.cons_append List.all_cons List.all_nil cond_false cond_true if_true if_false true_and and_true Bool.and_true Bool.true_and Option.map_some Option.map_none false_implies forall_const implies_true forall_eq imp_self Bool.cond_false_right Bool.cond_true_left beq_true beq_false Bool.not_eq_true' Bool.false_eq_true Nat.zero_add Nat.add_zero Aw.eqCells Aw.stopDraw Aw.skipS Aw.exactCap Aw.revealS Aw.srcEls Aw.srcSz
attribute [local go_sem ↓] Aw.look_nil Aw.look_ite Aw.wpL_nil Aw.wpL_op Aw.wpL_gd Aw.wpQ_nil Aw.wpQ_op Aw.wpQ_gd Aw.wpC_draw Aw.wpC_reg Aw.wpC_skip Aw.wpC_ret Aw.wpC_exit Aw.wpC_seq Aw.wpC_block Aw.wpC_loop Aw.wpC_cond Aw.stopAt_nil Aw.stopAt_cons Aw.wpD_skip Aw.wpD_ret Aw.wpD_exit Aw.wpD_region Aw.wpD_draw Aw.wpM_nil Aw.wpM_op Aw.wpM_gd Aw.wpD_seq Aw.wpD_block Aw.wpD_loop Aw.wpD_cond
/- gridhall/gridhallkeep4.ArchiveSpoilt -/
def a5 : ACode :=
  (.seq (.region false [] [
     ⟨(some 6), none, (.mov (.v (.bool false)))⟩])
  (.seq (.region false [] [
     ⟨(some 13), none, (.mov (.t 0))⟩,
     ⟨(some 14), none, (.call 7 [(.t 13)])⟩,
     ⟨(some 7), none, (.mov (.t 14))⟩])
  (.seq (.seq (.region false [] [
     ⟨(some 15), none, (.mov (.t 7))⟩,
     ⟨(some 16), none, (.nilP false (.t 15))⟩,
     ⟨(some 17), none, (.mov (.t 16))⟩,
     ⟨(some 18), (some (17, false)), (.call 8 [])⟩,
     ⟨(some 19), (some (17, false)), (.un .not (.t 18))⟩,
     ⟨(some 20), none, (.pick (.t 17) (.v (.bool true)) (.t 19))⟩])
  (.cond (.t 20)
    (.seq (.region false [] [
       ⟨(some 6), none, (.mov (.v (.bool false)))⟩])
    .ret)
    .skip))
  (.seq (.region false [] [
     ⟨(some 21), none, (.mov (.t 7))⟩,
     ⟨(some 22), none, (.call 17 [(.t 21)])⟩,
     ⟨(some 23), none, (.stb 5 (.t 22))⟩,
     ⟨(some 8), none, (.mov (.t 23))⟩])
  (.seq (.seq (.region false [] [
     ⟨(some 24), none, (.mov (.t 8))⟩,
     ⟨(some 25), none, (.len (.t 24))⟩,
     ⟨(some 26), none, (.bin .eql 3 (.t 25) (.v (.int .i64 0)))⟩])
  (.cond (.t 26)
    (.seq (.region false [] [
       ⟨(some 6), none, (.mov (.v (.bool true)))⟩])
    .ret)
    .skip))
  (.seq (.region false [] [
     ⟨(some 27), none, (.mov (.t 1))⟩,
     ⟨(some 28), none, (.mov (.t 8))⟩,
     ⟨(some 29), none, (.len (.t 28))⟩,
     ⟨(some 30), none, (.bin .sub 3 (.t 29) (.v (.int .i64 1)))⟩,
     ⟨(some 31), none, (.call 9 [(.t 27), (.v (.int .i64 0)), (.t 30)])⟩,
     ⟨(some 1), none, (.mov (.t 31))⟩])
  (.seq (.region false [] [
     ⟨(some 32), none, (.mov (.t 8))⟩,
     ⟨(some 33), none, (.mov (.t 1))⟩,
     ⟨(some 34), none, (.slc 1 (.t 32) none (some (.t 33)) none)⟩,
     ⟨(some 35), none, (.bts (.t 34))⟩,
     ⟨(some 36), none, (.call 20 [(.t 35), (.v (.string ⟨#[10]⟩))])⟩,
     ⟨(some 9), none, (.mov (.t 36))⟩])
  (.seq (.region false [] [
     ⟨(some 37), none, (.mov (.t 8))⟩,
     ⟨(some 38), none, (.mov (.t 1))⟩,
     ⟨(some 39), none, (.idx 1 (.t 37) (.t 38))⟩,
     ⟨(some 40), none, (.load 1 false (.t 39))⟩,
     ⟨(some 41), none, (.mov (.t 2))⟩,
     ⟨(some 42), none, (.bin .xor 5 (.t 40) (.t 41))⟩,
     ⟨(some 43), none, (.idx 1 (.t 37) (.t 38))⟩,
     ⟨none, none, (.store 1 (.t 43) (.t 42))⟩])
  (.seq (.region false [] [
     ⟨(some 45), none, (.mov (.t 8))⟩,
     ⟨(some 46), none, (.bts (.t 45))⟩,
     ⟨(some 47), none, (.call 16 [(.t 46)])⟩,
     ⟨(some 44), none, (.mov (.t 47))⟩,
     ⟨(some 48), none, (.ext 0 (.t 44))⟩,
     ⟨(some 49), none, (.ext 1 (.t 44))⟩,
     ⟨(some 50), none, (.ext 2 (.t 44))⟩,
     ⟨(some 10), none, (.mov (.t 48))⟩,
     ⟨(some 11), none, (.mov (.t 49))⟩,
     ⟨(some 12), none, (.mov (.t 50))⟩])
  (.seq (.seq (.region false [] [
     ⟨(some 51), none, (.mov (.t 12))⟩,
     ⟨(some 52), none, (.bin .neq 36 (.t 51) (.v (.int .i64 0)))⟩,
     ⟨(some 53), none, (.mov (.t 52))⟩,
     ⟨(some 54), (some (53, false)), (.mov (.t 10))⟩,
     ⟨(some 55), (some (53, false)), (.nilP false (.t 54))⟩,
     ⟨(some 56), none, (.pick (.t 53) (.v (.bool true)) (.t 55))⟩])
  (.cond (.t 56)
    (.seq (.region false [] [
       ⟨(some 6), none, (.mov (.v (.bool false)))⟩])
    .ret)
    .skip))
  (.seq (.region true [[], [0], [1], [], [2, 3], [4, 1], [5], [6, 5, 5], [5], [7, 8, 5], [5], [10, 7, 5], [5], [11, 12, 5], [9, 13, 11, 5], [5, 14], [15, 14], [16], [17, 16], [16], [19, 16, 16], [16], [21, 20, 16], [20, 22, 22, 16], [18, 23, 16], [16, 24], [25, 23, 0, 1, 2, 3, 4, 5, 6, 7, 8, 9, 10, 11, 12, 13, 14, 15, 16, 17, 18, 19, 20, 21, 22, 23, 24, 25]] [
     ⟨(some 57), none, (.mov (.t 10))⟩,
     ⟨(some 58), none, (.call 13 [(.t 57)])⟩,
     ⟨(some 59), none, (.len (.t 58))⟩,
     ⟨(some 60), none, (.mov (.t 9))⟩,
     ⟨(some 61), none, (.bin .geq 3 (.t 59) (.t 60))⟩,
     ⟨(some 62), none, (.mov (.t 61))⟩,
     ⟨(some 63), (some (62, true)), (.mov (.t 10))⟩,
     ⟨(some 64), (some (62, true)), (.call 13 [(.t 63)])⟩,
     ⟨(some 65), (some (62, true)), (.mov (.t 9))⟩,
     ⟨(some 66), (some (62, true)), (.slc 4 (.t 64) none (some (.t 65)) none)⟩,
     ⟨(some 67), (some (62, true)), (.mov (.t 7))⟩,
     ⟨(some 68), (some (62, true)), (.call 13 [(.t 67)])⟩,
     ⟨(some 69), (some (62, true)), (.mov (.t 9))⟩,
     ⟨(some 70), (some (62, true)), (.slc 4 (.t 68) none (some (.t 69)) none)⟩,
     ⟨(some 71), (some (62, true)), (.call 11 [(.t 66), (.t 70)])⟩,
     ⟨(some 72), none, (.pick (.t 62) (.t 71) (.v (.bool false)))⟩,
     ⟨(some 73), none, (.mov (.t 72))⟩,
     ⟨(some 74), (some (73, true)), (.mov (.t 2))⟩,
     ⟨(some 75), (some (73, true)), (.bin .eql 5 (.t 74) (.v (.int .u8 0)))⟩,
     ⟨(some 76), (some (73, true)), (.mov (.t 10))⟩,
     ⟨(some 77), (some (73, true)), (.call 13 [(.t 76)])⟩,
     ⟨(some 78), (some (73, true)), (.mov (.t 7))⟩,
     ⟨(some 79), (some (73, true)), (.call 13 [(.t 78)])⟩,
     ⟨(some 80), (some (73, true)), (.call 11 [(.t 77), (.t 79)])⟩,
     ⟨(some 81), (some (73, true)), (.beq false (.t 75) (.t 80))⟩,
     ⟨(some 82), none, (.pick (.t 73) (.t 81) (.v (.bool false)))⟩,
     ⟨(some 6), none, (.mov (.t 82))⟩])
  .ret)))))))))))
theorem k5 : FnIs Tryd.prog 5 83 [.t 6] a5 := ⟨_, _, Tryd.func5, rfl, by kernel_rfl, by kernel_rfl, rfl⟩

theorem xor8 {h c : Nat} (h1 : h < 256) (h2 : c < 256) : IntKind.u8.wrap ((BitVec.ofInt 8 (h : Int) ^^^ BitVec.ofInt 8 (c : Int)).toNat : Int) = ((h ^^^ c : Nat) : Int) := by
  have e : (BitVec.ofInt 8 (h : Int) ^^^ BitVec.ofInt 8 (c : Int)).toNat = h ^^^ c := by
    rw [BitVec.toNat_xor]
    have k1 : (BitVec.ofInt 8 (h : Int)).toNat = h := by rw [BitVec.toNat_ofInt]; omega
    have k2 : (BitVec.ofInt 8 (c : Int)).toNat = c := by rw [BitVec.toNat_ofInt]; omega
    rw [k1, k2]
  have hlt : h ^^^ c < 2 ^ 8 := Nat.xor_lt_two_pow h1 h2
  rw [e]
  show ((h ^^^ c : Nat) : Int) % 256 = _
  omega
/-- A text with one byte changed. -/
theorem set_split {s : ByteArray} {i : Nat} (h : i < s.size) (c' : UInt8) : ∃ P Q : ByteArray, ∃ c : UInt8, s = P ++ (⟨#[c]⟩ ++ Q) ∧ (⟨((lst s).set i c').toArray⟩ : ByteArray) = P ++ (⟨#[c']⟩ ++ Q) ∧ (lst s).take i = lst P ∧ (lst s)[i]? = some c ∧ P = ⟨((lst s).take i).toArray⟩ := by
  have hl : i < (lst s).length := by rw [lst_len]; exact h
  refine ⟨⟨((lst s).take i).toArray⟩, ⟨((lst s).drop (i + 1)).toArray⟩, (lst s)[i], ?_, ?_, ?_, List.getElem?_eq_getElem hl, rfl⟩
  · refine lst_inj ?_
    rw [lst_app, lst_app, lst_one]
    show lst s = (lst s).take i ++ ([(lst s)[i]] ++ (lst s).drop (i + 1))
    rw [List.singleton_append, ← List.drop_eq_getElem_cons hl, List.take_append_drop]
  · refine lst_inj ?_
    rw [lst_app, lst_app, lst_one]
    show (lst s).set i c' = (lst s).take i ++ ([c'] ++ (lst s).drop (i + 1))
    rw [List.set_eq_take_append_cons_drop, if_pos hl]; rfl
  · rfl
theorem xor_self {a b : Nat} (ha : a < 256) (hb : b < 256) : a ^^^ b < 256 := Nat.xor_lt_two_pow (n := 8) ha hb
set_option maxRecDepth 20000 in
theorem n11 (nl fl nm' fm) (l m : List Ev) (hne : l ≠ m) (hl : l.length ≤ 1000) (hm : m.length ≤ 1000) : Aw.Spec Tryd.prog 11 [] [.imm nl fl 4 (l.map ec), .imm nm' fm 4 (m.map ec)] (Gives (· = B false)) := by
  refine Aw.Spec.givesD k11 mixed rfl rfl rfl fun E hn hnp hp => ?_
  unfold a11
  by_cases hlen : l.length = m.length
  · have e9 : ((l.length : Int) != (m.length : Int)) = false := by rw [hlen]; simp
    simp (config := { maxSteps := 2000000 }) only [go_sem, ↓reduceIte, Int.reduceToNat, Nat.reduceMul, Int.reduceBEq, Int.reduceBNe, Nat.reduceBEq, Nat.reduceAdd, Nat.reduceSub, Nat.reduceLeDiff, Nat.reduceEqDiff, Nat.reduceLT, reduceCtorEq, e9]
    refine AWp.loop (fun k s => ∃ i : Nat, i + k = l.length ∧ (∀ j, j < i → l[j]? = m[j]?) ∧ Weak E s ⟨[(0, .imm nl fl 4 (l.map ec)), (1, .imm nm' fm 4 (m.map ec)), (12, I l.length), (13, I i)], []⟩) (n := l.length)
      ⟨0, by omega, fun j hj => absurd hj (Nat.not_lt_zero _), weak_to [] hp hnp rfl (by simp (config := { maxSteps := 2000000 }) only [go_sem, ↓reduceIte, Int.reduceToNat, Nat.reduceMul, Int.reduceBEq, Int.reduceBNe, Nat.reduceBEq, Nat.reduceAdd, Nat.reduceSub, Nat.reduceLeDiff, Nat.reduceEqDiff, Nat.reduceLT, reduceCtorEq, Int.natCast_zero]) rfl⟩ ?_
    rintro k s ⟨i, hi, hs, hw⟩
    refine AWp.weak hw (AWp.ofD [] [] hn mixed rfl ?_)
    rcases Nat.lt_or_ge i l.length with hlt | hge
    · have hlt2 : i < m.length := by omega
      have e0 : decide ((i : Int) < (l.length : Int)) = true := by simp; omega
      have e1 := getD_map ec hlt
      have e3 := getD_map ec hlt2
      have e2 : IntKind.i64.wrap ((i : Int) + 1) = ((i + 1 : Nat) : Int) := by rw [w64 (by omega) (by omega)]; omega
      simp (config := { maxSteps := 2000000 }) only [go_sem, ↓reduceIte, Int.reduceToNat, Nat.reduceMul, Int.reduceBEq, Int.reduceBNe, Nat.reduceBEq, Nat.reduceAdd, Nat.reduceSub, Nat.reduceLeDiff, Nat.reduceEqDiff, Nat.reduceLT, reduceCtorEq, e0, e1, e2, e3]
      refine ⟨⟨by omega, by omega⟩, ⟨by omega, by omega⟩, fun h => ?_⟩
      have heq : l[i] = m[i] := by
        simp only [Bool.not_eq_false', Bool.and_eq_true, beq_iff_eq, Lib.toList_data] at h
        obtain ⟨h1, h2, h3, h4⟩ := h
        have k2 : l[i].kind = m[i].kind := lst_inj h2
        have k3 : l[i].name = m[i].name := lst_inj h3
        clear h2 h3
        generalize l[i] = x at *
        generalize m[i] = z at *
        obtain ⟨a1, a2, a3, a4⟩ := x
        obtain ⟨c1, c2, c3, c4⟩ := z
        dsimp only at h1 k2 k3 h4
        subst h1 k2 k3 h4
        rfl
      refine ⟨k - 1, by omega, i + 1, by omega, fun j hj => ?_, weak_to [] hp hnp rfl (by simp (config := { maxSteps := 2000000 }) only [go_sem, ↓reduceIte, Int.reduceToNat, Nat.reduceMul, Int.reduceBEq, Int.reduceBNe, Nat.reduceBEq, Nat.reduceAdd, Nat.reduceSub, Nat.reduceLeDiff, Nat.reduceEqDiff, Nat.reduceLT, reduceCtorEq]) rfl⟩
      rcases Nat.lt_or_ge j i with hji | hji
      · exact hs j hji
      · have : j = i := by omega
        subst this
        rw [List.getElem?_eq_getElem hlt, List.getElem?_eq_getElem hlt2, heq]
    · exfalso
      refine hne (List.ext_getElem? fun j => ?_)
      rcases Nat.lt_or_ge j i with h | h
      · exact hs j h
      · rw [List.getElem?_eq_none (by omega), List.getElem?_eq_none (by omega)]
  · have e9 : ((l.length : Int) != (m.length : Int)) = true := by rw [bne_iff_ne]; omega
    simp (config := { maxSteps := 2000000 }) only [go_sem, ↓reduceIte, Int.reduceToNat, Nat.reduceMul, Int.reduceBEq, Int.reduceBNe, Nat.reduceBEq, Nat.reduceAdd, Nat.reduceSub, Nat.reduceLeDiff, Nat.reduceEqDiff, Nat.reduceLT, reduceCtorEq, e9]
set_option maxRecDepth 20000 in
set_option maxHeartbeats 1000000 in
theorem s5 {Γ : List (Nat × Array Value)} {e1 e2 : Value} (hP : powT ∈ Γ) (hD : debT ∈ Γ) (hE : Errs Γ e1 e2) (nl' fl) (l : List Ev) (n : Int) (y : Nat) (hy : y < 256) (hs : ∀ e ∈ l, EvW e) (hl : l.length ≤ 9223372036854775807) :
    Aw.SpecG Γ Tryd.prog 5 [] [.imm nl' fl 4 (l.map ec), I n, u8 (y : Int)] (Gives (· = B true)) := by
  refine SpecG.shut (Post := fun rg v => v = B true) ?_ fun rg v h => by subst h; exact ⟨rfl, rfl, rfl⟩
  refine Aw.SpecG.regsW k5 rfl rfl fun E hn hnp hp hT => ?_
  unfold a5
  have pin : ∀ r, E.pin r = none := fun r => hp.none hnp (Nat.zero_le _)
  refine AWp.ofD [999] [] hn mixed rfl ?_
  simp (config := { maxSteps := 2000000 }) only [go_sem, ↓reduceIte, Int.reduceToNat, Nat.reduceMul, Int.reduceBEq, Int.reduceBNe, Nat.reduceBEq, Nat.reduceAdd, Nat.reduceSub, Nat.reduceLeDiff, Nat.reduceEqDiff, Nat.reduceLT, reduceCtorEq]
  refine AWpL.callAT [] (SpecG.at (s7 hP hD nl' fl l hs hl) hT) rfl rfl (by rw [hn]; rfl) rfl (fun r hr => .inr (pin r)) fun rg v hv => ?_
  obtain ⟨rfl, rfl⟩ := hv
  refine ⟨Nat.zero_le _, ?_⟩
  have hok := ofN_ok l
  have htx := ofN_txt l
  have hgd := ofN_good (l.take 12) _ (Nat.le_refl _)
  generalize (ofN (List.take 12 l) (List.take 12 l).length).fst = A at *
  rw [retS_new]
  refine AWpL.ofM hn rfl ?_
  simp (config := { maxSteps := 2000000 }) only [go_sem, ↓reduceIte, Int.reduceToNat, Nat.reduceMul, Int.reduceBEq, Int.reduceBNe, Nat.reduceBEq, Nat.reduceAdd, Nat.reduceSub, Nat.reduceLeDiff, Nat.reduceEqDiff, Nat.reduceLT, reduceCtorEq, Aw.pos, arR]
  refine AWpL.gcalleT (y := B true) rfl (fun _ => SpecG.at (s8 hP hD) hT) rfl (by rw [hn]; rfl) (fun _ => by simp (config := { maxSteps := 2000000 }) only [go_sem, ↓reduceIte, Int.reduceToNat, Nat.reduceMul, Int.reduceBEq, Int.reduceBNe, Nat.reduceBEq, Nat.reduceAdd, Nat.reduceSub, Nat.reduceLeDiff, Nat.reduceEqDiff, Nat.reduceLT, reduceCtorEq]) (AWpL.ofM hn rfl ?_)
  simp (config := { maxSteps := 2000000 }) only [go_sem, ↓reduceIte, Int.reduceToNat, Nat.reduceMul, Int.reduceBEq, Int.reduceBNe, Nat.reduceBEq, Nat.reduceAdd, Nat.reduceSub, Nat.reduceLeDiff, Nat.reduceEqDiff, Nat.reduceLT, reduceCtorEq]
  have htk : (A.list.map ec).take A.list.length = A.list.map ec := List.take_of_length_le (by rw [List.length_map]; exact Nat.le_refl _)
  refine AWpL.calle (y := S A.text) (by simp (config := { maxSteps := 2000000 }) only [go_sem, ↓reduceIte, Int.reduceToNat, Nat.reduceMul, Int.reduceBEq, Int.reduceBNe, Nat.reduceBEq, Nat.reduceAdd, Nat.reduceSub, Nat.reduceLeDiff, Nat.reduceEqDiff, Nat.reduceLT, reduceCtorEq, htk]; exact s17 A) rfl (by rw [hn]; rfl) (by simp (config := { maxSteps := 2000000 }) only [go_sem, ↓reduceIte, Int.reduceToNat, Nat.reduceMul, Int.reduceBEq, Int.reduceBNe, Nat.reduceBEq, Nat.reduceAdd, Nat.reduceSub, Nat.reduceLeDiff, Nat.reduceEqDiff, Nat.reduceLT, reduceCtorEq, List.length_map, Nat.le_refl]) (AWpL.stbA A.text rfl (by rw [hn]; rfl) (AWpL.ofM hn rfl ?_))
  simp (config := { maxSteps := 2000000 }) only [go_sem, ↓reduceIte, Int.reduceToNat, Nat.reduceMul, Int.reduceBEq, Int.reduceBNe, Nat.reduceBEq, Nat.reduceAdd, Nat.reduceSub, Nat.reduceLeDiff, Nat.reduceEqDiff, Nat.reduceLT, reduceCtorEq]
  refine ⟨fun h => ?_, fun h => ?_⟩
  · refine Retn.ret (π := []) hp hnp ⟨rfl, ?_⟩
    simp (config := { maxSteps := 2000000 }) only [go_sem, ↓reduceIte, Int.reduceToNat, Nat.reduceMul, Int.reduceBEq, Int.reduceBNe, Nat.reduceBEq, Nat.reduceAdd, Nat.reduceSub, Nat.reduceLeDiff, Nat.reduceEqDiff, Nat.reduceLT, reduceCtorEq, Aw.renR, Aw.pos]
  have hsz0 : A.text.size ≠ 0 := fun h0 => by rw [h0] at h; cases h
  have d1 : IntKind.i64.wrap ((A.text.size : Int) - 1) = (A.text.size : Int) - 1 := w64 (by omega) (by omega)
  rw [d1]
  (refine AWpL.calle (s9 n 0 ((A.text.size : Int) - 1) (by omega) (by omega) (by omega)) rfl (by rw [hn]; rfl) (by simp (config := { maxSteps := 2000000 }) only [go_sem, ↓reduceIte, Int.reduceToNat, Nat.reduceMul, Int.reduceBEq, Int.reduceBNe, Nat.reduceBEq, Nat.reduceAdd, Nat.reduceSub, Nat.reduceLeDiff, Nat.reduceEqDiff, Nat.reduceLT, reduceCtorEq]) (AWpL.ofM hn rfl ?_); simp (config := { maxSteps := 2000000 }) only [go_sem, ↓reduceIte, Int.reduceToNat, Nat.reduceMul, Int.reduceBEq, Int.reduceBNe, Nat.reduceBEq, Nat.reduceAdd, Nat.reduceSub, Nat.reduceLeDiff, Nat.reduceEqDiff, Nat.reduceLT, reduceCtorEq])
  have hcr := cut_range n 0 ((A.text.size : Int) - 1) (by omega)
  obtain ⟨i, hN⟩ : ∃ i : Nat, cut n 0 ((A.text.size : Int) - 1) = i := ⟨(cut n 0 ((A.text.size : Int) - 1)).toNat, by omega⟩
  rw [hN] at hcr ⊢
  have hi : i < A.text.size := by omega
  simp (config := { maxSteps := 2000000 }) only [go_sem, ↓reduceIte, Int.reduceToNat, Nat.reduceMul, Int.reduceBEq, Int.reduceBNe, Nat.reduceBEq, Nat.reduceAdd, Nat.reduceSub, Nat.reduceLeDiff, Nat.reduceEqDiff, Nat.reduceLT, reduceCtorEq]
  refine ⟨⟨by omega, by omega, by omega⟩, ?_⟩
  have hlen : (A.text.data.toList.map fun c : UInt8 => [AV.val (.int .u8 c.toNat)]).length = A.text.size := by rw [List.length_map]; rfl
  have hil : i < A.text.data.toList.length := hi
  obtain ⟨c0, hc0⟩ : ∃ c0, c0 = A.text.data.toList[i] := ⟨_, rfl⟩
  obtain ⟨P, Q, c, hs1, hs2, hPt, hcc, hPe⟩ := set_split hi (c0 ^^^ UInt8.ofNat y)
  have hcc0 : c = c0 := by
    have : (lst A.text)[i]? = some c0 := by rw [hc0]; exact List.getElem?_eq_getElem hil
    rw [hcc] at this
    exact Option.some.inj this
  subst hcc0
  refine AWpL.bts (ob := 0 + i ≤ (A.text.data.toList.map fun c : UInt8 => [AV.val (.int .u8 c.toNat)]).length) ((lst A.text).take i) (by
    show some (((A.text.data.toList.map fun c : UInt8 => [AV.val (.int .u8 c.toNat)]).drop 0).take i, _) = _
    rw [List.drop_zero, ← List.map_take]) rfl (by rw [hn]; rfl) (by rw [hlen]; omega) (AWpL.ofM hn rfl ?_)
  rw [← hPe]
  simp (config := { maxSteps := 2000000 }) only [go_sem, ↓reduceIte, Int.reduceToNat, Nat.reduceMul, Int.reduceBEq, Int.reduceBNe, Nat.reduceBEq, Nat.reduceAdd, Nat.reduceSub, Nat.reduceLeDiff, Nat.reduceEqDiff, Nat.reduceLT, reduceCtorEq]
  refine AWpL.calle (s20 P 10) rfl (by rw [hn]; rfl) (by simp (config := { maxSteps := 2000000 }) only [go_sem, ↓reduceIte, Int.reduceToNat, Nat.reduceMul, Int.reduceBEq, Int.reduceBNe, Nat.reduceBEq, Nat.reduceAdd, Nat.reduceSub, Nat.reduceLeDiff, Nat.reduceEqDiff, Nat.reduceLT, reduceCtorEq]) (AWpL.ofM hn rfl ?_)
  have e1 := getD_map (fun c : UInt8 => [AV.val (.int .u8 c.toNat)]) hil
  rw [← hc0] at e1
  have hcy : (c ^^^ UInt8.ofNat y).toNat = c.toNat ^^^ y := by
    rw [UInt8.toNat_xor]
    congr 1
    simp [UInt8.toNat_ofNat']; omega
  have e2 : IntKind.u8.wrap ((BitVec.ofInt 8 (c.toNat : Int) ^^^ BitVec.ofInt 8 (y : Int)).toNat : Int) = (((c ^^^ UInt8.ofNat y).toNat : Nat) : Int) := by
    rw [hcy]; exact xor8 (UInt8.toNat_lt c) hy
  simp (config := { maxSteps := 2000000 }) only [go_sem, ↓reduceIte, Int.reduceToNat, Nat.reduceMul, Int.reduceBEq, Int.reduceBNe, Nat.reduceBEq, Nat.reduceAdd, Nat.reduceSub, Nat.reduceLeDiff, Nat.reduceEqDiff, Nat.reduceLT, reduceCtorEq, e1]
  refine ⟨⟨by omega, by omega⟩, hil, ⟨by omega, by omega⟩, hil, ?_⟩
  erw [e2]
  rw [show (A.text.data.toList.map fun c : UInt8 => [AV.val (.int .u8 c.toNat)]).set i [AV.val (.int .u8 ((c ^^^ UInt8.ofNat y).toNat : Int))] = (A.text.data.toList.set i (c ^^^ UInt8.ofNat y)).map fun c : UInt8 => [AV.val (.int .u8 c.toNat)] from (List.map_set).symm]
  have hl2 : ((lst A.text).set i (c ^^^ UInt8.ofNat y)).length = A.text.size := by rw [List.length_set]; rfl
  have hl3 : ((A.text.data.toList.set i (c ^^^ UInt8.ofNat y)).map fun c : UInt8 => [AV.val (.int .u8 c.toNat)]).length = A.text.size := by rw [List.length_map]; exact hl2
  refine AWpL.bts (ob := 0 + A.text.size ≤ ((A.text.data.toList.set i (c ^^^ UInt8.ofNat y)).map fun c : UInt8 => [AV.val (.int .u8 c.toNat)]).length) ((lst A.text).set i (c ^^^ UInt8.ofNat y)) (by
    show some ((((A.text.data.toList.set i (c ^^^ UInt8.ofNat y)).map fun c : UInt8 => [AV.val (.int .u8 c.toNat)]).drop 0).take A.text.size, _) = _
    rw [List.drop_zero, List.take_of_length_le (by rw [hl3]; exact Nat.le_refl _)]) rfl (by rw [hn]; rfl) (by rw [hl3]; omega) (AWpL.ofM hn rfl ?_)
  rw [hs2]
  have hsz2 : (P ++ ((⟨#[c ^^^ UInt8.ofNat y]⟩ : ByteArray) ++ Q)).size = A.text.size := by rw [← hs2]; exact hl2
  simp (config := { maxSteps := 2000000 }) only [go_sem, ↓reduceIte, Int.reduceToNat, Nat.reduceMul, Int.reduceBEq, Int.reduceBNe, Nat.reduceBEq, Nat.reduceAdd, Nat.reduceSub, Nat.reduceLeDiff, Nat.reduceEqDiff, Nat.reduceLT, reduceCtorEq]
  refine AWpL.callAT [] (SpecG.at (s16 hP hD hE (P ++ ((⟨#[c ^^^ UInt8.ofNat y]⟩ : ByteArray) ++ Q)) (by omega)) hT) rfl rfl (by rw [hn]; rfl) rfl (fun r hr => .inr (pin r)) fun rg v hv => ?_
  obtain ⟨b, rest, hrec, rfl, rfl⟩ := hv
  obtain ⟨t1, t2, t3, t4, t5⟩ := spoilt hgd hs1 hrec
  have hbl := (good_len hrec.good).1
  refine ⟨Nat.zero_le _, ?_⟩
  rw [retS_new]
  refine AWpL.ofM hn rfl ?_
  simp (config := { maxSteps := 2000000 }) only [go_sem, ↓reduceIte, Int.reduceToNat, Nat.reduceMul, Int.reduceBEq, Int.reduceBNe, Nat.reduceBEq, Nat.reduceAdd, Nat.reduceSub, Nat.reduceLeDiff, Nat.reduceEqDiff, Nat.reduceLT, reduceCtorEq, Aw.pos, arR]
  have htk2 : (b.list.map ec).take b.list.length = b.list.map ec := List.take_of_length_le (by rw [List.length_map]; exact Nat.le_refl _)
  refine AWp.weak (weak_freeze 1 rfl (pin 1) (by simp (config := { maxSteps := 2000000 }) only [go_sem, ↓reduceIte, Int.reduceToNat, Nat.reduceMul, Int.reduceBEq, Int.reduceBNe, Nat.reduceBEq, Nat.reduceAdd, Nat.reduceSub, Nat.reduceLeDiff, Nat.reduceEqDiff, Nat.reduceLT, reduceCtorEq, Nat.le_refl, List.length_map])) ?_
  simp (config := { maxSteps := 2000000 }) only [go_sem, ↓reduceIte, Int.reduceToNat, Nat.reduceMul, Int.reduceBEq, Int.reduceBNe, Nat.reduceBEq, Nat.reduceAdd, Nat.reduceSub, Nat.reduceLeDiff, Nat.reduceEqDiff, Nat.reduceLT, reduceCtorEq, htk]
  refine AWp.weak (weak_pim 7 0 rfl rfl rfl (pin 0)) ?_
  simp (config := { maxSteps := 2000000 }) only [go_sem, ↓reduceIte, Int.reduceToNat, Nat.reduceMul, Int.reduceBEq, Int.reduceBNe, Nat.reduceBEq, Nat.reduceAdd, Nat.reduceSub, Nat.reduceLeDiff, Nat.reduceEqDiff, Nat.reduceLT, reduceCtorEq]
  refine AWp.weak (weak_freeze 4 rfl (pin 4) (by simp (config := { maxSteps := 2000000 }) only [go_sem, ↓reduceIte, Int.reduceToNat, Nat.reduceMul, Int.reduceBEq, Int.reduceBNe, Nat.reduceBEq, Nat.reduceAdd, Nat.reduceSub, Nat.reduceLeDiff, Nat.reduceEqDiff, Nat.reduceLT, reduceCtorEq, Nat.le_refl, List.length_map])) ?_
  simp (config := { maxSteps := 2000000 }) only [go_sem, ↓reduceIte, Int.reduceToNat, Nat.reduceMul, Int.reduceBEq, Int.reduceBNe, Nat.reduceBEq, Nat.reduceAdd, Nat.reduceSub, Nat.reduceLeDiff, Nat.reduceEqDiff, Nat.reduceLT, reduceCtorEq, htk2]
  refine AWp.weak (weak_pim 10 3 rfl rfl rfl (pin 3)) ?_
  simp (config := { maxSteps := 2000000 }) only [go_sem, ↓reduceIte, Int.reduceToNat, Nat.reduceMul, Int.reduceBEq, Int.reduceBNe, Nat.reduceBEq, Nat.reduceAdd, Nat.reduceSub, Nat.reduceLeDiff, Nat.reduceEqDiff, Nat.reduceLT, reduceCtorEq]
  have hEq : Aw.Spec Tryd.prog 11 [] [.imm none false 4 (b.list.map ec), .imm none false 4 (A.list.map ec)] (Gives (· = B (decide (y = 0)))) := by
    by_cases hy0 : y = 0
    · subst hy0
      have : b = A := t4 (by simp)
      rw [this]
      exact s11 none false none false A.list (by omega)
    · rw [decide_eq_false hy0]
      refine n11 none false none false b.list A.list (t5 fun hcc' => hy0 ?_) (by omega) (by omega)
      have h1 := congrArg UInt8.toNat hcc'
      rw [hcy] at h1
      have h2 : c.toNat ^^^ c.toNat = c.toNat ^^^ (c.toNat ^^^ y) := congrArg (c.toNat ^^^ ·) h1
      rw [← Nat.xor_assoc, Nat.xor_self, Nat.zero_xor] at h2
      exact h2.symm
  have hy1 : (((y : Nat) : Int) == 0) = decide (y = 0) := by
    by_cases hy0 : y = 0
    · subst hy0; rfl
    · rw [decide_eq_false hy0, beq_eq_false_iff_ne]; omega
  generalize hm : (lst P).count 10 = m at *
  have g1 : decide ((b.list.length : Int) ≥ (m : Int)) = true := decide_eq_true (by omega)
  have k1 : List.take m (b.list.map ec) = (A.list.take m).map ec := by rw [← List.map_take, t3]
  have k2 : List.take m (A.list.map ec) = (A.list.take m).map ec := by rw [← List.map_take]
  have hlm : (A.list.take m).length ≤ 1000 := by rw [List.length_take]; omega
  refine AWp.cut ⟨[(6, B true)], []⟩ ?_ ?_
  · refine AWp.plan (.take 0 [false, false, false, true, false, false, false, false, false, false, false, false, false, false, false, false, false, false, false, false, false, false, false, false, false, false, false] (.take 3 [true, true, true, false, false, false, false, false, false, false, false, false, false, false, false, false, false, false, false, false, false, false, false, false, false, false, false] (.one 1 (.take 2 [true, true, false, true, false, false, false, false, false, false, false, false, false, false, false, false, false, false, false, false, false, false, false, false, false, false, false] (.take 4 [true, true, true, true, false, false, false, false, false, false, false, false, false, false, false, false, false, false, false, false, false, false, false, false, false, false, false] (.take 5 [true, true, true, true, true, false, false, false, false, false, false, false, false, false, false, false, false, false, false, false, false, false, false, false, false, false, false] (.take 6 [true, true, true, true, true, true, false, false, true, false, true, false, true, false, false, false, false, false, false, false, false, false, false, false, false, false, false] (.take 8 [true, true, true, true, true, true, true, true, false, false, true, true, true, true, false, false, false, false, false, false, false, false, false, false, false, false, false] (.take 10 [true, true, true, true, true, true, true, true, true, true, false, false, true, false, false, false, false, false, false, false, false, false, false, false, false, false, false] (.take 12 [true, true, true, true, true, true, true, true, true, true, true, true, false, false, false, false, false, false, false, false, false, false, false, false, false, false, false] (.one 7 (.take 9 [true, true, true, true, true, true, true, true, true, false, true, true, true, true, false, false, false, false, false, false, false, false, false, false, false, false, false] (.one 11 (.take 13 [true, true, true, true, true, true, true, true, true, true, true, true, true, false, false, false, false, false, false, false, false, false, false, false, false, false, false] (.one 14 (.take 15 [true, true, true, true, true, true, true, true, true, true, true, true, true, true, true, false, false, false, false, false, false, false, false, false, false, false, false] (.take 16 [true, true, true, true, true, true, true, true, true, true, true, true, true, true, true, true, false, false, false, false, false, false, false, false, false, false, false] (.take 17 [true, true, true, true, true, true, true, true, true, true, true, true, true, true, true, true, true, false, false, true, true, true, true, true, false, false, false] (.take 18 [true, true, true, true, true, true, true, true, true, true, true, true, true, true, true, true, true, true, false, true, true, true, true, true, false, false, false] (.take 19 [true, true, true, true, true, true, true, true, true, true, true, true, true, true, true, true, true, true, true, false, false, true, false, false, false, false, false] (.take 21 [true, true, true, true, true, true, true, true, true, true, true, true, true, true, true, true, true, true, true, true, true, false, false, false, false, false, false] (.one 20 (.one 22 (.one 23 (.take 24 [true, true, true, true, true, true, true, true, true, true, true, true, true, true, true, true, true, true, true, true, true, true, true, true, false, false, false] (.take 25 [true, true, true, true, true, true, true, true, true, true, true, true, true, true, true, true, true, true, true, true, true, true, true, true, true, false, false] (.take 26 [true, true, true, true, true, true, true, true, true, true, true, true, true, true, true, true, true, true, true, true, true, true, true, true, true, true, false] .done))))))))))))))))))))))))))) [true, true, true, true, true, true, true, true, true, true, true, true, true, true, true, true, true, true, true, true, true, true, true, true, true, true, true] mixed hn rfl rfl (wpP_gen fun W w0 w1 w2 w3 w4 => ?_)
    simp (config := { maxSteps := 2000000 }) only [go_sem, ↓reduceIte, Int.reduceToNat, Nat.reduceMul, Int.reduceBEq, Int.reduceBNe, Nat.reduceBEq, Nat.reduceAdd, Nat.reduceSub, Nat.reduceLeDiff, Nat.reduceEqDiff, Nat.reduceLT, reduceCtorEq, w0, w1, w2, w3, w4, g1, hy1, beq_self_eq_true, Option.toList_none, Option.toList_some, List.nil_append]
    refine AOne.callA (b13 b (by omega)) rfl (by rw [hn]; rfl) fun rg v hv => ?_
    obtain ⟨rfl, rfl⟩ := hv
    rw [retS_nil]
    simp (config := { maxSteps := 2000000 }) only [go_sem, ↓reduceIte, Int.reduceToNat, Nat.reduceMul, Int.reduceBEq, Int.reduceBNe, Nat.reduceBEq, Nat.reduceAdd, Nat.reduceSub, Nat.reduceLeDiff, Nat.reduceEqDiff, Nat.reduceLT, reduceCtorEq, w0, w1, w2, w3, w4, g1, hy1, beq_self_eq_true, Option.toList_none, Option.toList_some, List.nil_append]
    refine AOne.weak (weak_opt 63 rfl) (AOne.guardT rfl (AOne.callA (b13 b (by omega)) rfl (by rw [hn]; rfl) fun rg v hv => ?_))
    obtain ⟨rfl, rfl⟩ := hv
    rw [retS_nil]
    simp (config := { maxSteps := 2000000 }) only [go_sem, ↓reduceIte, Int.reduceToNat, Nat.reduceMul, Int.reduceBEq, Int.reduceBNe, Nat.reduceBEq, Nat.reduceAdd, Nat.reduceSub, Nat.reduceLeDiff, Nat.reduceEqDiff, Nat.reduceLT, reduceCtorEq, w0, w1, w2, w3, w4, g1, hy1, beq_self_eq_true, Option.toList_none, Option.toList_some, List.nil_append]
    refine ⟨⟨by omega, by omega, by omega⟩, ?_⟩
    refine AOne.weak (weak_opt 67 rfl) (AOne.guardT rfl (AOne.callA (b13 A (by omega)) rfl (by rw [hn]; rfl) fun rg v hv => ?_))
    obtain ⟨rfl, rfl⟩ := hv
    rw [retS_nil]
    simp (config := { maxSteps := 2000000 }) only [go_sem, ↓reduceIte, Int.reduceToNat, Nat.reduceMul, Int.reduceBEq, Int.reduceBNe, Nat.reduceBEq, Nat.reduceAdd, Nat.reduceSub, Nat.reduceLeDiff, Nat.reduceEqDiff, Nat.reduceLT, reduceCtorEq, w0, w1, w2, w3, w4, g1, hy1, beq_self_eq_true, Option.toList_none, Option.toList_some, List.nil_append]
    refine ⟨⟨by omega, by omega, by omega⟩, ?_⟩
    rw [k1, k2]
    refine AOne.gcalleT (b := true) (y := B true) rfl (fun _ => by simp (config := { maxSteps := 2000000 }) only [go_sem, ↓reduceIte, Int.reduceToNat, Nat.reduceMul, Int.reduceBEq, Int.reduceBNe, Nat.reduceBEq, Nat.reduceAdd, Nat.reduceSub, Nat.reduceLeDiff, Nat.reduceEqDiff, Nat.reduceLT, reduceCtorEq]; exact SpecG.at (Spec.g (Γ := Γ) (s11 none false none false (A.list.take m) hlm)) hT) rfl (by rw [hn]; rfl) (fun _ => by simp (config := { maxSteps := 2000000 }) only [go_sem, ↓reduceIte, Int.reduceToNat, Nat.reduceMul, Int.reduceBEq, Int.reduceBNe, Nat.reduceBEq, Nat.reduceAdd, Nat.reduceSub, Nat.reduceLeDiff, Nat.reduceEqDiff, Nat.reduceLT, reduceCtorEq]) ?_
    simp (config := { maxSteps := 2000000 }) only [go_sem, ↓reduceIte, Int.reduceToNat, Nat.reduceMul, Int.reduceBEq, Int.reduceBNe, Nat.reduceBEq, Nat.reduceAdd, Nat.reduceSub, Nat.reduceLeDiff, Nat.reduceEqDiff, Nat.reduceLT, reduceCtorEq, w0, w1, w2, w3, w4, g1, hy1, beq_self_eq_true, Option.toList_none, Option.toList_some, List.nil_append]
    repeat' first
      | (refine And.intro ?_ ?_)
      | (refine AOne.weak (weak_opt 76 rfl) (AOne.guardT rfl (AOne.callA (b13 b (by omega)) rfl (by rw [hn]; rfl) fun rg v hv => ?_)); obtain ⟨rfl, rfl⟩ := hv; rw [retS_nil]; simp (config := { maxSteps := 2000000 }) only [go_sem, ↓reduceIte, Int.reduceToNat, Nat.reduceMul, Int.reduceBEq, Int.reduceBNe, Nat.reduceBEq, Nat.reduceAdd, Nat.reduceSub, Nat.reduceLeDiff, Nat.reduceEqDiff, Nat.reduceLT, reduceCtorEq, w0, w1, w2, w3, w4, g1, hy1, beq_self_eq_true, Option.toList_none, Option.toList_some, List.nil_append])
      | (refine AOne.weak (weak_opt 78 rfl) (AOne.guardT rfl (AOne.callA (b13 A (by omega)) rfl (by rw [hn]; rfl) fun rg v hv => ?_)); obtain ⟨rfl, rfl⟩ := hv; rw [retS_nil]; simp (config := { maxSteps := 2000000 }) only [go_sem, ↓reduceIte, Int.reduceToNat, Nat.reduceMul, Int.reduceBEq, Int.reduceBNe, Nat.reduceBEq, Nat.reduceAdd, Nat.reduceSub, Nat.reduceLeDiff, Nat.reduceEqDiff, Nat.reduceLT, reduceCtorEq, w0, w1, w2, w3, w4, g1, hy1, beq_self_eq_true, Option.toList_none, Option.toList_some, List.nil_append])
      | (refine AOne.gcalleT (b := true) (y := B (decide (y = 0))) rfl (fun _ => by simp (config := { maxSteps := 2000000 }) only [go_sem, ↓reduceIte, Int.reduceToNat, Nat.reduceMul, Int.reduceBEq, Int.reduceBNe, Nat.reduceBEq, Nat.reduceAdd, Nat.reduceSub, Nat.reduceLeDiff, Nat.reduceEqDiff, Nat.reduceLT, reduceCtorEq]; exact SpecG.at (Spec.g (Γ := Γ) hEq) hT) rfl (by rw [hn]; rfl) (fun _ => by simp (config := { maxSteps := 2000000 }) only [go_sem, ↓reduceIte, Int.reduceToNat, Nat.reduceMul, Int.reduceBEq, Int.reduceBNe, Nat.reduceBEq, Nat.reduceAdd, Nat.reduceSub, Nat.reduceLeDiff, Nat.reduceEqDiff, Nat.reduceLT, reduceCtorEq]) ?_; simp (config := { maxSteps := 2000000 }) only [go_sem, ↓reduceIte, Int.reduceToNat, Nat.reduceMul, Int.reduceBEq, Int.reduceBNe, Nat.reduceBEq, Nat.reduceAdd, Nat.reduceSub, Nat.reduceLeDiff, Nat.reduceEqDiff, Nat.reduceLT, reduceCtorEq, w0, w1, w2, w3, w4, g1, hy1, beq_self_eq_true, Option.toList_none, Option.toList_some, List.nil_append])
      | exact weak_to [] hp hnp rfl (by simp (config := { maxSteps := 2000000 }) only [go_sem, ↓reduceIte, Int.reduceToNat, Nat.reduceMul, Int.reduceBEq, Int.reduceBNe, Nat.reduceBEq, Nat.reduceAdd, Nat.reduceSub, Nat.reduceLeDiff, Nat.reduceEqDiff, Nat.reduceLT, reduceCtorEq]) rfl
  · simp (config := { maxSteps := 2000000 }) only [go_sem, ↓reduceIte, Int.reduceToNat, Nat.reduceMul, Int.reduceBEq, Int.reduceBNe, Nat.reduceBEq, Nat.reduceAdd, Nat.reduceSub, Nat.reduceLeDiff, Nat.reduceEqDiff, Nat.reduceLT, reduceCtorEq]
    refine Retn.ret (π := []) hp hnp ⟨rfl, ?_⟩
    simp (config := { maxSteps := 2000000 }) only [go_sem, ↓reduceIte, Int.reduceToNat, Nat.reduceMul, Int.reduceBEq, Int.reduceBNe, Nat.reduceBEq, Nat.reduceAdd, Nat.reduceSub, Nat.reduceLeDiff, Nat.reduceEqDiff, Nat.reduceLT, reduceCtorEq, Aw.renR, Aw.pos]
end Go.Proofs.YtemgclhenkbikaaDoor
