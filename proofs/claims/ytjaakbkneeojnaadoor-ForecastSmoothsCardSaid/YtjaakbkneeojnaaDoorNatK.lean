/- Numbers: Digits, Check, Read. -/
import Derived.Test.YtjaakbkneeojnaaDoorAwZl
import Derived.Test.YtjaakbkneeojnaaDoorNatI
set_option linter.unusedVariables false
set_option linter.unusedSimpArgs false
namespace Go.Proofs.YtjaakbkneeojnaaDoor
open Go.Proofs.YtjaakbkneeojnaaDoor.Aw
attribute [local go_sem] Int.natCast_zero Int.natCast_one bne_self_eq_false beq_self_eq_true Bool.not_true Bool.not_false Option.isSome_none Option.isSome_some Aw.bkM_nil Option.getD_some Option.getD_none Nat.sub_zero Int.toNat_zero Aw.frzS Aw.frzT Aw.frzA Aw.frzL Aw.frzR Aw.frzO Aw.frzOL Aw.frzOT Aw.frzOR Aw.killS Aw.mapT Aw.mapR Aw.killM Aw.resAVs Aw.resAV Aw.quietOps Aw.wpP Aw.wpT Aw.wpS Aw.AOp.mild List.getElem?_cons_zero List.getElem?_cons_succ Bool.and_false Bool.and_self Bool.false_and Aw.opOb Aw.gdB Aw.Rnd Aw.subTm List.length_map Int.toNat_natCast and_self Aw.SeqC Aw.stops Aw.Ends Aw.looks Aw.renA Aw.renL Aw.renT Aw.renS Aw.wpO Aw.aop Aw.putTm Aw.St.ev Aw.St.put Aw.St.putO Aw.binAV Aw.intBin Aw.strBin Aw.pickAV Aw.optInt Aw.AV.strip Aw.AV.guard Aw.AV.cells Aw.gdOb Aw.AOp.opds Aw.AOp.still Aw.ptrCells Aw.St.reg Aw.fillAV Aw.fillOb Aw.elsOb Aw.splice Aw.firm Aw.cellish Aw.AV.shut Aw.shutAll Aw.Seq Aw.Blk Aw.retS_nil Aw.mapA Aw.mapL Aw.borA Aw.borOb Aw.allOb Aw.tupOf Aw.params Aw.Opd.of Array.toList Value.cells List.map_cons List.map_nil List.getD_cons_zero List.getD_cons_succ List.getD_nil List.length_cons List.length_nil List.take_succ_cons List.take_zero List.take_nil List.drop_zero List.drop_succ_cons List.drop_nil List.set_cons_zero List.set_cons_succ List.append_nil List.nil_append List.cons_append List.all_cons List.all_nil cond_false cond_true if_true if_false true_and and_true Bool.and_true Bool.true_and Option.map_some Option.map_none false_implies forall_const implies_true forall_eq imp_self Bool.cond_false_right Bool.cond_true_left beq_true beq_false Bool.not_eq_true' Bool.false_eq_true Nat.zero_add Nat.add_zero Aw.eqCells Aw.stopDraw Aw.skipS Aw.exactCap Aw.revealS Aw.srcEls Aw.srcSz
attribute [local go_sem ↓] Aw.look_nil Aw.look_ite Aw.wpL_nil Aw.wpL_op Aw.wpL_gd Aw.wpQ_nil Aw.wpQ_op Aw.wpQ_gd Aw.wpC_draw Aw.wpC_reg Aw.wpC_skip Aw.wpC_ret Aw.wpC_exit Aw.wpC_seq Aw.wpC_block Aw.wpC_loop Aw.wpC_cond Aw.stopAt_nil Aw.stopAt_cons Aw.wpD_skip Aw.wpD_ret Aw.wpD_exit Aw.wpD_region Aw.wpD_draw Aw.wpM_nil Aw.wpM_op Aw.wpM_gd Aw.wpD_seq Aw.wpD_block Aw.wpD_loop Aw.wpD_cond
/- (gridhall/nat.N).Digits -/
def a77 : ACode :=
  (.seq (.region false [] [
     ⟨(some 2), none, (.mov (.v (.int .i64 0)))⟩])
  (.seq (.region false [] [
     ⟨(some 3), none, (.mov (.t 0))⟩,
     ⟨(some 4), none, (.call 76 [(.t 3)])⟩,
     ⟨(some 5), none, (.lens (.t 4))⟩,
     ⟨(some 2), none, (.mov (.t 5))⟩])
  .ret))
theorem k77 : FnIs Tryd.prog 77 6 [.t 2] a77 := ⟨_, _, Tryd.func77, rfl, by kernel_rfl, by kernel_rfl, rfl⟩
/- gridhall/nat.Check -/
def a72 : ACode :=
  (.seq (.region false [] [
     ⟨(some 2), none, (.mov (.v (.int .i64 0)))⟩])
  (.seq (.seq (.region false [] [
     ⟨(some 5), none, (.mov (.t 0))⟩,
     ⟨(some 6), none, (.bin .eql 9 (.t 5) (.v (.string ⟨#[]⟩)))⟩,
     ⟨(some 7), none, (.mov (.t 6))⟩,
     ⟨(some 8), (some (7, false)), (.mov (.t 0))⟩,
     ⟨(some 9), (some (7, false)), (.sidx (.t 8) (.v (.int .i64 0)))⟩,
     ⟨(some 10), (some (7, false)), (.bin .eql 5 (.t 9) (.v (.int .u8 48)))⟩,
     ⟨(some 11), (some (7, false)), (.mov (.t 10))⟩,
     ⟨(some 12), (some (11, true)), (.mov (.t 0))⟩,
     ⟨(some 13), (some (11, true)), (.lens (.t 12))⟩,
     ⟨(some 14), (some (11, true)), (.bin .gtr 3 (.t 13) (.v (.int .i64 1)))⟩,
     ⟨(some 15), (some (7, false)), (.pick (.t 11) (.t 14) (.v (.bool false)))⟩,
     ⟨(some 16), none, (.pick (.t 7) (.v (.bool true)) (.t 15))⟩])
  (.cond (.t 16)
    (.seq (.region false [] [
       ⟨(some 2), none, (.mov (.v (.int .i64 5)))⟩])
    .ret)
    .skip))
  (.seq (.seq (.region false [] [
     ⟨(some 17), none, (.mov (.t 0))⟩,
     ⟨(some 18), none, (.stb 5 (.t 17))⟩,
     ⟨(some 19), none, (.len (.t 18))⟩,
     ⟨(some 20), none, (.mov (.v (.int .i64 0)))⟩])
  (.block 0 (.loop (.seq (.region false [] [
       ⟨(some 21), none, (.bin .lss 3 (.t 20) (.t 19))⟩])
    (.seq (.cond (.t 21)
      .skip
      (.exit 0))
    (.seq (.block 1 (.seq (.region false [] [
        ⟨(some 22), none, (.idx 1 (.t 18) (.t 20))⟩,
        ⟨(some 23), none, (.load 1 false (.t 22))⟩,
        ⟨(some 4), none, (.mov (.t 23))⟩])
     (.seq (.region false [] [
        ⟨(some 24), none, (.mov (.t 4))⟩,
        ⟨(some 25), none, (.bin .lss 5 (.t 24) (.v (.int .u8 48)))⟩,
        ⟨(some 26), none, (.mov (.t 25))⟩,
        ⟨(some 27), (some (26, false)), (.mov (.t 4))⟩,
        ⟨(some 28), (some (26, false)), (.bin .gtr 5 (.t 27) (.v (.int .u8 57)))⟩,
        ⟨(some 29), none, (.pick (.t 26) (.v (.bool true)) (.t 28))⟩])
     (.cond (.t 29)
       (.seq (.region false [] [
          ⟨(some 2), none, (.mov (.v (.int .i64 5)))⟩])
       .ret)
       .skip))))
    (.region false [] [
       ⟨(some 30), none, (.bin .add 3 (.t 20) (.v (.int .i64 1)))⟩,
       ⟨(some 20), none, (.mov (.t 30))⟩])))))))
  (.seq (.seq (.region false [] [
     ⟨(some 31), none, (.mov (.t 0))⟩,
     ⟨(some 32), none, (.lens (.t 31))⟩,
     ⟨(some 33), none, (.bin .gtr 3 (.t 32) (.v (.int .i64 2000)))⟩])
  (.cond (.t 33)
    (.seq (.region false [] [
       ⟨(some 2), none, (.mov (.v (.int .i64 2)))⟩])
    .ret)
    .skip))
  (.seq (.region false [] [
     ⟨(some 2), none, (.mov (.v (.int .i64 0)))⟩])
  .ret)))))
theorem k72 : FnIs Tryd.prog 72 34 [.t 2] a72 := ⟨_, _, Tryd.func72, rfl, by kernel_rfl, by kernel_rfl, rfl⟩
/- gridhall/nat.Read -/
def a65 : ACode :=
  (.seq (.region false [] [
     ⟨(some 2), none, (.mov (.v (.slice none 0 0)))⟩])
  (.seq (.region false [] [
     ⟨(some 3), none, (.mov (.v (.slice none 0 0)))⟩])
  (.seq (.seq (.region false [] [
     ⟨(some 8), none, (.mov (.t 0))⟩,
     ⟨(some 9), none, (.lens (.t 8))⟩,
     ⟨(some 4), none, (.mov (.t 9))⟩])
  (.block 0 (.loop (.seq (.seq (.region false [] [
       ⟨(some 10), none, (.mov (.t 4))⟩,
       ⟨(some 11), none, (.bin .gtr 3 (.t 10) (.v (.int .i64 0)))⟩])
    (.cond (.t 11)
      .skip
      (.exit 0)))
    (.seq (.block 1 (.seq (.region false [] [
        ⟨(some 5), none, (.mov (.v (.int .u32 0)))⟩])
     (.seq (.seq (.region false [] [
        ⟨(some 14), none, (.mov (.t 0))⟩,
        ⟨(some 15), none, (.mov (.t 4))⟩,
        ⟨(some 16), none, (.bin .sub 3 (.t 15) (.v (.int .i64 9)))⟩,
        ⟨(some 17), none, (.mxi (.v (.int .i64 0)) (.t 16))⟩,
        ⟨(some 18), none, (.mov (.t 4))⟩,
        ⟨(some 19), none, (.slcs (.t 14) (some (.t 17)) (some (.t 18)))⟩,
        ⟨(some 20), none, (.stb 5 (.t 19))⟩,
        ⟨(some 21), none, (.len (.t 20))⟩,
        ⟨(some 22), none, (.mov (.v (.int .i64 0)))⟩])
     (.block 2 (.loop (.seq (.region false [] [
          ⟨(some 23), none, (.bin .lss 3 (.t 22) (.t 21))⟩])
       (.seq (.cond (.t 23)
         .skip
         (.exit 2))
       (.seq (.block 3 (.seq (.region false [] [
           ⟨(some 24), none, (.idx 1 (.t 20) (.t 22))⟩,
           ⟨(some 25), none, (.load 1 false (.t 24))⟩,
           ⟨(some 7), none, (.mov (.t 25))⟩])
        (.region false [] [
           ⟨(some 26), none, (.mov (.t 5))⟩,
           ⟨(some 27), none, (.bin .mul 99 (.t 26) (.v (.int .u32 10)))⟩,
           ⟨(some 28), none, (.mov (.t 7))⟩,
           ⟨(some 29), none, (.bin .sub 5 (.t 28) (.v (.int .u8 48)))⟩,
           ⟨(some 30), none, (.itoi .u32 (.t 29))⟩,
           ⟨(some 31), none, (.bin .add 99 (.t 27) (.t 30))⟩,
           ⟨(some 5), none, (.mov (.t 31))⟩])))
       (.region false [] [
          ⟨(some 32), none, (.bin .add 3 (.t 22) (.v (.int .i64 1)))⟩,
          ⟨(some 22), none, (.mov (.t 32))⟩])))))))
     (.region false [] [
        ⟨(some 33), none, (.mov (.t 3))⟩,
        ⟨(some 34), none, (.mov (.t 5))⟩,
        ⟨(some 35), none, (.bsl 99 1 1 [(0, (.t 34))])⟩,
        ⟨(some 36), none, (.app 99 1 4 (.int .u32 0) (.t 33) (.t 35))⟩,
        ⟨(some 3), none, (.mov (.t 36))⟩]))))
    (.region false [] [
       ⟨(some 12), none, (.mov (.t 4))⟩,
       ⟨(some 13), none, (.bin .sub 3 (.t 12) (.v (.int .i64 9)))⟩,
       ⟨(some 4), none, (.mov (.t 13))⟩]))))))
  (.seq (.region false [] [
     ⟨(some 37), none, (.mov (.t 3))⟩,
     ⟨(some 38), none, (.call 81 [(.t 37)])⟩,
     ⟨(some 2), none, (.mov (.t 38))⟩])
  .ret))))
theorem k65 : FnIs Tryd.prog 65 39 [.t 2] a65 := ⟨_, _, Tryd.func65, rfl, by kernel_rfl, by kernel_rfl, rfl⟩

theorem txt_size (n : Nat) : (txt n).size = (txtL n).length := rfl
theorem s77 (n : Nat) (hn0 : nl n ≤ 1000000) : Aw.Spec Tryd.prog 77 [] [nv n] (Gives (· = I (txtL n).length)) := by
  refine Aw.Spec.givesD k77 mixed rfl rfl rfl fun E hn hnp hp => ?_
  unfold a77
  simp (config := { maxSteps := 2000000 }) only [go_sem, ↓reduceIte, Int.reduceToNat, Nat.reduceMul, Int.reduceBEq, Int.reduceBNe, Nat.reduceBEq, Nat.reduceAdd, Nat.reduceSub, Nat.reduceLeDiff, Nat.reduceEqDiff, Nat.reduceLT, reduceCtorEq]
  (refine AWpL.calle (s76 n hn0) rfl (by rw [hn]; rfl) (by simp (config := { maxSteps := 2000000 }) only [go_sem, ↓reduceIte, Int.reduceToNat, Nat.reduceMul, Int.reduceBEq, Int.reduceBNe, Nat.reduceBEq, Nat.reduceAdd, Nat.reduceSub, Nat.reduceLeDiff, Nat.reduceEqDiff, Nat.reduceLT, reduceCtorEq]) (AWpL.ofM hn rfl ?_); simp (config := { maxSteps := 2000000 }) only [go_sem, ↓reduceIte, Int.reduceToNat, Nat.reduceMul, Int.reduceBEq, Int.reduceBNe, Nat.reduceBEq, Nat.reduceAdd, Nat.reduceSub, Nat.reduceLeDiff, Nat.reduceEqDiff, Nat.reduceLT, reduceCtorEq])
  rfl
/-- Whether a byte is a digit. -/
def digB (c : UInt8) : Bool := !(decide ((c.toNat : Int) < 48) || decide ((c.toNat : Int) > 57))
/-- Whether a text is a canonical number. -/
def isNumB (l : List UInt8) : Bool := !(l == [] || ((((l.getD 0 0).toNat : Int) == 48) && decide ((l.length : Int) > 1))) && l.all digB
theorem digB_iff (c : UInt8) : digB c = true ↔ 48 ≤ c.toNat ∧ c.toNat ≤ 57 := by
  unfold digB
  simp only [Bool.not_eq_true', Bool.or_eq_false_iff, decide_eq_false_iff_not]
  omega
theorem isNumB_iff (l : List UInt8) : isNumB l = true ↔ IsNum l := by
  unfold isNumB IsNum
  cases l with
  | nil => simp
  | cons c l =>
    have e0 : ((c :: l) == []) = false := rfl
    have e1 : (c :: l).getD 0 0 = c := rfl
    rw [e0, e1]
    simp only [Bool.false_or, Bool.and_eq_true, List.all_eq_true, digB_iff, List.head?_cons, Bool.not_eq_true', Bool.and_eq_false_iff, beq_eq_false_iff_ne, decide_eq_false_iff_not]
    constructor
    · rintro ⟨h1, h2⟩
      refine ⟨by simp, h2, fun h => ?_⟩
      injection h with h
      subst h
      rcases h1 with h1 | h1
      · exact absurd rfl h1
      · rw [List.length_cons] at h1 ⊢; omega
    · rintro ⟨_, h2, h3⟩
      refine ⟨?_, h2⟩
      by_cases h : c = 48
      · right; have := h3 (by rw [h]); rw [List.length_cons] at this ⊢; omega
      · left
        intro h4
        exact h (UInt8.toNat_inj.1 (by show c.toNat = 48; omega))
/-- What the check of a number says. -/
def checkN (l : List UInt8) : Int := if isNumB l = true then (if (2000 : Int) < l.length then 2 else 0) else 5
set_option maxRecDepth 20000 in
theorem s72 (s : ByteArray) (hs : s.size ≤ 9223372036854775807) : Aw.Spec Tryd.prog 72 [] [S s] (Gives (· = I (checkN s.data.toList))) := by
  refine Aw.Spec.givesD k72 mixed rfl rfl rfl fun E hn hnp hp => ?_
  unfold a72
  have hsz : s.data.toList.length = s.size := by rw [Array.length_toList]; rfl
  have hl : s.toList = s.data.toList := Lib.toList_data s
  have he : (⟨#[]⟩ : ByteArray).toList = [] := by rw [Lib.toList_data]
  simp (config := { maxSteps := 2000000 }) only [go_sem, ↓reduceIte, Int.reduceToNat, Nat.reduceMul, Int.reduceBEq, Int.reduceBNe, Nat.reduceBEq, Nat.reduceAdd, Nat.reduceSub, Nat.reduceLeDiff, Nat.reduceEqDiff, Nat.reduceLT, reduceCtorEq, hl, he, ← hsz]
  refine ⟨fun h => ⟨h, by omega, ?_⟩, fun h => ⟨h, fun h2 => by rw [h, h2]; rfl⟩, fun h => ?_, fun h => ?_⟩
  · cases hc : s.data.toList with
    | nil => rw [hc] at h; cases h
    | cons c l => rw [List.length_cons]; omega
  · unfold checkN isNumB
    rw [h]; rfl
  refine AWp.loop (fun k s' => ∃ i : Nat, i + k = s.data.toList.length ∧ s.data.toList.all digB = (s.data.toList.drop i).all digB ∧ Weak E s' ⟨[(0, S s), (18, .imm (some false) false 1 (s.data.toList.map fun c => [.val (.int .u8 c.toNat)])), (19, I s.data.toList.length), (20, I i)], []⟩) (n := s.data.toList.length)
    ⟨0, by omega, rfl, weak_to [] hp hnp rfl ⟨rfl, rfl, rfl, rfl, trivial⟩ rfl⟩ ?_
  rintro k s' ⟨i, hi, hall, hw⟩
  refine AWp.weak hw (AWp.ofD [] [] hn mixed rfl ?_)
  rcases Nat.lt_or_ge i s.data.toList.length with hlt | hge
  · have e0 : decide ((i : Int) < (s.data.toList.length : Int)) = true := decide_eq_true (by omega)
    have e1 := getD_map (fun c : UInt8 => [AV.val (.int .u8 c.toNat)]) hlt
    have e2 : IntKind.i64.wrap ((i : Int) + 1) = ((i + 1 : Nat) : Int) := by rw [w64 (by omega) (by omega)]; rfl
    simp (config := { maxSteps := 2000000 }) only [go_sem, ↓reduceIte, Int.reduceToNat, Nat.reduceMul, Int.reduceBEq, Int.reduceBNe, Nat.reduceBEq, Nat.reduceAdd, Nat.reduceSub, Nat.reduceLeDiff, Nat.reduceEqDiff, Nat.reduceLT, reduceCtorEq, e0, e1, e2]
    (repeat (refine And.intro (by first | omega | (refine ⟨by omega, by omega⟩) | (refine ⟨by omega, by omega, by omega⟩) | (simp only [List.length_map, List.length_range, List.length_append, List.length_cons, List.length_nil, List.length_replicate, List.length_set]; omega) | (simp; omega) | (intro hgd; cases hgd) | (intro hgd; refine ⟨hgd, ?_⟩; first | omega | (refine ⟨by omega, by omega⟩) | (simp; omega))) ?_))
    rw [List.drop_eq_getElem_cons hlt, List.all_cons] at hall
    refine ⟨fun h2 => ?_, fun h2 => ?_⟩
    · have : digB s.data.toList[i] = false := by unfold digB; rw [h2]; rfl
      rw [this, Bool.false_and] at hall
      unfold checkN isNumB
      rw [hall, Bool.and_false]; rfl
    · have : digB s.data.toList[i] = true := by unfold digB; rw [h2]; rfl
      rw [this, Bool.true_and] at hall
      exact ⟨k - 1, by omega, i + 1, by omega, hall, weak_to [] hp hnp rfl (by simp (config := { maxSteps := 2000000 }) only [go_sem, ↓reduceIte, Int.reduceToNat, Nat.reduceMul, Int.reduceBEq, Int.reduceBNe, Nat.reduceBEq, Nat.reduceAdd, Nat.reduceSub, Nat.reduceLeDiff, Nat.reduceEqDiff, Nat.reduceLT, reduceCtorEq]) rfl⟩
  · have e0 : decide ((i : Int) < (s.data.toList.length : Int)) = false := decide_eq_false (by omega)
    simp (config := { maxSteps := 2000000 }) only [go_sem, ↓reduceIte, Int.reduceToNat, Nat.reduceMul, Int.reduceBEq, Int.reduceBNe, Nat.reduceBEq, Nat.reduceAdd, Nat.reduceSub, Nat.reduceLeDiff, Nat.reduceEqDiff, Nat.reduceLT, reduceCtorEq, e0, ← hsz]
    rw [List.drop_of_length_le hge, List.all_nil] at hall
    unfold checkN isNumB
    rw [h, hall, if_pos (by rfl)]
    refine ⟨fun h2 => ?_, fun h2 => ?_⟩
    · rw [if_pos (of_decide_eq_true h2)]
    · rw [if_neg (by have := of_decide_eq_false h2; omega)]
/-- The part of a text. -/
theorem ext_list (s : ByteArray) (a b : Nat) : (s.extract a b).data.toList = (s.data.toList.take b).drop a := by
  rw [ByteArray.data_extract, Array.toList_extract, List.extract_eq_take_drop]
  rw [List.drop_take]
theorem dgs_app (l m : List UInt8) : dgs (l ++ m) = dgs l ++ dgs m := List.map_append
theorem dgs_len (l : List UInt8) : (dgs l).length = l.length := List.length_map _
theorem read_step {a n1 n2 X B : Nat} (h : a + B * (n1 * bs + n2) = X) : (a + B * n2) + (B * bs) * n1 = X := by
  rw [Nat.mul_add, Nat.mul_comm n1 bs, ← Nat.mul_assoc] at h
  omega
set_option maxRecDepth 20000 in
set_option maxHeartbeats 1000000 in
theorem s65 (s : ByteArray) (hs : s.size ≤ 1000000) (hd : ∀ c ∈ s.data.toList, 48 ≤ c.toNat ∧ c.toNat ≤ 57) : Aw.Spec Tryd.prog 65 [] [S s] (fun rg v => rg = [] ∧ v = nv (num (dgs s.data.toList))) := by
  refine Aw.Spec.regsW k65 rfl rfl fun E hn hnp hp => ?_
  unfold a65
  have pin : ∀ r, E.pin r = none := fun r => hp.none hnp (Nat.zero_le _)
  have hbs : bs = 1000000000 := rfl
  have hsz : s.data.toList.length = s.size := by rw [Array.length_toList]; rfl
  refine AWp.ofD [] [] hn mixed rfl ?_
  simp (config := { maxSteps := 2000000 }) only [go_sem, ↓reduceIte, Int.reduceToNat, Nat.reduceMul, Int.reduceBEq, Int.reduceBNe, Nat.reduceBEq, Nat.reduceAdd, Nat.reduceSub, Nat.reduceLeDiff, Nat.reduceEqDiff, Nat.reduceLT, reduceCtorEq, ← hsz]
  refine AWp.weak (weak_nil 3 99 1 rfl) ?_
  refine AWp.loop (fun k st => ∃ (e : Int) (out : List Nat), e.toNat = k ∧ e ≤ s.data.toList.length ∧ -9 ≤ e ∧ (out.length : Int) * 9 + e = s.data.toList.length ∧ Dig out ∧ val out + bs ^ out.length * num (dgs (s.data.toList.take k)) = num (dgs s.data.toList) ∧ Weak E st ⟨[(0, S s), (3, .hnd 0 0 out.length out.length false), (4, I e)], [.arr 99 1 (out.map uc)]⟩) (n := s.data.toList.length)
    ⟨s.data.toList.length, [], by omega, by omega, by omega, by simp, fun d hd => (by cases hd), by simp only [List.take_length]; simp [val], weak_to [0] hp hnp rfl (by simp (config := { maxSteps := 2000000 }) only [go_sem, ↓reduceIte, Int.reduceToNat, Nat.reduceMul, Int.reduceBEq, Int.reduceBNe, Nat.reduceBEq, Nat.reduceAdd, Nat.reduceSub, Nat.reduceLeDiff, Nat.reduceEqDiff, Nat.reduceLT, reduceCtorEq, Aw.pos]) (by simp (config := { maxSteps := 2000000 }) only [go_sem, ↓reduceIte, Int.reduceToNat, Nat.reduceMul, Int.reduceBEq, Int.reduceBNe, Nat.reduceBEq, Nat.reduceAdd, Nat.reduceSub, Nat.reduceLeDiff, Nat.reduceEqDiff, Nat.reduceLT, reduceCtorEq, Aw.renR, Aw.pos] <;> rfl)⟩ ?_
  rintro k st ⟨e, out, hek, hel, he9, hlen, hdo, hval, hw⟩
  refine AWp.weak hw (AWp.ofD [] [] hn mixed rfl ?_)
  rcases Int.lt_or_le 0 e with hpos | hneg
  · have e0 : decide (e > 0) = true := decide_eq_true hpos
    have e1 : IntKind.i64.wrap (e - 9) = e - 9 := w64 (by omega) (by omega)
    obtain ⟨b, hb⟩ : ∃ b : Nat, max 0 (e - 9) = (b : Int) := ⟨(max 0 (e - 9)).toNat, by omega⟩
    have hke : e = (k : Int) := by omega
    subst hke
    simp (config := { maxSteps := 2000000 }) only [go_sem, ↓reduceIte, Int.reduceToNat, Nat.reduceMul, Int.reduceBEq, Int.reduceBNe, Nat.reduceBEq, Nat.reduceAdd, Nat.reduceSub, Nat.reduceLeDiff, Nat.reduceEqDiff, Nat.reduceLT, reduceCtorEq, e0, e1, hb, ext_list]
    have hbk : b = k - 9 := by omega
    refine ⟨⟨by omega, by omega, by omega⟩, ?_⟩
    have hCl : ((s.data.toList.take k).drop b).length = k - b := by rw [List.length_drop, List.length_take]; omega
    have hsplit : s.data.toList.take k = s.data.toList.take b ++ (s.data.toList.take k).drop b := by
      have := (List.take_append_drop b (s.data.toList.take k)).symm
      rwa [List.take_take, Nat.min_eq_left (by omega)] at this
    have hCd : ∀ c ∈ (s.data.toList.take k).drop b, 48 ≤ c.toNat ∧ c.toNat ≤ 57 := fun c hc => hd c (List.mem_of_mem_take (List.mem_of_mem_drop hc))
    rw [hsplit] at hval
    clear hsplit
    generalize (s.data.toList.take k).drop b = C at *
    refine AWp.loop (fun g st => ∃ j : Nat, j + g = C.length ∧ Weak E st ⟨[(0, S s), (3, .hnd 0 0 out.length out.length false), (4, I k), (5, U ((num (dgs (C.take j)) : Nat) : Int)), (20, .imm (some false) false 1 (C.map fun c => [.val (.int .u8 c.toNat)])), (21, I C.length), (22, I j)], [.arr 99 1 (out.map uc)]⟩) (n := C.length)
      ⟨0, by omega, weak_to [0] hp hnp rfl ⟨rfl, rfl, rfl, rfl, rfl, rfl, rfl, trivial⟩ (by simp (config := { maxSteps := 2000000 }) only [go_sem, ↓reduceIte, Int.reduceToNat, Nat.reduceMul, Int.reduceBEq, Int.reduceBNe, Nat.reduceBEq, Nat.reduceAdd, Nat.reduceSub, Nat.reduceLeDiff, Nat.reduceEqDiff, Nat.reduceLT, reduceCtorEq, Aw.renR, Aw.pos] <;> rfl)⟩ ?_
    rintro g st ⟨j, hj, hw⟩
    refine AWp.weak hw (AWp.ofD [] [] hn mixed rfl ?_)
    have hnb : num (dgs (C.take j)) < 10 ^ j := by
      have h1 := num_lt (dgs_lt (l := C.take j) fun c hc => hCd c (List.mem_of_mem_take hc))
      rw [dgs_len, List.length_take] at h1
      exact Nat.lt_of_lt_of_le h1 (Nat.pow_le_pow_right (by decide) (by omega))
    rcases Nat.lt_or_ge j C.length with hlt | hge
    · have e2 : decide ((j : Int) < (C.length : Int)) = true := decide_eq_true (by omega)
      have e3 := getD_map (fun c : UInt8 => [AV.val (.int .u8 c.toNat)]) hlt
      have e4 : IntKind.i64.wrap ((j : Int) + 1) = ((j + 1 : Nat) : Int) := by rw [w64 (by omega) (by omega)]; rfl
      have hcj := hCd C[j] (List.getElem_mem hlt)
      have hj8 : 10 ^ j ≤ 10 ^ 8 := Nat.pow_le_pow_right (by decide) (by omega)
      have hnum : num (dgs (C.take (j + 1))) = num (dgs (C.take j)) * 10 + (C[j].toNat - 48) := by
        rw [take_get hlt, dgs_app, num_append]
        show num (dgs (C.take j)) * 10 ^ 1 + num [C[j].toNat - 48] = _
        rw [Nat.pow_one]
        simp [num]
      generalize C[j].toNat = x at *
      generalize num (dgs (C.take j)) = y at *
      have e5 : IntKind.u8.wrap ((x : Int) - 48) = ((x - 48 : Nat) : Int) := by
        show (((x : Int) - 48) % 256 : Int) = _
        omega
      have e6 : IntKind.u32.wrap ((x - 48 : Nat) : Int) = ((x - 48 : Nat) : Int) := w32 (by omega) (by omega)
      have e7 : IntKind.u32.wrap ((y : Int) * 10) = ((y * 10 : Nat) : Int) := by rw [w32 (by omega) (by omega)]; rfl
      have e8 : IntKind.u32.wrap (((y * 10 : Nat) : Int) + ((x - 48 : Nat) : Int)) = ((num (dgs (C.take (j + 1))) : Nat) : Int) := by rw [hnum, w32 (by omega) (by omega)]; rfl
      simp (config := { maxSteps := 2000000 }) only [go_sem, ↓reduceIte, Int.reduceToNat, Nat.reduceMul, Int.reduceBEq, Int.reduceBNe, Nat.reduceBEq, Nat.reduceAdd, Nat.reduceSub, Nat.reduceLeDiff, Nat.reduceEqDiff, Nat.reduceLT, reduceCtorEq, e2, e3, e4, e5, e6, e7, e8]
      (repeat (refine And.intro (by first | omega | (refine ⟨by omega, by omega⟩) | (refine ⟨by omega, by omega, by omega⟩) | (simp only [List.length_map, List.length_range, List.length_append, List.length_cons, List.length_nil, List.length_replicate, List.length_set]; omega) | (simp; omega) | (intro hgd; cases hgd) | (intro hgd; refine ⟨hgd, ?_⟩; first | omega | (refine ⟨by omega, by omega⟩) | (simp; omega))) ?_))
      exact ⟨g - 1, by omega, j + 1, by omega, weak_to [0] hp hnp rfl ⟨rfl, rfl, rfl, rfl, rfl, rfl, rfl, trivial⟩ (by simp (config := { maxSteps := 2000000 }) only [go_sem, ↓reduceIte, Int.reduceToNat, Nat.reduceMul, Int.reduceBEq, Int.reduceBNe, Nat.reduceBEq, Nat.reduceAdd, Nat.reduceSub, Nat.reduceLeDiff, Nat.reduceEqDiff, Nat.reduceLT, reduceCtorEq, Aw.renR, Aw.pos] <;> rfl)⟩
    · have hjC : j = C.length := by omega
      subst hjC
      rw [List.take_of_length_le (Nat.le_refl _)] at hnb ⊢
      have e2 : decide ((C.length : Int) < (C.length : Int)) = false := decide_eq_false (by omega)
      simp (config := { maxSteps := 2000000 }) only [go_sem, ↓reduceIte, Int.reduceToNat, Nat.reduceMul, Int.reduceBEq, Int.reduceBNe, Nat.reduceBEq, Nat.reduceAdd, Nat.reduceSub, Nat.reduceLeDiff, Nat.reduceEqDiff, Nat.reduceLT, reduceCtorEq, e2]
      have hC9 : C.length ≤ 9 := by omega
      have hdb : num (dgs C) < bs := Nat.lt_of_lt_of_le hnb (Nat.le_trans (Nat.pow_le_pow_right (by decide) hC9) (Nat.le_refl _))
      refine AWpL.app (r := 0) (els := out.map uc) (ys := [uc (num (dgs C))]) rfl rfl rfl rfl (by rw [hn]; rfl) (by rw [List.length_map]) (pin 0) (by simp (config := { maxSteps := 2000000 }) only [go_sem, ↓reduceIte, Int.reduceToNat, Nat.reduceMul, Int.reduceBEq, Int.reduceBNe, Nat.reduceBEq, Nat.reduceAdd, Nat.reduceSub, Nat.reduceLeDiff, Nat.reduceEqDiff, Nat.reduceLT, reduceCtorEq, Nat.le_refl]) (fun el hm y hy => by
        rw [List.mem_singleton.1 hm] at hy
        rw [List.mem_singleton.1 hy]; rfl) (by simp only [List.length_cons, List.length_nil]; omega) (by simp only [List.length_cons, List.length_nil]; omega) (AWpL.ofM hn rfl ?_)
      have hap : out.map uc ++ [uc (num (dgs C))] = (out ++ [num (dgs C)]).map uc := by rw [List.map_append]; rfl
      have hl2 : out.length + 1 = (out ++ [num (dgs C)]).length := by rw [List.length_append]; rfl
      simp (config := { maxSteps := 2000000 }) only [go_sem, ↓reduceIte, Int.reduceToNat, Nat.reduceMul, Int.reduceBEq, Int.reduceBNe, Nat.reduceBEq, Nat.reduceAdd, Nat.reduceSub, Nat.reduceLeDiff, Nat.reduceEqDiff, Nat.reduceLT, reduceCtorEq, hap, hl2, e1]
      refine ⟨((k : Int) - 9).toNat, by omega, (k : Int) - 9, out ++ [num (dgs C)], rfl, by omega, by omega, by rw [← hl2]; omega, hdo.app (Dig.one hdb), ?_, weak_to [0] hp hnp rfl (by simp (config := { maxSteps := 2000000 }) only [go_sem, ↓reduceIte, Int.reduceToNat, Nat.reduceMul, Int.reduceBEq, Int.reduceBNe, Nat.reduceBEq, Nat.reduceAdd, Nat.reduceSub, Nat.reduceLeDiff, Nat.reduceEqDiff, Nat.reduceLT, reduceCtorEq, Aw.pos]) (by simp (config := { maxSteps := 2000000 }) only [go_sem, ↓reduceIte, Int.reduceToNat, Nat.reduceMul, Int.reduceBEq, Int.reduceBNe, Nat.reduceBEq, Nat.reduceAdd, Nat.reduceSub, Nat.reduceLeDiff, Nat.reduceEqDiff, Nat.reduceLT, reduceCtorEq, Aw.renR, Aw.pos] <;> rfl)⟩
      rw [← hl2, val_append, Nat.pow_succ, show ((k : Int) - 9).toNat = b by omega]
      rw [dgs_app, num_append, dgs_len] at hval
      have hv1 : val [num (dgs C)] = num (dgs C) := by simp [val]
      rw [hv1]
      rcases Nat.lt_or_ge k 9 with h9 | h9
      · have hb0 : b = 0 := by omega
        subst hb0
        have hz : num (dgs (s.data.toList.take 0)) = 0 := by rw [List.take_zero]; rfl
        rw [hz, Nat.zero_mul, Nat.zero_add] at hval
        rw [hz, Nat.mul_zero, Nat.add_zero]
        exact hval
      · rw [show C.length = 9 by omega, show (10 : Nat) ^ 9 = bs from rfl] at hval
        exact read_step hval
  · have e0 : decide (e > 0) = false := decide_eq_false (by omega)
    have hk0 : k = 0 := by omega
    subst hk0
    simp (config := { maxSteps := 2000000 }) only [go_sem, ↓reduceIte, Int.reduceToNat, Nat.reduceMul, Int.reduceBEq, Int.reduceBNe, Nat.reduceBEq, Nat.reduceAdd, Nat.reduceSub, Nat.reduceLeDiff, Nat.reduceEqDiff, Nat.reduceLT, reduceCtorEq, e0]
    refine AWpL.weak (weak_freeze 0 rfl (pin 0) (by simp (config := { maxSteps := 2000000 }) only [go_sem, ↓reduceIte, Int.reduceToNat, Nat.reduceMul, Int.reduceBEq, Int.reduceBNe, Nat.reduceBEq, Nat.reduceAdd, Nat.reduceSub, Nat.reduceLeDiff, Nat.reduceEqDiff, Nat.reduceLT, reduceCtorEq, Nat.le_refl, List.length_map])) ?_
    have ef : ((out.map uc).take out.length) = out.map uc := List.take_of_length_le (by rw [List.length_map]; exact Nat.le_refl _)
    simp (config := { maxSteps := 2000000 }) only [go_sem, ↓reduceIte, Int.reduceToNat, Nat.reduceMul, Int.reduceBEq, Int.reduceBNe, Nat.reduceBEq, Nat.reduceAdd, Nat.reduceSub, Nat.reduceLeDiff, Nat.reduceEqDiff, Nat.reduceLT, reduceCtorEq, ef]
    (refine AWpL.callA [] (s81 out (by omega)) rfl rfl (by rw [hn]; rfl) rfl (fun r hr => .inr (pin r)) fun rg v hv => ?_; obtain ⟨rfl, rfl⟩ := hv; refine ⟨Nat.le_refl _, AWpL.ofM hn rfl ?_⟩)
    simp (config := { maxSteps := 2000000 }) only [go_sem, ↓reduceIte, Int.reduceToNat, Nat.reduceMul, Int.reduceBEq, Int.reduceBNe, Nat.reduceBEq, Nat.reduceAdd, Nat.reduceSub, Nat.reduceLeDiff, Nat.reduceEqDiff, Nat.reduceLT, reduceCtorEq, Aw.retS, Aw.retRg, Aw.kpM, Aw.bkM, Aw.pos, Aw.isBox]
    refine Retn.ret (π := []) hp hnp ⟨rfl, ?_⟩
    simp (config := { maxSteps := 2000000 }) only [go_sem, ↓reduceIte, Int.reduceToNat, Nat.reduceMul, Int.reduceBEq, Int.reduceBNe, Nat.reduceBEq, Nat.reduceAdd, Nat.reduceSub, Nat.reduceLeDiff, Nat.reduceEqDiff, Nat.reduceLT, reduceCtorEq]
    rw [List.take_zero] at hval
    have : num (dgs []) = 0 := rfl
    rw [this, Nat.mul_zero, Nat.add_zero] at hval
    rw [trim_digs hdo, hval]
end Go.Proofs.YtjaakbkneeojnaaDoor
