/- Interlocks: Explain, Permitted, Set. -/
import Derived.Test.YtocghkacngoblaaDoorAwZl
import Derived.Test.YtocghkacngoblaaDoorOrdC
set_option linter.unusedVariables false
set_option linter.unusedSimpArgs false
namespace Go.Proofs.YtocghkacngoblaaDoor
open Go.Proofs.YtocghkacngoblaaDoor.Aw
attribute [local go_sem] Int.natCast_zero Int.natCast_one bne_self_eq_false beq_self_eq_true Bool.not_true Bool.not_false Option.isSome_none Option.isSome_some Aw.bkM_nil Option.getD_some Option.getD_none Nat.sub_zero Int.toNat_zero Aw.frzS Aw.frzT Aw.frzA Aw.frzL Aw.frzR Aw.frzO Aw.frzOL Aw.frzOT Aw.frzOR Aw.killS Aw.mapT Aw.mapR Aw.killM Aw.resAVs Aw.resAV Aw.quietOps Aw.wpP Aw.wpT Aw.wpS Aw.AOp.mild List.getElem?_cons_zero List.getElem?_cons_succ Bool.and_false Bool.and_self Bool.false_and Aw.opOb Aw.gdB Aw.Rnd Aw.subTm List.length_map Int.toNat_natCast and_self Aw.SeqC Aw.stops Aw.Ends Aw.looks Aw.renA Aw.renL Aw.renT Aw.renS Aw.wpO Aw.aop Aw.putTm Aw.St.ev Aw.St.put Aw.St.putO Aw.binAV Aw.intBin Aw.strBin Aw.pickAV Aw.optInt Aw.AV.strip Aw.AV.guard Aw.AV.cells Aw.gdOb Aw.AOp.opds Aw.AOp.still Aw.ptrCells Aw.St.reg Aw.fillAV Aw.fillOb Aw.elsOb Aw.splice Aw.firm Aw.cellish Aw.AV.shut Aw.shutAll Aw.Seq Aw.Blk Aw.retS_nil Aw.mapA Aw.mapL Aw.borA Aw.borOb Aw.allOb Aw.tupOf Aw.params Aw.Opd.of Array.toList Value.cells List.map_cons List.map_nil List.getD_cons_zero List.getD_cons_succ List.getD_nil List.length_cons List.length_nil List.take_succ_cons List.take_zero List.take_nil List.drop_zero List.drop_succ_cons List.drop_nil List.set_cons_zero List.set_cons_succ List.append_nil List.nil_append List.cons_append List.all_cons List.all_nil cond_false cond_true if_true if_false true_and and_true Bool.and_true Bool.true_and Option.map_some Option.map_none false_implies forall_const implies_true forall_eq imp_self Bool.cond_false_right Bool.cond_true_left beq_true beq_false Bool.not_eq_true' Bool.false_eq_true Nat.zero_add Nat.add_zero Aw.eqCells Aw.stopDraw Aw.skipS Aw.exactCap Aw.revealS Aw.srcEls Aw.srcSz
attribute [local go_sem ↓] Aw.look_nil Aw.look_ite Aw.wpL_nil Aw.wpL_op Aw.wpL_gd Aw.wpQ_nil Aw.wpQ_op Aw.wpQ_gd Aw.wpC_draw Aw.wpC_reg Aw.wpC_skip Aw.wpC_ret Aw.wpC_exit Aw.wpC_seq Aw.wpC_block Aw.wpC_loop Aw.wpC_cond Aw.stopAt_nil Aw.stopAt_cons Aw.wpD_skip Aw.wpD_ret Aw.wpD_exit Aw.wpD_region Aw.wpD_draw Aw.wpM_nil Aw.wpM_op Aw.wpM_gd Aw.wpD_seq Aw.wpD_block Aw.wpD_loop Aw.wpD_cond
/- gridhall/interlock.Explain -/
def a12 : ACode :=
  (.seq (.region false [] [
     ⟨(some 8), none, (.mov (.v (.slice none 0 0)))⟩,
     ⟨(some 9), none, (.mov (.v (.int .i64 0)))⟩])
  (.seq (.seq (.region false [] [
     ⟨(some 15), none, (.mov (.t 0))⟩,
     ⟨(some 16), none, (.call 18 [(.t 15)])⟩,
     ⟨(some 10), none, (.mov (.t 16))⟩])
  (.seq (.region false [] [
     ⟨(some 17), none, (.mov (.t 10))⟩,
     ⟨(some 18), none, (.bin .neq 27 (.t 17) (.v (.int .i64 0)))⟩])
  (.cond (.t 18)
    (.seq (.region false [] [
       ⟨(some 19), none, (.mov (.t 10))⟩,
       ⟨(some 8), none, (.mov (.v (.slice none 0 0)))⟩,
       ⟨(some 9), none, (.mov (.t 19))⟩])
    .ret)
    .skip)))
  (.seq (.seq (.region false [] [
     ⟨(some 20), none, (.mov (.t 1))⟩,
     ⟨(some 21), none, (.call 20 [(.t 20)])⟩,
     ⟨(some 11), none, (.mov (.t 21))⟩])
  (.seq (.region false [] [
     ⟨(some 22), none, (.mov (.t 11))⟩,
     ⟨(some 23), none, (.bin .neq 27 (.t 22) (.v (.int .i64 0)))⟩])
  (.cond (.t 23)
    (.seq (.region false [] [
       ⟨(some 24), none, (.mov (.t 11))⟩,
       ⟨(some 8), none, (.mov (.v (.slice none 0 0)))⟩,
       ⟨(some 9), none, (.mov (.t 24))⟩])
    .ret)
    .skip)))
  (.seq (.seq (.region false [] [
     ⟨(some 25), none, (.mov (.t 1))⟩,
     ⟨(some 26), none, (.mov (.t 3))⟩,
     ⟨(some 27), none, (.call 21 [(.t 25), (.t 26)])⟩,
     ⟨(some 28), none, (.bin .lss 3 (.t 27) (.v (.int .i64 0)))⟩])
  (.cond (.t 28)
    (.seq (.region false [] [
       ⟨(some 8), none, (.mov (.v (.slice none 0 0)))⟩,
       ⟨(some 9), none, (.mov (.v (.int .i64 8)))⟩])
    .ret)
    .skip))
  (.seq (.region false [] [
     ⟨(some 12), none, (.mov (.v (.slice none 0 0)))⟩])
  (.seq (.seq (.region false [] [
     ⟨(some 29), none, (.mov (.t 0))⟩,
     ⟨(some 30), none, (.len (.t 29))⟩,
     ⟨(some 31), none, (.mov (.v (.int .i64 0)))⟩])
  (.block 0 (.loop (.seq (.region false [] [
       ⟨(some 32), none, (.bin .lss 3 (.t 31) (.t 30))⟩])
    (.seq (.cond (.t 32)
      .skip
      (.exit 0))
    (.seq (.block 1 (.seq (.region false [] [
        ⟨(some 33), none, (.mov (.t 31))⟩,
        ⟨(some 34), none, (.idx 3 (.t 29) (.t 31))⟩,
        ⟨(some 35), none, (.load 3 true (.t 34))⟩,
        ⟨(some 14), none, (.alloc 24 (.agg #[(.bool false), (.string ⟨#[]⟩), (.slice none 0 0)]))⟩,
        ⟨(some 13), none, (.mov (.t 33))⟩,
        ⟨none, none, (.store 3 (.t 14) (.t 35))⟩])
     (.seq (.region false [] [
        ⟨(some 36), none, (.fld 0 (.t 14))⟩,
        ⟨(some 37), none, (.load 1 false (.t 36))⟩,
        ⟨(some 38), none, (.mov (.t 2))⟩,
        ⟨(some 39), none, (.beq false (.t 37) (.t 38))⟩,
        ⟨(some 40), none, (.mov (.t 39))⟩,
        ⟨(some 41), (some (40, true)), (.fld 1 (.t 14))⟩,
        ⟨(some 42), (some (40, true)), (.load 1 false (.t 41))⟩,
        ⟨(some 43), (some (40, true)), (.mov (.t 3))⟩,
        ⟨(some 44), (some (40, true)), (.bin .eql 9 (.t 42) (.t 43))⟩,
        ⟨(some 45), none, (.pick (.t 40) (.t 44) (.v (.bool false)))⟩,
        ⟨(some 46), none, (.mov (.t 45))⟩,
        ⟨(some 47), (some (46, true)), (.fld 2 (.t 14))⟩,
        ⟨(some 48), (some (46, true)), (.load 1 false (.t 47))⟩,
        ⟨(some 49), (some (46, true)), (.mov (.t 1))⟩,
        ⟨(some 50), (some (46, true)), (.call 23 [(.t 48), (.t 49)])⟩,
        ⟨(some 51), (some (46, true)), (.un .not (.t 50))⟩,
        ⟨(some 52), none, (.pick (.t 46) (.t 51) (.v (.bool false)))⟩])
     (.cond (.t 52)
       (.region false [] [
          ⟨(some 53), none, (.mov (.t 12))⟩,
          ⟨(some 54), none, (.mov (.t 13))⟩,
          ⟨(some 55), none, (.bsl 3 1 1 [(0, (.t 54))])⟩,
          ⟨(some 56), none, (.app 3 1 8 (.int .i64 0) (.t 53) (.t 55))⟩,
          ⟨(some 12), none, (.mov (.t 56))⟩])
       .skip))))
    (.region false [] [
       ⟨(some 57), none, (.bin .add 3 (.t 31) (.v (.int .i64 1)))⟩,
       ⟨(some 31), none, (.mov (.t 57))⟩])))))))
  (.seq (.region false [] [
     ⟨(some 58), none, (.mov (.t 12))⟩,
     ⟨(some 8), none, (.mov (.t 58))⟩,
     ⟨(some 9), none, (.mov (.v (.int .i64 0)))⟩])
  .ret)))))))
theorem k12 : FnIs Tryd.prog 12 59 [.t 8, .t 9] a12 := ⟨_, _, Tryd.func12, rfl, by kernel_rfl, by kernel_rfl, rfl⟩
/- gridhall/interlock.Permitted -/
def a8 : ACode :=
  (.seq (.region false [] [
     ⟨(some 8), none, (.mov (.v (.bool false)))⟩,
     ⟨(some 9), none, (.mov (.v (.int .i64 0)))⟩])
  (.seq (.region false [] [
     ⟨(some 13), none, (.mov (.t 0))⟩,
     ⟨(some 14), none, (.mov (.t 1))⟩,
     ⟨(some 15), none, (.mov (.t 2))⟩,
     ⟨(some 16), none, (.mov (.t 3))⟩,
     ⟨(some 17), none, (.call 12 [(.t 13), (.t 14), (.t 15), (.t 16)])⟩,
     ⟨(some 12), none, (.mov (.t 17))⟩,
     ⟨(some 18), none, (.ext 0 (.t 12))⟩,
     ⟨(some 19), none, (.ext 1 (.t 12))⟩,
     ⟨(some 10), none, (.mov (.t 18))⟩,
     ⟨(some 11), none, (.mov (.t 19))⟩])
  (.seq (.region false [] [
     ⟨(some 20), none, (.mov (.t 11))⟩,
     ⟨(some 21), none, (.bin .eql 27 (.t 20) (.v (.int .i64 0)))⟩,
     ⟨(some 22), none, (.mov (.t 21))⟩,
     ⟨(some 23), (some (22, true)), (.mov (.t 10))⟩,
     ⟨(some 24), (some (22, true)), (.len (.t 23))⟩,
     ⟨(some 25), (some (22, true)), (.bin .eql 3 (.t 24) (.v (.int .i64 0)))⟩,
     ⟨(some 26), none, (.pick (.t 22) (.t 25) (.v (.bool false)))⟩,
     ⟨(some 27), none, (.mov (.t 11))⟩,
     ⟨(some 8), none, (.mov (.t 26))⟩,
     ⟨(some 9), none, (.mov (.t 27))⟩])
  .ret)))
theorem k8 : FnIs Tryd.prog 8 28 [.t 8, .t 9] a8 := ⟨_, _, Tryd.func8, rfl, by kernel_rfl, by kernel_rfl, rfl⟩
/- gridhall/interlock.Set -/
def a10 : ACode :=
  (.seq (.region false [] [
     ⟨(some 6), none, (.mov (.v (.slice none 0 0)))⟩,
     ⟨(some 7), none, (.mov (.v (.int .i64 0)))⟩])
  (.seq (.seq (.region false [] [
     ⟨(some 11), none, (.mov (.t 0))⟩,
     ⟨(some 12), none, (.call 20 [(.t 11)])⟩,
     ⟨(some 8), none, (.mov (.t 12))⟩])
  (.seq (.region false [] [
     ⟨(some 13), none, (.mov (.t 8))⟩,
     ⟨(some 14), none, (.bin .neq 27 (.t 13) (.v (.int .i64 0)))⟩])
  (.cond (.t 14)
    (.seq (.region false [] [
       ⟨(some 15), none, (.mov (.t 8))⟩,
       ⟨(some 6), none, (.mov (.v (.slice none 0 0)))⟩,
       ⟨(some 7), none, (.mov (.t 15))⟩])
    .ret)
    .skip)))
  (.seq (.region false [] [
     ⟨(some 16), none, (.mov (.t 0))⟩,
     ⟨(some 17), none, (.mov (.t 2))⟩,
     ⟨(some 18), none, (.call 21 [(.t 16), (.t 17)])⟩,
     ⟨(some 9), none, (.mov (.t 18))⟩])
  (.seq (.block 0 (.seq (.region false [] [
      ⟨(some 20), none, (.mov (.t 9))⟩,
      ⟨(some 21), none, (.bin .lss 3 (.t 20) (.v (.int .i64 0)))⟩,
      ⟨(some 19), none, (.mov (.t 21))⟩])
   (.cond (.t 19)
     (.seq (.region false [] [
        ⟨(some 6), none, (.mov (.v (.slice none 0 0)))⟩,
        ⟨(some 7), none, (.mov (.v (.int .i64 8)))⟩])
     .ret)
     (.seq (.region false [] [
        ⟨(some 23), none, (.mov (.t 0))⟩,
        ⟨(some 24), none, (.mov (.t 9))⟩,
        ⟨(some 25), none, (.idx 2 (.t 23) (.t 24))⟩,
        ⟨(some 26), none, (.fld 1 (.t 25))⟩,
        ⟨(some 27), none, (.load 1 false (.t 26))⟩,
        ⟨(some 28), none, (.mov (.t 1))⟩,
        ⟨(some 29), none, (.beq false (.t 27) (.t 28))⟩,
        ⟨(some 22), none, (.mov (.t 29))⟩])
     (.cond (.t 22)
       (.seq (.region false [] [
          ⟨(some 6), none, (.mov (.v (.slice none 0 0)))⟩,
          ⟨(some 7), none, (.mov (.v (.int .i64 11)))⟩])
       .ret)
       .skip)))))
  (.seq (.region false [] [
     ⟨(some 30), none, (.mov (.t 0))⟩,
     ⟨(some 31), none, (.call 22 [(.t 30)])⟩,
     ⟨(some 10), none, (.mov (.t 31))⟩])
  (.seq (.region false [] [
     ⟨(some 32), none, (.mov (.t 10))⟩,
     ⟨(some 33), none, (.mov (.t 9))⟩,
     ⟨(some 34), none, (.mov (.t 1))⟩,
     ⟨(some 35), none, (.idx 2 (.t 32) (.t 33))⟩,
     ⟨(some 36), none, (.fld 1 (.t 35))⟩,
     ⟨none, none, (.store 1 (.t 36) (.t 34))⟩])
  (.seq (.region false [] [
     ⟨(some 37), none, (.mov (.t 10))⟩,
     ⟨(some 6), none, (.mov (.t 37))⟩,
     ⟨(some 7), none, (.mov (.v (.int .i64 0)))⟩])
  .ret)))))))
theorem k10 : FnIs Tryd.prog 10 38 [.t 6, .t 7] a10 := ⟨_, _, Tryd.func10, rfl, by kernel_rfl, by kernel_rfl, rfl⟩

/-- The rule is of this operation, and its condition does not hold. -/
def forb (sts : List Sta) (cl : Bool) (n : ByteArray) (r : Rul) : Bool := (r.close == cl && seq r.sw n) && !holdF sts r.cond
def explGo (sts : List Sta) (cl : Bool) (n : ByteArray) : Nat → List Rul → List Int
  | _, [] => []
  | k, r :: l => (if forb sts cl n r = true then [(k : Int)] else []) ++ explGo sts cl n (k + 1) l
def explE (l : List Rul) (sts : List Sta) (n : ByteArray) : Int :=
  if checkF l ≠ 0 then checkF l else if statesF sts ≠ 0 then statesF sts else if findF sts n < 0 then 8 else 0
def explL (l : List Rul) (sts : List Sta) (cl : Bool) (n : ByteArray) : List Int := if explE l sts n = 0 then explGo sts cl n 0 l else []
theorem explGo_append (sts : List Sta) (cl : Bool) (n : ByteArray) : ∀ (l m : List Rul) (k : Nat), explGo sts cl n k (l ++ m) = explGo sts cl n k l ++ explGo sts cl n (k + l.length) m
  | [], m, k => by simp [explGo]
  | r :: l, m, k => by
    have hk : k + 1 + l.length = k + (r :: l).length := by rw [List.length_cons]; omega
    show (if forb sts cl n r = true then [(k : Int)] else []) ++ explGo sts cl n (k + 1) (l ++ m) = ((if forb sts cl n r = true then [(k : Int)] else []) ++ explGo sts cl n (k + 1) l) ++ explGo sts cl n (k + (r :: l).length) m
    rw [explGo_append sts cl n l m (k + 1), List.append_assoc, hk]
theorem explGo_succ (sts : List Sta) (cl : Bool) (n : ByteArray) {l : List Rul} {i : Nat} (h : i < l.length) : explGo sts cl n 0 (l.take (i + 1)) = explGo sts cl n 0 (l.take i) ++ (if forb sts cl n l[i] = true then [(i : Int)] else []) := by
  rw [take_get h, explGo_append, List.length_take, Nat.min_eq_left (by omega), Nat.zero_add]
  unfold explGo
  rw [show explGo sts cl n (i + 1) [] = [] from rfl, List.append_nil]
theorem explGo_le (sts : List Sta) (cl : Bool) (n : ByteArray) : ∀ (l : List Rul) (k : Nat), (explGo sts cl n k l).length ≤ l.length
  | [], _ => Nat.le_refl _
  | r :: l, k => by
    have := explGo_le sts cl n l (k + 1)
    unfold explGo
    have h1 : (if forb sts cl n r = true then [(k : Int)] else []).length ≤ 1 := by split <;> simp
    rw [List.length_append, List.length_cons]; omega
theorem checkGo_mem : ∀ {l : List Rul}, checkGo l = 0 → ∀ r ∈ l, nm 8 r.sw = true ∧ condF r.cond = 0
  | [], _, _, h => by cases h
  | x :: l, h, r, hr => by
    unfold checkGo at h
    split at h
    · rename_i h2; exact absurd h h2
    rename_i h2
    rcases List.mem_cons.1 hr with rfl | hr
    · have h3 : ruleE r = 0 := by simpa using h2
      unfold ruleE at h3
      split at h3
      · cases h3
      · rename_i h4; exact ⟨by simpa using h4, h3⟩
    · exact checkGo_mem h r hr
theorem checkF_ok {l : List Rul} (h : checkF l = 0) : l.length ≤ 24 ∧ ∀ r ∈ l, nm 8 r.sw = true ∧ condF r.cond = 0 := by
  unfold checkF at h
  split at h
  · cases h
  · exact ⟨by omega, checkGo_mem h⟩
theorem statesF_len {l : List Sta} (h : statesF l = 0) : l.length ≤ 32 := by
  unfold statesF at h
  split at h
  · cases h
  · omega
set_option maxRecDepth 20000 in
set_option maxHeartbeats 1000000 in
theorem s12 (nl fl) (l : List Rul) (nm' fm) (sts : List Sta) (cl : Bool) (n : ByteArray) (hs : ∀ r ∈ l, RulOk r) (ht : ∀ x ∈ sts, x.name.size ≤ 9223372036854775807) :
    Aw.Spec Tryd.prog 12 [] [rs nl fl l, sts' nm' fm sts, B cl, S n] (fun rg v => rg = [] ∧ v = .tup [.imm none false 1 ((explL l sts cl n).map ic), I (explE l sts n)]) := by
  refine Aw.Spec.regsD k12 mixed rfl rfl rfl fun E hn hnp hp => ?_
  unfold a12
  have pin : ∀ r, E.pin r = none := fun r => hp.none hnp (Nat.zero_le _)
  have hE : explE l sts n = if checkF l ≠ 0 then checkF l else if statesF sts ≠ 0 then statesF sts else if findF sts n < 0 then 8 else 0 := rfl
  have hL : explL l sts cl n = if explE l sts n = 0 then explGo sts cl n 0 l else [] := rfl
  simp (config := { maxSteps := 2000000 }) only [go_sem, ↓reduceIte, Int.reduceToNat, Nat.reduceMul, Int.reduceBEq, Int.reduceBNe, Nat.reduceBEq, Nat.reduceAdd, Nat.reduceSub, Nat.reduceLeDiff, Nat.reduceEqDiff, Nat.reduceLT, reduceCtorEq]
  (refine AWpL.calle (s18 nl fl l hs) rfl (by rw [hn]; rfl) (by simp (config := { maxSteps := 2000000 }) only [go_sem, ↓reduceIte, Int.reduceToNat, Nat.reduceMul, Int.reduceBEq, Int.reduceBNe, Nat.reduceBEq, Nat.reduceAdd, Nat.reduceSub, Nat.reduceLeDiff, Nat.reduceEqDiff, Nat.reduceLT, reduceCtorEq]) (AWpL.ofM hn rfl ?_); simp (config := { maxSteps := 2000000 }) only [go_sem, ↓reduceIte, Int.reduceToNat, Nat.reduceMul, Int.reduceBEq, Int.reduceBNe, Nat.reduceBEq, Nat.reduceAdd, Nat.reduceSub, Nat.reduceLeDiff, Nat.reduceEqDiff, Nat.reduceLT, reduceCtorEq])
  simp only [bne_iff_ne, ne_eq, bne_eq_false_iff_eq]
  refine ⟨fun h => ?_, fun h => ?_⟩
  · rw [if_pos h] at hE
    rw [if_neg (by rw [hE]; exact h)] at hL
    rw [hL, hE]
    refine Retn.weak (weak_ent 8 (by rfl) (Ent.ofnil0 1)) _ (Retn.ret (π := []) hp hnp ⟨rfl, ?_⟩)
    simp (config := { maxSteps := 2000000 }) only [go_sem, ↓reduceIte, Int.reduceToNat, Nat.reduceMul, Int.reduceBEq, Int.reduceBNe, Nat.reduceBEq, Nat.reduceAdd, Nat.reduceSub, Nat.reduceLeDiff, Nat.reduceEqDiff, Nat.reduceLT, reduceCtorEq]
  rw [if_neg (by simp [h])] at hE
  (refine AWpL.calle (s20 nm' fm sts ht) rfl (by rw [hn]; rfl) (by simp (config := { maxSteps := 2000000 }) only [go_sem, ↓reduceIte, Int.reduceToNat, Nat.reduceMul, Int.reduceBEq, Int.reduceBNe, Nat.reduceBEq, Nat.reduceAdd, Nat.reduceSub, Nat.reduceLeDiff, Nat.reduceEqDiff, Nat.reduceLT, reduceCtorEq]) (AWpL.ofM hn rfl ?_); simp (config := { maxSteps := 2000000 }) only [go_sem, ↓reduceIte, Int.reduceToNat, Nat.reduceMul, Int.reduceBEq, Int.reduceBNe, Nat.reduceBEq, Nat.reduceAdd, Nat.reduceSub, Nat.reduceLeDiff, Nat.reduceEqDiff, Nat.reduceLT, reduceCtorEq])
  simp only [bne_iff_ne, ne_eq, bne_eq_false_iff_eq]
  refine ⟨fun h2 => ?_, fun h2 => ?_⟩
  · rw [if_pos h2] at hE
    rw [if_neg (by rw [hE]; exact h2)] at hL
    rw [hL, hE]
    refine Retn.weak (weak_ent 8 (by rfl) (Ent.ofnil0 1)) _ (Retn.ret (π := []) hp hnp ⟨rfl, ?_⟩)
    simp (config := { maxSteps := 2000000 }) only [go_sem, ↓reduceIte, Int.reduceToNat, Nat.reduceMul, Int.reduceBEq, Int.reduceBNe, Nat.reduceBEq, Nat.reduceAdd, Nat.reduceSub, Nat.reduceLeDiff, Nat.reduceEqDiff, Nat.reduceLT, reduceCtorEq]
  rw [if_neg (by simp [h2])] at hE
  have h32 := statesF_len h2
  (refine AWpL.calle (s21 nm' fm sts n (by omega)) rfl (by rw [hn]; rfl) (by simp (config := { maxSteps := 2000000 }) only [go_sem, ↓reduceIte, Int.reduceToNat, Nat.reduceMul, Int.reduceBEq, Int.reduceBNe, Nat.reduceBEq, Nat.reduceAdd, Nat.reduceSub, Nat.reduceLeDiff, Nat.reduceEqDiff, Nat.reduceLT, reduceCtorEq]) (AWpL.ofM hn rfl ?_); simp (config := { maxSteps := 2000000 }) only [go_sem, ↓reduceIte, Int.reduceToNat, Nat.reduceMul, Int.reduceBEq, Int.reduceBNe, Nat.reduceBEq, Nat.reduceAdd, Nat.reduceSub, Nat.reduceLeDiff, Nat.reduceEqDiff, Nat.reduceLT, reduceCtorEq])
  simp only [decide_eq_true_eq, decide_eq_false_iff_not]
  refine ⟨fun h3 => ?_, fun h3 => ?_⟩
  · rw [if_pos h3] at hE
    rw [if_neg (by rw [hE]; decide)] at hL
    rw [hL, hE]
    refine Retn.weak (weak_ent 8 (by rfl) (Ent.ofnil0 1)) _ (Retn.ret (π := []) hp hnp ⟨rfl, ?_⟩)
    simp (config := { maxSteps := 2000000 }) only [go_sem, ↓reduceIte, Int.reduceToNat, Nat.reduceMul, Int.reduceBEq, Int.reduceBNe, Nat.reduceBEq, Nat.reduceAdd, Nat.reduceSub, Nat.reduceLeDiff, Nat.reduceEqDiff, Nat.reduceLT, reduceCtorEq]
  rw [if_neg h3] at hE
  rw [if_pos hE] at hL
  rw [hL, hE]
  have hpos : 0 < sts.length := by have := findF_range sts n; omega
  obtain ⟨h24, hcd⟩ := checkF_ok h
  refine AWp.weak (weak_nil 12 3 1 rfl) ?_
  simp (config := { maxSteps := 2000000 }) only [go_sem, ↓reduceIte, Int.reduceToNat, Nat.reduceMul, Int.reduceBEq, Int.reduceBNe, Nat.reduceBEq, Nat.reduceAdd, Nat.reduceSub, Nat.reduceLeDiff, Nat.reduceEqDiff, Nat.reduceLT, reduceCtorEq]
  refine AWp.loop (fun k s => ∃ i : Nat, i + k = l.length ∧ Weak E s ⟨[(1, sts' nm' fm sts), (2, B cl), (3, S n), (12, .hnd 0 0 (explGo sts cl n 0 (l.take i)).length (explGo sts cl n 0 (l.take i)).length false), (29, rs nl fl l), (30, I l.length), (31, I i)], [.arr 3 1 ((explGo sts cl n 0 (l.take i)).map ic)]⟩) (n := l.length)
    ⟨0, by omega, weak_to [0] hp hnp rfl (by simp (config := { maxSteps := 2000000 }) only [go_sem, ↓reduceIte, Int.reduceToNat, Nat.reduceMul, Int.reduceBEq, Int.reduceBNe, Nat.reduceBEq, Nat.reduceAdd, Nat.reduceSub, Nat.reduceLeDiff, Nat.reduceEqDiff, Nat.reduceLT, reduceCtorEq, Aw.pos, Int.natCast_zero, explGo]) (by simp (config := { maxSteps := 2000000 }) only [go_sem, ↓reduceIte, Int.reduceToNat, Nat.reduceMul, Int.reduceBEq, Int.reduceBNe, Nat.reduceBEq, Nat.reduceAdd, Nat.reduceSub, Nat.reduceLeDiff, Nat.reduceEqDiff, Nat.reduceLT, reduceCtorEq, Aw.renR, Aw.pos]; rfl)⟩ ?_
  rintro k s ⟨i, hik, hw⟩
  refine AWp.weak hw (AWp.ofD [] [] hn mixed rfl ?_)
  rcases Nat.lt_or_ge i l.length with hlt | hge
  · have e0 : decide ((i : Int) < (l.length : Int)) = true := decide_eq_true (by omega)
    have e1 := getD_map rlc hlt
    have e2 : IntKind.i64.wrap ((i : Int) + 1) = ((i + 1 : Nat) : Int) := by rw [w64 (by omega) (by omega)]; omega
    have hsu := explGo_succ sts cl n hlt
    have hle := explGo_le sts cl n (l.take i) 0
    rw [List.length_take] at hle
    have hx := hcd _ (List.getElem_mem hlt)
    generalize l[i] = x at *
    have hF : forb sts cl n x = ((x.close == cl && seq x.sw n) && !holdF sts x.cond) := rfl
    generalize explGo sts cl n 0 (l.take i) = out at *
    simp (config := { maxSteps := 2000000 }) only [go_sem, ↓reduceIte, Int.reduceToNat, Nat.reduceMul, Int.reduceBEq, Int.reduceBNe, Nat.reduceBEq, Nat.reduceAdd, Nat.reduceSub, Nat.reduceLeDiff, Nat.reduceEqDiff, Nat.reduceLT, reduceCtorEq, e0, e1]
    (repeat (refine And.intro (by first | omega | (refine ⟨by omega, by omega⟩) | (refine ⟨by omega, by omega, by omega⟩) | (simp only [List.length_map, List.length_range, List.length_append, List.length_cons, List.length_nil, List.length_replicate, List.length_set]; omega) | (simp; omega) | (intro hgd; cases hgd) | (intro hgd; refine ⟨hgd, ?_⟩; first | omega | (refine ⟨by omega, by omega⟩) | (simp; omega))) ?_))
    refine AWpL.gcalle (b := x.close == cl && x.sw.toList == n.toList) (by simp (config := { maxSteps := 2000000 }) only [go_sem, ↓reduceIte, Int.reduceToNat, Nat.reduceMul, Int.reduceBEq, Int.reduceBNe, Nat.reduceBEq, Nat.reduceAdd, Nat.reduceSub, Nat.reduceLeDiff, Nat.reduceEqDiff, Nat.reduceLT, reduceCtorEq]) (fun _ => s23 x.nl x.fl x.cond nm' fm sts hx.2 (by omega) hpos) rfl (by rw [hn]; rfl) (fun hb => by simp (config := { maxSteps := 2000000 }) only [go_sem, ↓reduceIte, Int.reduceToNat, Nat.reduceMul, Int.reduceBEq, Int.reduceBNe, Nat.reduceBEq, Nat.reduceAdd, Nat.reduceSub, Nat.reduceLeDiff, Nat.reduceEqDiff, Nat.reduceLT, reduceCtorEq]; exact hb) (AWpL.ofM hn rfl ?_)
    have hq : (x.sw.toList == n.toList) = seq x.sw n := rfl
    simp (config := { maxSteps := 2000000 }) only [go_sem, ↓reduceIte, Int.reduceToNat, Nat.reduceMul, Int.reduceBEq, Int.reduceBNe, Nat.reduceBEq, Nat.reduceAdd, Nat.reduceSub, Nat.reduceLeDiff, Nat.reduceEqDiff, Nat.reduceLT, reduceCtorEq, hq]
    refine ⟨fun h => ?_, fun h => ?_⟩
    · rw [hF, if_pos h] at hsu
      refine AWpL.app (r := 0) (els := out.map ic) (ys := [[I i]]) rfl rfl rfl rfl (by rw [hn]; rfl) (by simp) (pin 0) (Nat.le_refl 1) (fun el hm y hy => ?_) (by simp only [List.length_cons, List.length_nil]; omega) (by simp only [List.length_cons, List.length_nil]; omega) (AWpL.ofM hn rfl ?_)
      · rw [List.mem_singleton.1 hm] at hy
        rw [List.mem_singleton.1 hy]; rfl
      simp (config := { maxSteps := 2000000 }) only [go_sem, ↓reduceIte, Int.reduceToNat, Nat.reduceMul, Int.reduceBEq, Int.reduceBNe, Nat.reduceBEq, Nat.reduceAdd, Nat.reduceSub, Nat.reduceLeDiff, Nat.reduceEqDiff, Nat.reduceLT, reduceCtorEq, e2]
      exact ⟨k - 1, by omega, i + 1, by omega, weak_to [0] hp hnp rfl (by simp (config := { maxSteps := 2000000 }) only [go_sem, ↓reduceIte, Int.reduceToNat, Nat.reduceMul, Int.reduceBEq, Int.reduceBNe, Nat.reduceBEq, Nat.reduceAdd, Nat.reduceSub, Nat.reduceLeDiff, Nat.reduceEqDiff, Nat.reduceLT, reduceCtorEq, Aw.pos, hsu, List.length_append]) (by simp (config := { maxSteps := 2000000 }) only [go_sem, ↓reduceIte, Int.reduceToNat, Nat.reduceMul, Int.reduceBEq, Int.reduceBNe, Nat.reduceBEq, Nat.reduceAdd, Nat.reduceSub, Nat.reduceLeDiff, Nat.reduceEqDiff, Nat.reduceLT, reduceCtorEq, Aw.renR, Aw.pos, hsu, List.map_append])⟩
    · rw [hF, if_neg (by simp [h]), List.append_nil] at hsu
      simp (config := { maxSteps := 2000000 }) only [go_sem, ↓reduceIte, Int.reduceToNat, Nat.reduceMul, Int.reduceBEq, Int.reduceBNe, Nat.reduceBEq, Nat.reduceAdd, Nat.reduceSub, Nat.reduceLeDiff, Nat.reduceEqDiff, Nat.reduceLT, reduceCtorEq, e2]
      exact ⟨k - 1, by omega, i + 1, by omega, weak_to [0] hp hnp rfl (by simp (config := { maxSteps := 2000000 }) only [go_sem, ↓reduceIte, Int.reduceToNat, Nat.reduceMul, Int.reduceBEq, Int.reduceBNe, Nat.reduceBEq, Nat.reduceAdd, Nat.reduceSub, Nat.reduceLeDiff, Nat.reduceEqDiff, Nat.reduceLT, reduceCtorEq, Aw.pos, hsu]) (by simp (config := { maxSteps := 2000000 }) only [go_sem, ↓reduceIte, Int.reduceToNat, Nat.reduceMul, Int.reduceBEq, Int.reduceBNe, Nat.reduceBEq, Nat.reduceAdd, Nat.reduceSub, Nat.reduceLeDiff, Nat.reduceEqDiff, Nat.reduceLT, reduceCtorEq, Aw.renR, Aw.pos, hsu])⟩
  · have e0 : decide ((i : Int) < (l.length : Int)) = false := decide_eq_false (by omega)
    have ht : l.take i = l := List.take_of_length_le hge
    rw [ht]
    have h4 : ((explGo sts cl n 0 l).map ic).take (explGo sts cl n 0 l).length = (explGo sts cl n 0 l).map ic := List.take_of_length_le (by simp)
    simp (config := { maxSteps := 2000000 }) only [go_sem, ↓reduceIte, Int.reduceToNat, Nat.reduceMul, Int.reduceBEq, Int.reduceBNe, Nat.reduceBEq, Nat.reduceAdd, Nat.reduceSub, Nat.reduceLeDiff, Nat.reduceEqDiff, Nat.reduceLT, reduceCtorEq, e0]
    refine Retn.weak (weak_freeze 0 rfl (pin 0) (by simp (config := { maxSteps := 2000000 }) only [go_sem, ↓reduceIte, Int.reduceToNat, Nat.reduceMul, Int.reduceBEq, Int.reduceBNe, Nat.reduceBEq, Nat.reduceAdd, Nat.reduceSub, Nat.reduceLeDiff, Nat.reduceEqDiff, Nat.reduceLT, reduceCtorEq, List.length_map, Nat.le_refl])) _ ?_
    refine Retn.weak (weak_ent 8 (by rfl) (Ent.plain _ _ _ _)) _ (Retn.ret (π := []) hp hnp ⟨rfl, ?_⟩)
    simp (config := { maxSteps := 2000000 }) only [go_sem, ↓reduceIte, Int.reduceToNat, Nat.reduceMul, Int.reduceBEq, Int.reduceBNe, Nat.reduceBEq, Nat.reduceAdd, Nat.reduceSub, Nat.reduceLeDiff, Nat.reduceEqDiff, Nat.reduceLT, reduceCtorEq, h4]
def permF (l : List Rul) (sts : List Sta) (cl : Bool) (n : ByteArray) : Bool := (explE l sts n == 0) && ((explL l sts cl n).length == 0)
theorem s8 (nl fl) (l : List Rul) (nm' fm) (sts : List Sta) (cl : Bool) (n : ByteArray) (hs : ∀ r ∈ l, RulOk r) (ht : ∀ x ∈ sts, x.name.size ≤ 9223372036854775807) :
    Aw.Spec Tryd.prog 8 [] [rs nl fl l, sts' nm' fm sts, B cl, S n] (Gives (· = .tup [B (permF l sts cl n), I (explE l sts n)])) := by
  refine Aw.Spec.givesD k8 mixed rfl rfl rfl fun E hn hnp hp => ?_
  unfold a8
  simp (config := { maxSteps := 2000000 }) only [go_sem, ↓reduceIte, Int.reduceToNat, Nat.reduceMul, Int.reduceBEq, Int.reduceBNe, Nat.reduceBEq, Nat.reduceAdd, Nat.reduceSub, Nat.reduceLeDiff, Nat.reduceEqDiff, Nat.reduceLT, reduceCtorEq]
  refine AWpL.callA [] (s12 nl fl l nm' fm sts cl n hs ht) rfl rfl (by rw [hn]; rfl) rfl (fun r hr => by cases hr) fun rg v hv => ?_
  obtain ⟨rfl, rfl⟩ := hv
  refine ⟨Nat.zero_le _, AWpL.ofM hn rfl ?_⟩
  simp (config := { maxSteps := 2000000 }) only [go_sem, ↓reduceIte, Int.reduceToNat, Nat.reduceMul, Int.reduceBEq, Int.reduceBNe, Nat.reduceBEq, Nat.reduceAdd, Nat.reduceSub, Nat.reduceLeDiff, Nat.reduceEqDiff, Nat.reduceLT, reduceCtorEq, Aw.retS, Aw.retRg, Aw.kpM, Aw.bkM, Aw.pos, Aw.isBox]
  have h0 : (((explL l sts cl n).length : Int) == 0) = ((explL l sts cl n).length == 0) := by
    rw [Bool.eq_iff_iff, beq_iff_eq, beq_iff_eq]; omega
  rw [h0]
  rfl
/-- The states after an operation. -/
def setE (sts : List Sta) (cl : Bool) (n : ByteArray) : Int :=
  if statesF sts ≠ 0 then statesF sts else if findF sts n < 0 then 8 else if ((sts.getD (findF sts n).toNat default).closed == cl) = true then 11 else 0
def setL (sts : List Sta) (cl : Bool) (n : ByteArray) : List Sta := if setE sts cl n = 0 then sts.set (findF sts n).toNat ⟨(sts.getD (findF sts n).toNat default).name, cl⟩ else []
set_option maxRecDepth 20000 in
theorem s10 (nm' fm) (sts : List Sta) (cl : Bool) (n : ByteArray) (ht : ∀ x ∈ sts, x.name.size ≤ 9223372036854775807) :
    Aw.Spec Tryd.prog 10 [] [sts' nm' fm sts, B cl, S n] (fun rg v => rg = [] ∧ v = .tup [sts' none false (setL sts cl n), I (setE sts cl n)]) := by
  refine Aw.Spec.regsD k10 mixed rfl rfl rfl fun E hn hnp hp => ?_
  unfold a10
  have pin : ∀ r, E.pin r = none := fun r => hp.none hnp (Nat.zero_le _)
  have hE : setE sts cl n = if statesF sts ≠ 0 then statesF sts else if findF sts n < 0 then 8 else if ((sts.getD (findF sts n).toNat default).closed == cl) = true then 11 else 0 := rfl
  have hL : setL sts cl n = if setE sts cl n = 0 then sts.set (findF sts n).toNat ⟨(sts.getD (findF sts n).toNat default).name, cl⟩ else [] := rfl
  simp (config := { maxSteps := 2000000 }) only [go_sem, ↓reduceIte, Int.reduceToNat, Nat.reduceMul, Int.reduceBEq, Int.reduceBNe, Nat.reduceBEq, Nat.reduceAdd, Nat.reduceSub, Nat.reduceLeDiff, Nat.reduceEqDiff, Nat.reduceLT, reduceCtorEq]
  (refine AWpL.calle (s20 nm' fm sts ht) rfl (by rw [hn]; rfl) (by simp (config := { maxSteps := 2000000 }) only [go_sem, ↓reduceIte, Int.reduceToNat, Nat.reduceMul, Int.reduceBEq, Int.reduceBNe, Nat.reduceBEq, Nat.reduceAdd, Nat.reduceSub, Nat.reduceLeDiff, Nat.reduceEqDiff, Nat.reduceLT, reduceCtorEq]) (AWpL.ofM hn rfl ?_); simp (config := { maxSteps := 2000000 }) only [go_sem, ↓reduceIte, Int.reduceToNat, Nat.reduceMul, Int.reduceBEq, Int.reduceBNe, Nat.reduceBEq, Nat.reduceAdd, Nat.reduceSub, Nat.reduceLeDiff, Nat.reduceEqDiff, Nat.reduceLT, reduceCtorEq])
  simp only [bne_iff_ne, ne_eq, bne_eq_false_iff_eq]
  refine ⟨fun h => ?_, fun h => ?_⟩
  · rw [if_pos h] at hE
    rw [if_neg (by rw [hE]; exact h)] at hL
    rw [hL, hE]
    refine Retn.weak (weak_ent 6 (by rfl) (Ent.ofnil0 2)) _ (Retn.ret (π := []) hp hnp ⟨rfl, ?_⟩)
    simp (config := { maxSteps := 2000000 }) only [go_sem, ↓reduceIte, Int.reduceToNat, Nat.reduceMul, Int.reduceBEq, Int.reduceBNe, Nat.reduceBEq, Nat.reduceAdd, Nat.reduceSub, Nat.reduceLeDiff, Nat.reduceEqDiff, Nat.reduceLT, reduceCtorEq]
    rfl
  rw [if_neg (by simp [h])] at hE
  have h32 := statesF_len h
  have hfr := findF_range sts n
  (refine AWpL.calle (s21 nm' fm sts n (by omega)) rfl (by rw [hn]; rfl) (by simp (config := { maxSteps := 2000000 }) only [go_sem, ↓reduceIte, Int.reduceToNat, Nat.reduceMul, Int.reduceBEq, Int.reduceBNe, Nat.reduceBEq, Nat.reduceAdd, Nat.reduceSub, Nat.reduceLeDiff, Nat.reduceEqDiff, Nat.reduceLT, reduceCtorEq]) (AWpL.ofM hn rfl ?_); simp (config := { maxSteps := 2000000 }) only [go_sem, ↓reduceIte, Int.reduceToNat, Nat.reduceMul, Int.reduceBEq, Int.reduceBNe, Nat.reduceBEq, Nat.reduceAdd, Nat.reduceSub, Nat.reduceLeDiff, Nat.reduceEqDiff, Nat.reduceLT, reduceCtorEq])
  simp only [decide_eq_true_eq, decide_eq_false_iff_not]
  refine ⟨fun h2 => ?_, fun h2 => ?_⟩
  · rw [if_pos h2] at hE
    rw [if_neg (by rw [hE]; decide)] at hL
    rw [hL, hE]
    refine Retn.weak (weak_ent 6 (by rfl) (Ent.ofnil0 2)) _ (Retn.ret (π := []) hp hnp ⟨rfl, ?_⟩)
    simp (config := { maxSteps := 2000000 }) only [go_sem, ↓reduceIte, Int.reduceToNat, Nat.reduceMul, Int.reduceBEq, Int.reduceBNe, Nat.reduceBEq, Nat.reduceAdd, Nat.reduceSub, Nat.reduceLeDiff, Nat.reduceEqDiff, Nat.reduceLT, reduceCtorEq]
    rfl
  rw [if_neg h2] at hE
  obtain ⟨j, hj⟩ : ∃ j : Nat, findF sts n = j := ⟨(findF sts n).toNat, by omega⟩
  rw [hj, Int.toNat_natCast] at hE hL
  rw [hj]
  have hjl : j < sts.length := by omega
  have e1 := getD_mapD default stc hjl
  have hms : ∀ y : Sta, (sts.map stc).set j (stc y) = (sts.set j y).map stc := fun y => List.map_set.symm
  have hlen : ∀ y : Sta, (sts.set j y).length = sts.length := fun y => List.length_set
  generalize sts.getD j default = q at *
  simp (config := { maxSteps := 2000000 }) only [go_sem, ↓reduceIte, Int.reduceToNat, Nat.reduceMul, Int.reduceBEq, Int.reduceBNe, Nat.reduceBEq, Nat.reduceAdd, Nat.reduceSub, Nat.reduceLeDiff, Nat.reduceEqDiff, Nat.reduceLT, reduceCtorEq, e1]
  (repeat (refine And.intro (by first | omega | (refine ⟨by omega, by omega⟩) | (refine ⟨by omega, by omega, by omega⟩) | (simp only [List.length_map, List.length_range, List.length_append, List.length_cons, List.length_nil, List.length_replicate, List.length_set]; omega) | (simp; omega) | (intro hgd; cases hgd) | (intro hgd; refine ⟨hgd, ?_⟩; first | omega | (refine ⟨by omega, by omega⟩) | (simp; omega))) ?_))
  refine ⟨fun h3 => ?_, fun h3 => ?_⟩
  · rw [if_pos h3] at hE
    rw [if_neg (by rw [hE]; decide)] at hL
    rw [hL, hE]
    refine Retn.weak (weak_ent 6 (by rfl) (Ent.ofnil0 2)) _ (Retn.ret (π := []) hp hnp ⟨rfl, ?_⟩)
    simp (config := { maxSteps := 2000000 }) only [go_sem, ↓reduceIte, Int.reduceToNat, Nat.reduceMul, Int.reduceBEq, Int.reduceBNe, Nat.reduceBEq, Nat.reduceAdd, Nat.reduceSub, Nat.reduceLeDiff, Nat.reduceEqDiff, Nat.reduceLT, reduceCtorEq]
    rfl
  rw [if_neg (by rw [h3]; decide)] at hE
  rw [if_pos hE] at hL
  rw [hL, hE]
  refine AWpL.callA [] (o22 nm' fm sts (by omega)) rfl rfl (by rw [hn]; rfl) rfl (fun r hr => by cases hr) fun rg v hv => ?_
  obtain ⟨rfl, rfl⟩ := hv
  refine ⟨Nat.zero_le _, AWpL.ofM hn rfl ?_⟩
  simp (config := { maxSteps := 2000000 }) only [go_sem, ↓reduceIte, Int.reduceToNat, Nat.reduceMul, Int.reduceBEq, Int.reduceBNe, Nat.reduceBEq, Nat.reduceAdd, Nat.reduceSub, Nat.reduceLeDiff, Nat.reduceEqDiff, Nat.reduceLT, reduceCtorEq, Aw.retS, Aw.retRg, Aw.kpM, Aw.bkM, Aw.pos, Aw.isBox, List.getElem?_nil, e1, List.length_map]
  (repeat (refine And.intro (by first | omega | (refine ⟨by omega, by omega⟩) | (refine ⟨by omega, by omega, by omega⟩) | (simp only [List.length_map, List.length_range, List.length_append, List.length_cons, List.length_nil, List.length_replicate, List.length_set]; omega) | (simp; omega) | (intro hgd; cases hgd) | (intro hgd; refine ⟨hgd, ?_⟩; first | omega | (refine ⟨by omega, by omega⟩) | (simp; omega))) ?_))
  have h5 : ((sts.set j ⟨q.name, cl⟩).map stc).take sts.length = (sts.set j ⟨q.name, cl⟩).map stc := List.take_of_length_le (by simp)
  refine Retn.weak (weak_freeze 0 rfl (pin 0) (by simp (config := { maxSteps := 2000000 }) only [go_sem, ↓reduceIte, Int.reduceToNat, Nat.reduceMul, Int.reduceBEq, Int.reduceBNe, Nat.reduceBEq, Nat.reduceAdd, Nat.reduceSub, Nat.reduceLeDiff, Nat.reduceEqDiff, Nat.reduceLT, reduceCtorEq, List.length_set, List.length_map, Nat.le_refl])) _ ?_
  refine Retn.weak (weak_ent 6 (by rfl) (Ent.plain _ _ _ _)) _ (Retn.ret (π := []) hp hnp ⟨rfl, ?_⟩)
  simp (config := { maxSteps := 2000000 }) only [go_sem, ↓reduceIte, Int.reduceToNat, Nat.reduceMul, Int.reduceBEq, Int.reduceBNe, Nat.reduceBEq, Nat.reduceAdd, Nat.reduceSub, Nat.reduceLeDiff, Nat.reduceEqDiff, Nat.reduceLT, reduceCtorEq]
  have h6 := hms ⟨q.name, cl⟩
  rw [← h6] at h5
  have h7 : (List.map stc sts).set j (stc ⟨q.name, cl⟩) = (List.map stc sts).set j [S q.name, .val (.bool cl)] := rfl
  rw [← h7, h5, h6]
end Go.Proofs.YtocghkacngoblaaDoor
