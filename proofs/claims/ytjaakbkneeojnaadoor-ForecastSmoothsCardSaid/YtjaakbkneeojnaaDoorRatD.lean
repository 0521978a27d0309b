/- Rationals: operations on texts. -/
import Derived.Test.YtjaakbkneeojnaaDoorAwZl
import Derived.Test.YtjaakbkneeojnaaDoorRatC
set_option linter.unusedVariables false
set_option linter.unusedSimpArgs false
namespace Go.Proofs.YtjaakbkneeojnaaDoor
open Go.Proofs.YtjaakbkneeojnaaDoor.Aw
attribute [local go_sem] Int.natCast_zero Int.natCast_one bne_self_eq_false beq_self_eq_true Bool.not_true Bool.not_false Option.isSome_none Option.isSome_some Aw.bkM_nil Option.getD_some Option.getD_none Nat.sub_zero Int.toNat_zero Aw.frzS Aw.frzT Aw.frzA Aw.frzL Aw.frzR Aw.frzO Aw.frzOL Aw.frzOT Aw.frzOR Aw.killS Aw.mapT Aw.mapR Aw.killM Aw.resAVs Aw.resAV Aw.quietOps Aw.wpP Aw.wpT Aw.wpS Aw.AOp.mild List.getElem?_cons_zero List.getElem?_cons_succ Bool.and_false Bool.and_self Bool.false_and Aw.opOb Aw.gdB Aw.Rnd Aw.subTm List.length_map Int.toNat_natCast and_self Aw.SeqC Aw.stops Aw.Ends Aw.looks Aw.renA Aw.renL Aw.renT Aw.renS Aw.wpO Aw.aop Aw.putTm Aw.St.ev Aw.St.put Aw.St.putO Aw.binAV Aw.intBin Aw.strBin Aw.pickAV Aw.optInt Aw.AV.strip Aw.AV.guard Aw.AV.cells Aw.gdOb Aw.AOp.opds Aw.AOp.still Aw.ptrCells Aw.St.reg Aw.fillAV Aw.fillOb Aw.elsOb Aw.splice Aw.firm Aw.cellish Aw.AV.shut Aw.shutAll Aw.Seq Aw.Blk Aw.retS_nil Aw.mapA Aw.mapL Aw.borA Aw.borOb Aw.allOb Aw.tupOf Aw.params Aw.Opd.of Array.toList Value.cells List.map_cons List.map_nil List.getD_cons_zero List.getD_cons_succ List.getD_nil List.length_cons List.length_nil List.take_succ_cons List.take_zero List.take_nil List.drop_zero List.drop_succ_cons List.drop_nil List.set_cons_zero List.set_cons_succ List.append_nil List.nil_append List.cons_append List.all_cons List.all_nil cond_false cond_true if_true if_false true_and and_true Bool.and_true Bool.true_and Option.map_some Option.map_none false_implies forall_const implies_true forall_eq imp_self Bool.cond_false_right Bool.cond_true_left beq_true beq_false Bool.not_eq_true' Bool.false_eq_true Nat.zero_add Nat.add_zero Aw.eqCells Aw.stopDraw Aw.skipS Aw.exactCap Aw.revealS Aw.srcEls Aw.srcSz
attribute [local go_sem ↓] Aw.look_nil Aw.look_ite Aw.wpL_nil Aw.wpL_op Aw.wpL_gd Aw.wpQ_nil Aw.wpQ_op Aw.wpQ_gd Aw.wpC_draw Aw.wpC_reg Aw.wpC_skip Aw.wpC_ret Aw.wpC_exit Aw.wpC_seq Aw.wpC_block Aw.wpC_loop Aw.wpC_cond Aw.stopAt_nil Aw.stopAt_cons Aw.wpD_skip Aw.wpD_ret Aw.wpD_exit Aw.wpD_region Aw.wpD_draw Aw.wpM_nil Aw.wpM_op Aw.wpM_gd Aw.wpD_seq Aw.wpD_block Aw.wpD_loop Aw.wpD_cond
/- gridhall/rat.two -/
def a45 : ACode :=
  (.seq (.region false [] [
     ⟨(some 6), none, (.mov (.v (.string ⟨#[]⟩)))⟩,
     ⟨(some 7), none, (.mov (.v (.int .i64 0)))⟩])
  (.seq (.seq (.region false [] [
     ⟨(some 9), none, (.mov (.t 0))⟩,
     ⟨(some 10), none, (.mov (.t 1))⟩,
     ⟨(some 11), none, (.bsl 22 1 2 [(0, (.t 9)), (1, (.t 10))])⟩,
     ⟨(some 12), none, (.call 56 [(.t 11)])⟩,
     ⟨(some 8), none, (.mov (.t 12))⟩])
  (.seq (.region false [] [
     ⟨(some 13), none, (.mov (.t 8))⟩,
     ⟨(some 14), none, (.bin .neq 25 (.t 13) (.v (.int .i64 0)))⟩])
  (.cond (.t 14)
    (.seq (.region false [] [
       ⟨(some 15), none, (.mov (.t 8))⟩,
       ⟨(some 6), none, (.mov (.v (.string ⟨#[]⟩)))⟩,
       ⟨(some 7), none, (.mov (.t 15))⟩])
    .ret)
    .skip)))
  (.seq (.region false [] [
     ⟨(some 16), none, (.mov (.t 2))⟩,
     ⟨(some 17), none, (.mov (.t 0))⟩,
     ⟨(some 18), none, (.call 41 [(.t 17)])⟩,
     ⟨(some 19), none, (.mov (.t 1))⟩,
     ⟨(some 20), none, (.call 41 [(.t 19)])⟩,
     ⟨(some 21), none, (.callv (.t 16) [(.t 18), (.t 20)])⟩,
     ⟨(some 22), none, (.call 49 [(.t 21)])⟩,
     ⟨(some 23), none, (.ext 0 (.t 22))⟩,
     ⟨(some 24), none, (.ext 1 (.t 22))⟩,
     ⟨(some 6), none, (.mov (.t 23))⟩,
     ⟨(some 7), none, (.mov (.t 24))⟩])
  .ret)))
theorem k45 : FnIs Tryd.prog 45 25 [.t 6, .t 7] a45 := ⟨_, _, Tryd.func45, rfl, by kernel_rfl, by kernel_rfl, rfl⟩

/- gridhall/rat.Add -/
def a16 : ACode :=
  (.seq (.region false [] [
     ⟨(some 4), none, (.mov (.v (.string ⟨#[]⟩)))⟩,
     ⟨(some 5), none, (.mov (.v (.int .i64 0)))⟩])
  (.seq (.region false [] [
     ⟨(some 6), none, (.mov (.t 0))⟩,
     ⟨(some 7), none, (.mov (.t 1))⟩,
     ⟨(some 8), none, (.call 45 [(.t 6), (.t 7), (.v (.func (.func 46) #[] #[]))])⟩,
     ⟨(some 9), none, (.ext 0 (.t 8))⟩,
     ⟨(some 10), none, (.ext 1 (.t 8))⟩,
     ⟨(some 4), none, (.mov (.t 9))⟩,
     ⟨(some 5), none, (.mov (.t 10))⟩])
  .ret))
theorem k16 : FnIs Tryd.prog 16 11 [.t 4, .t 5] a16 := ⟨_, _, Tryd.func16, rfl, by kernel_rfl, by kernel_rfl, rfl⟩

/- gridhall/rat.Sub -/
def a19 : ACode :=
  (.seq (.region false [] [
     ⟨(some 4), none, (.mov (.v (.string ⟨#[]⟩)))⟩,
     ⟨(some 5), none, (.mov (.v (.int .i64 0)))⟩])
  (.seq (.region false [] [
     ⟨(some 6), none, (.mov (.t 0))⟩,
     ⟨(some 7), none, (.mov (.t 1))⟩,
     ⟨(some 8), none, (.call 45 [(.t 6), (.t 7), (.v (.func (.func 48) #[] #[]))])⟩,
     ⟨(some 9), none, (.ext 0 (.t 8))⟩,
     ⟨(some 10), none, (.ext 1 (.t 8))⟩,
     ⟨(some 4), none, (.mov (.t 9))⟩,
     ⟨(some 5), none, (.mov (.t 10))⟩])
  .ret))
theorem k19 : FnIs Tryd.prog 19 11 [.t 4, .t 5] a19 := ⟨_, _, Tryd.func19, rfl, by kernel_rfl, by kernel_rfl, rfl⟩

/- gridhall/rat.Mul -/
def a21 : ACode :=
  (.seq (.region false [] [
     ⟨(some 4), none, (.mov (.v (.string ⟨#[]⟩)))⟩,
     ⟨(some 5), none, (.mov (.v (.int .i64 0)))⟩])
  (.seq (.region false [] [
     ⟨(some 6), none, (.mov (.t 0))⟩,
     ⟨(some 7), none, (.mov (.t 1))⟩,
     ⟨(some 8), none, (.call 45 [(.t 6), (.t 7), (.v (.func (.func 43) #[] #[]))])⟩,
     ⟨(some 9), none, (.ext 0 (.t 8))⟩,
     ⟨(some 10), none, (.ext 1 (.t 8))⟩,
     ⟨(some 4), none, (.mov (.t 9))⟩,
     ⟨(some 5), none, (.mov (.t 10))⟩])
  .ret))
theorem k21 : FnIs Tryd.prog 21 11 [.t 4, .t 5] a21 := ⟨_, _, Tryd.func21, rfl, by kernel_rfl, by kernel_rfl, rfl⟩

/- gridhall/rat.Compare -/
def a38 : ACode :=
  (.seq (.region false [] [
     ⟨(some 4), none, (.mov (.v (.int .i64 0)))⟩,
     ⟨(some 5), none, (.mov (.v (.int .i64 0)))⟩])
  (.seq (.seq (.region false [] [
     ⟨(some 7), none, (.mov (.t 0))⟩,
     ⟨(some 8), none, (.mov (.t 1))⟩,
     ⟨(some 9), none, (.bsl 22 1 2 [(0, (.t 7)), (1, (.t 8))])⟩,
     ⟨(some 10), none, (.call 56 [(.t 9)])⟩,
     ⟨(some 6), none, (.mov (.t 10))⟩])
  (.seq (.region false [] [
     ⟨(some 11), none, (.mov (.t 6))⟩,
     ⟨(some 12), none, (.bin .neq 25 (.t 11) (.v (.int .i64 0)))⟩])
  (.cond (.t 12)
    (.seq (.region false [] [
       ⟨(some 13), none, (.mov (.t 6))⟩,
       ⟨(some 4), none, (.mov (.v (.int .i64 0)))⟩,
       ⟨(some 5), none, (.mov (.t 13))⟩])
    .ret)
    .skip)))
  (.seq (.region false [] [
     ⟨(some 14), none, (.mov (.t 0))⟩,
     ⟨(some 15), none, (.call 41 [(.t 14)])⟩,
     ⟨(some 16), none, (.mov (.t 1))⟩,
     ⟨(some 17), none, (.call 41 [(.t 16)])⟩,
     ⟨(some 18), none, (.call 62 [(.t 15), (.t 17)])⟩,
     ⟨(some 4), none, (.mov (.t 18))⟩,
     ⟨(some 5), none, (.mov (.v (.int .i64 0)))⟩])
  .ret)))
theorem k38 : FnIs Tryd.prog 38 19 [.t 4, .t 5] a38 := ⟨_, _, Tryd.func38, rfl, by kernel_rfl, by kernel_rfl, rfl⟩

theorem QB.mono {k j : Nat} {q : QQ} (h : QB k q) (hj : k ≤ j) : QB j q := ⟨Nat.le_trans h.1 hj, Nat.le_trans h.2 hj⟩
theorem addQ_QB {k : Nat} {a b : QQ} (ha : QB k a) (hb : QB k b) (hk : 1 ≤ k) : QB (2 * k + 1) (addQ a b) := by
  have hwa := whole_nl ha hk
  have hwb := whole_nl hb hk
  have hx := nl_mul a.num b.whole
  have hy := nl_mul b.num a.whole
  have hd := nl_mul a.whole b.whole
  have h1 := ha.1
  have h2 := hb.1
  unfold addQ
  split
  · exact hb.mono (by omega)
  · split
    · exact ha.mono (by omega)
    · split
      · have := nl_add (a.num * b.whole) (b.num * a.whole)
        exact low_QB (by omega) (by omega)
      · split
        · have := nl_mono (Nat.sub_le (a.num * b.whole) (b.num * a.whole))
          exact low_QB (by omega) (by omega)
        · have := nl_mono (Nat.sub_le (b.num * a.whole) (a.num * b.whole))
          exact low_QB (by omega) (by omega)
theorem subQ_QB {k : Nat} {a b : QQ} (ha : QB k a) (hb : QB k b) (hk : 1 ≤ k) : QB (2 * k + 1) (subQ a b) := addQ_QB ha (negQ_QB hb) hk
theorem zero_QB (k : Nat) : QB k QQ.zero := ⟨by show nl 0 ≤ k; rw [nl_zero]; omega, by show nl 0 ≤ k; rw [nl_zero]; omega⟩
theorem mulQ_QB {k : Nat} {a b : QQ} (ha : QB k a) (hb : QB k b) (hk : 1 ≤ k) : QB (2 * k) (mulQ a b) := by
  have hwa := whole_nl ha hk
  have hwb := whole_nl hb hk
  have hx := nl_mul a.num b.num
  have hd := nl_mul a.whole b.whole
  have h1 := ha.1
  have h2 := hb.1
  unfold mulQ
  split
  · exact zero_QB _
  · exact low_QB (by omega) (by omega)
theorem quoQ_QB {k : Nat} {a b : QQ} (ha : QB k a) (hb : QB k b) (hk : 1 ≤ k) : QB (2 * k) (quoQ a b) := by
  have hwa := whole_nl ha hk
  have hwb := whole_nl hb hk
  have hx := nl_mul a.num b.whole
  have hd := nl_mul a.whole b.num
  have h1 := ha.1
  have h2 := hb.1
  unfold quoQ
  split
  · exact zero_QB _
  · exact low_QB (by omega) (by omega)
theorem intQ_QB {n : Int} (h0 : -9223372036854775807 ≤ n) (h1 : n ≤ 9223372036854775807) : QB 3 (intQ n) := ⟨nl64 (by show n.natAbs ≤ _; omega), by show nl 1 ≤ 3; rw [nl_one]; decide⟩
/-- What the check of a rational promises. -/
theorem check_ok {l : List UInt8} (h : ratCheck l = 0) : IsNum (parts l).1 ∧ (parts l).1.length ≤ 2000 ∧ (begins 45 l = true → (parts l).1 ≠ [48]) ∧
    ((parts l).2.2 = true → IsNum (parts l).2.1 ∧ (parts l).2.1.length ≤ 2000 ∧ (parts l).2.1 ≠ [48] ∧ (parts l).2.1 ≠ [49] ∧ Nat.gcd (num (dgs (parts l).1)) (num (dgs (parts l).2.1)) = 1) := by
  unfold ratCheck at h
  dsimp only at h
  generalize hY : (if (parts l).2.2 = true then checkN (parts l).2.1 else 0) = Y at h
  split at h
  · cases h
  · rename_i h1
    rw [not_or, not_or] at h1
    split at h
    · cases h
    · rename_i h2
      rw [not_or] at h2
      obtain ⟨h3, h4⟩ := h2
      have h3 : checkN (parts l).1 = 0 := by omega
      have h4 : Y = 0 := by omega
      subst h4
      obtain ⟨g1, g2⟩ := checkN_dig h3
      refine ⟨g1, g2, fun hb he => h1.2.2 ⟨hb, he⟩, fun hi => ?_⟩
      rw [if_pos hi] at hY
      obtain ⟨g3, g4⟩ := checkN_dig hY
      split at h
      · cases h
      · rename_i h5
        refine ⟨g3, g4, fun he => h5 ⟨hi, .inl he⟩, fun he => h5 ⟨hi, .inr (.inl he)⟩, ?_⟩
        rcases Nat.decEq (Nat.gcd (num (dgs (parts l).1)) (num (dgs (parts l).2.1))) 1 with h6 | h6
        · exact absurd ⟨hi, .inr (.inr h6)⟩ h5
        · exact h6
theorem ratIn_QB {l : List UInt8} (h : ratCheck l = 0) : QB 223 (ratIn l) := by
  obtain ⟨h1, h2, h3, h4⟩ := check_ok h
  refine ⟨num_nl h1.2.1 h2, ?_⟩
  show nl (if (parts l).2.2 = true then num (dgs (parts l).2.1) else 1) ≤ 223
  split
  · rename_i hi
    exact num_nl (h4 hi).1.2.1 (h4 hi).2.1
  · rw [nl_one]; decide
theorem in_of {l : List UInt8} (h : ratCheck l = 0) (hl : l.length ≤ 9223372036854775807) : Aw.Spec Tryd.prog 41 [] [S (bA l)] (fun rg v => rg = [] ∧ v = qv (ratIn l)) := by
  obtain ⟨h1, h2, h3, h4⟩ := check_ok h
  exact s41 l hl ⟨h1.2.1, by omega⟩ fun hi => ⟨(h4 hi).1.2.1, Nat.le_trans (h4 hi).2.1 (by decide)⟩
theorem Ent.ofunc (f : FuncId) : Ent (.val (.func (.func f) #[] #[])) (.fn f []) := fun w ok ρ v h => by
  unfold R at h ⊢
  exact ⟨#[], h, by unfold RList; rfl⟩
def twoQ (op : QQ → QQ → QQ) (l m : List UInt8) : List UInt8 × Int := if checkAll [l, m] ≠ 0 then ([], checkAll [l, m]) else toldQ (op (ratIn l) (ratIn m))
theorem check2 {l m : List UInt8} (h : checkAll [l, m] = 0) : ratCheck l = 0 ∧ ratCheck m = 0 := by
  unfold checkAll at h
  split at h
  · exact absurd h (by assumption)
  · rename_i h1
    unfold checkAll at h
    split at h
    · exact absurd h (by assumption)
    · rename_i h2
      exact ⟨by omega, by omega⟩
set_option maxRecDepth 20000 in
theorem s45 (f : FuncId) (op : QQ → QQ → QQ) (hf : fnOk Tryd.prog f = true) (hs : ∀ a b, QB 223 a → QB 223 b → Aw.Spec Tryd.prog f [] [qv a, qv b] (fun rg v => rg = [] ∧ v = qv (op a b))) (hop : ∀ a b, QB 223 a → QB 223 b → QB 600001 (op a b)) (l m : List UInt8) (hl : l.length ≤ 9223372036854775807) (hm : m.length ≤ 9223372036854775807) :
    Aw.Spec Tryd.prog 45 [] [S (bA l), S (bA m), .fn f []] (Gives (· = .tup [S (bA (twoQ op l m).1), I (twoQ op l m).2])) := by
  refine Spec.shut (Post := fun rg v => v = .tup [S (bA (twoQ op l m).1), I (twoQ op l m).2]) ?_ fun rg v h => by subst h; exact ⟨rfl, rfl, rfl⟩
  refine Aw.Spec.regsW k45 rfl rfl fun E hn hnp hp => ?_
  unfold a45
  have pin : ∀ r, E.pin r = none := fun r => hp.none hnp (Nat.zero_le _)
  refine AWp.ofD [] [] hn mixed rfl ?_
  simp (config := { maxSteps := 2000000 }) only [go_sem, ↓reduceIte, Int.reduceToNat, Nat.reduceMul, Int.reduceBEq, Int.reduceBNe, Nat.reduceBEq, Nat.reduceAdd, Nat.reduceSub, Nat.reduceLeDiff, Nat.reduceEqDiff, Nat.reduceLT, reduceCtorEq]
  refine AWpL.weak (weak_freeze 0 rfl (pin 0) (by simp (config := { maxSteps := 2000000 }) only [go_sem, ↓reduceIte, Int.reduceToNat, Nat.reduceMul, Int.reduceBEq, Int.reduceBNe, Nat.reduceBEq, Nat.reduceAdd, Nat.reduceSub, Nat.reduceLeDiff, Nat.reduceEqDiff, Nat.reduceLT, reduceCtorEq, Nat.le_refl])) ?_
  simp (config := { maxSteps := 2000000 }) only [go_sem, ↓reduceIte, Int.reduceToNat, Nat.reduceMul, Int.reduceBEq, Int.reduceBNe, Nat.reduceBEq, Nat.reduceAdd, Nat.reduceSub, Nat.reduceLeDiff, Nat.reduceEqDiff, Nat.reduceLT, reduceCtorEq]
  refine AWpL.calle (s56 none true [l, m] (by show 2 ≤ 1000000; decide) (fun x hx => by
    rcases List.mem_cons.1 hx with rfl | hx
    · exact hl
    · rcases List.mem_cons.1 hx with rfl | hx
      · exact hm
      · cases hx)) rfl (by rw [hn]; rfl) (by simp (config := { maxSteps := 2000000 }) only [go_sem, ↓reduceIte, Int.reduceToNat, Nat.reduceMul, Int.reduceBEq, Int.reduceBNe, Nat.reduceBEq, Nat.reduceAdd, Nat.reduceSub, Nat.reduceLeDiff, Nat.reduceEqDiff, Nat.reduceLT, reduceCtorEq]) (AWpL.ofM hn rfl ?_)
  simp (config := { maxSteps := 2000000 }) only [go_sem, ↓reduceIte, Int.reduceToNat, Nat.reduceMul, Int.reduceBEq, Int.reduceBNe, Nat.reduceBEq, Nat.reduceAdd, Nat.reduceSub, Nat.reduceLeDiff, Nat.reduceEqDiff, Nat.reduceLT, reduceCtorEq]
  unfold twoQ
  refine ⟨fun h => ?_, fun h => ?_⟩
  · rw [if_pos (by simpa using h)]
    refine Retn.ret (π := []) hp hnp ⟨rfl, ?_⟩
    simp (config := { maxSteps := 2000000 }) only [go_sem, ↓reduceIte, Int.reduceToNat, Nat.reduceMul, Int.reduceBEq, Int.reduceBNe, Nat.reduceBEq, Nat.reduceAdd, Nat.reduceSub, Nat.reduceLeDiff, Nat.reduceEqDiff, Nat.reduceLT, reduceCtorEq]
    rfl
  · have h0 : checkAll [l, m] = 0 := by simpa using h
    rw [if_neg (by simp [h0])]
    obtain ⟨h1, h2⟩ := check2 h0
    (refine AWpL.callA [] (in_of h1 hl) rfl rfl (by rw [hn]; rfl) rfl (fun r hr => .inr (pin r)) fun rg v hv => ?_; obtain ⟨rfl, rfl⟩ := hv; refine ⟨Nat.le_refl _, AWpL.ofM hn rfl ?_⟩)
    simp (config := { maxSteps := 2000000 }) only [go_sem, ↓reduceIte, Int.reduceToNat, Nat.reduceMul, Int.reduceBEq, Int.reduceBNe, Nat.reduceBEq, Nat.reduceAdd, Nat.reduceSub, Nat.reduceLeDiff, Nat.reduceEqDiff, Nat.reduceLT, reduceCtorEq, Aw.retS, Aw.retRg, Aw.kpM, Aw.bkM, Aw.pos, Aw.isBox]
    (refine AWpL.callA [] (in_of h2 hm) rfl rfl (by rw [hn]; rfl) rfl (fun r hr => .inr (pin r)) fun rg v hv => ?_; obtain ⟨rfl, rfl⟩ := hv; refine ⟨Nat.le_refl _, AWpL.ofM hn rfl ?_⟩)
    simp (config := { maxSteps := 2000000 }) only [go_sem, ↓reduceIte, Int.reduceToNat, Nat.reduceMul, Int.reduceBEq, Int.reduceBNe, Nat.reduceBEq, Nat.reduceAdd, Nat.reduceSub, Nat.reduceLeDiff, Nat.reduceEqDiff, Nat.reduceLT, reduceCtorEq, Aw.retS, Aw.retRg, Aw.kpM, Aw.bkM, Aw.pos, Aw.isBox]
    refine AWpL.callv (f := f) (caps := []) (by rfl) hf (hs (ratIn l) (ratIn m) (ratIn_QB h1) (ratIn_QB h2)) (by rw [hn]; rfl) fun rg v hv => ?_
    obtain ⟨rfl, rfl⟩ := hv
    refine AWpL.ofM hn rfl ?_
    simp (config := { maxSteps := 2000000 }) only [go_sem, ↓reduceIte, Int.reduceToNat, Nat.reduceMul, Int.reduceBEq, Int.reduceBNe, Nat.reduceBEq, Nat.reduceAdd, Nat.reduceSub, Nat.reduceLeDiff, Nat.reduceEqDiff, Nat.reduceLT, reduceCtorEq, Aw.retS, Aw.retRg, Aw.kpM, Aw.bkM, Aw.pos, Aw.isBox]
    (refine AWpL.calle (s49 (op (ratIn l) (ratIn m)) (hop _ _ (ratIn_QB h1) (ratIn_QB h2))) rfl (by rw [hn]; rfl) (by simp (config := { maxSteps := 2000000 }) only [go_sem, ↓reduceIte, Int.reduceToNat, Nat.reduceMul, Int.reduceBEq, Int.reduceBNe, Nat.reduceBEq, Nat.reduceAdd, Nat.reduceSub, Nat.reduceLeDiff, Nat.reduceEqDiff, Nat.reduceLT, reduceCtorEq]) (AWpL.ofM hn rfl ?_); simp (config := { maxSteps := 2000000 }) only [go_sem, ↓reduceIte, Int.reduceToNat, Nat.reduceMul, Int.reduceBEq, Int.reduceBNe, Nat.reduceBEq, Nat.reduceAdd, Nat.reduceSub, Nat.reduceLeDiff, Nat.reduceEqDiff, Nat.reduceLT, reduceCtorEq])
    refine Retn.ret (π := []) hp hnp ⟨rfl, ?_⟩
    simp (config := { maxSteps := 2000000 }) only [go_sem, ↓reduceIte, Int.reduceToNat, Nat.reduceMul, Int.reduceBEq, Int.reduceBNe, Nat.reduceBEq, Nat.reduceAdd, Nat.reduceSub, Nat.reduceLeDiff, Nat.reduceEqDiff, Nat.reduceLT, reduceCtorEq]
    rfl
theorem s16 (l m : List UInt8) (hl : l.length ≤ 9223372036854775807) (hm : m.length ≤ 9223372036854775807) : Aw.Spec Tryd.prog 16 [] [S (bA l), S (bA m)] (Gives (· = .tup [S (bA (twoQ addQ l m).1), I (twoQ addQ l m).2])) := by
  refine Aw.Spec.givesD k16 mixed rfl rfl rfl fun E hn hnp hp => ?_
  unfold a16
  simp (config := { maxSteps := 2000000 }) only [go_sem, ↓reduceIte, Int.reduceToNat, Nat.reduceMul, Int.reduceBEq, Int.reduceBNe, Nat.reduceBEq, Nat.reduceAdd, Nat.reduceSub, Nat.reduceLeDiff, Nat.reduceEqDiff, Nat.reduceLT, reduceCtorEq]
  refine AWpL.calle (Aw.Spec.args (s45 46 addQ (by kernel_rfl) (fun a b ha hb => s46 a b (ha.mono (by decide)) (hb.mono (by decide))) (fun a b ha hb => (addQ_QB ha hb (by decide)).mono (by decide)) l m hl hm) ⟨Ent.refl _, Ent.refl _, Ent.ofunc _, trivial⟩) rfl (by rw [hn]; rfl) (by simp (config := { maxSteps := 2000000 }) only [go_sem, ↓reduceIte, Int.reduceToNat, Nat.reduceMul, Int.reduceBEq, Int.reduceBNe, Nat.reduceBEq, Nat.reduceAdd, Nat.reduceSub, Nat.reduceLeDiff, Nat.reduceEqDiff, Nat.reduceLT, reduceCtorEq]) (AWpL.ofM hn rfl ?_)
  simp (config := { maxSteps := 2000000 }) only [go_sem, ↓reduceIte, Int.reduceToNat, Nat.reduceMul, Int.reduceBEq, Int.reduceBNe, Nat.reduceBEq, Nat.reduceAdd, Nat.reduceSub, Nat.reduceLeDiff, Nat.reduceEqDiff, Nat.reduceLT, reduceCtorEq]

theorem s19 (l m : List UInt8) (hl : l.length ≤ 9223372036854775807) (hm : m.length ≤ 9223372036854775807) : Aw.Spec Tryd.prog 19 [] [S (bA l), S (bA m)] (Gives (· = .tup [S (bA (twoQ subQ l m).1), I (twoQ subQ l m).2])) := by
  refine Aw.Spec.givesD k19 mixed rfl rfl rfl fun E hn hnp hp => ?_
  unfold a19
  simp (config := { maxSteps := 2000000 }) only [go_sem, ↓reduceIte, Int.reduceToNat, Nat.reduceMul, Int.reduceBEq, Int.reduceBNe, Nat.reduceBEq, Nat.reduceAdd, Nat.reduceSub, Nat.reduceLeDiff, Nat.reduceEqDiff, Nat.reduceLT, reduceCtorEq]
  refine AWpL.calle (Aw.Spec.args (s45 48 subQ (by kernel_rfl) (fun a b ha hb => s48 a b (ha.mono (by decide)) (hb.mono (by decide))) (fun a b ha hb => (subQ_QB ha hb (by decide)).mono (by decide)) l m hl hm) ⟨Ent.refl _, Ent.refl _, Ent.ofunc _, trivial⟩) rfl (by rw [hn]; rfl) (by simp (config := { maxSteps := 2000000 }) only [go_sem, ↓reduceIte, Int.reduceToNat, Nat.reduceMul, Int.reduceBEq, Int.reduceBNe, Nat.reduceBEq, Nat.reduceAdd, Nat.reduceSub, Nat.reduceLeDiff, Nat.reduceEqDiff, Nat.reduceLT, reduceCtorEq]) (AWpL.ofM hn rfl ?_)
  simp (config := { maxSteps := 2000000 }) only [go_sem, ↓reduceIte, Int.reduceToNat, Nat.reduceMul, Int.reduceBEq, Int.reduceBNe, Nat.reduceBEq, Nat.reduceAdd, Nat.reduceSub, Nat.reduceLeDiff, Nat.reduceEqDiff, Nat.reduceLT, reduceCtorEq]

theorem s21 (l m : List UInt8) (hl : l.length ≤ 9223372036854775807) (hm : m.length ≤ 9223372036854775807) : Aw.Spec Tryd.prog 21 [] [S (bA l), S (bA m)] (Gives (· = .tup [S (bA (twoQ mulQ l m).1), I (twoQ mulQ l m).2])) := by
  refine Aw.Spec.givesD k21 mixed rfl rfl rfl fun E hn hnp hp => ?_
  unfold a21
  simp (config := { maxSteps := 2000000 }) only [go_sem, ↓reduceIte, Int.reduceToNat, Nat.reduceMul, Int.reduceBEq, Int.reduceBNe, Nat.reduceBEq, Nat.reduceAdd, Nat.reduceSub, Nat.reduceLeDiff, Nat.reduceEqDiff, Nat.reduceLT, reduceCtorEq]
  refine AWpL.calle (Aw.Spec.args (s45 43 mulQ (by kernel_rfl) (fun a b ha hb => s43 a b (ha.mono (by decide)) (hb.mono (by decide))) (fun a b ha hb => (mulQ_QB ha hb (by decide)).mono (by decide)) l m hl hm) ⟨Ent.refl _, Ent.refl _, Ent.ofunc _, trivial⟩) rfl (by rw [hn]; rfl) (by simp (config := { maxSteps := 2000000 }) only [go_sem, ↓reduceIte, Int.reduceToNat, Nat.reduceMul, Int.reduceBEq, Int.reduceBNe, Nat.reduceBEq, Nat.reduceAdd, Nat.reduceSub, Nat.reduceLeDiff, Nat.reduceEqDiff, Nat.reduceLT, reduceCtorEq]) (AWpL.ofM hn rfl ?_)
  simp (config := { maxSteps := 2000000 }) only [go_sem, ↓reduceIte, Int.reduceToNat, Nat.reduceMul, Int.reduceBEq, Int.reduceBNe, Nat.reduceBEq, Nat.reduceAdd, Nat.reduceSub, Nat.reduceLeDiff, Nat.reduceEqDiff, Nat.reduceLT, reduceCtorEq]

def cmpQ (l m : List UInt8) : Int × Int := if checkAll [l, m] ≠ 0 then (0, checkAll [l, m]) else ((subQ (ratIn l) (ratIn m)).sign, 0)
theorem s38 (l m : List UInt8) (hl : l.length ≤ 9223372036854775807) (hm : m.length ≤ 9223372036854775807) : Aw.Spec Tryd.prog 38 [] [S (bA l), S (bA m)] (Gives (· = .tup [I (cmpQ l m).1, I (cmpQ l m).2])) := by
  refine Spec.shut (Post := fun rg v => v = .tup [I (cmpQ l m).1, I (cmpQ l m).2]) ?_ fun rg v h => by subst h; exact ⟨rfl, rfl, rfl⟩
  refine Aw.Spec.regsW k38 rfl rfl fun E hn hnp hp => ?_
  unfold a38
  have pin : ∀ r, E.pin r = none := fun r => hp.none hnp (Nat.zero_le _)
  refine AWp.ofD [] [] hn mixed rfl ?_
  simp (config := { maxSteps := 2000000 }) only [go_sem, ↓reduceIte, Int.reduceToNat, Nat.reduceMul, Int.reduceBEq, Int.reduceBNe, Nat.reduceBEq, Nat.reduceAdd, Nat.reduceSub, Nat.reduceLeDiff, Nat.reduceEqDiff, Nat.reduceLT, reduceCtorEq]
  refine AWpL.weak (weak_freeze 0 rfl (pin 0) (by simp (config := { maxSteps := 2000000 }) only [go_sem, ↓reduceIte, Int.reduceToNat, Nat.reduceMul, Int.reduceBEq, Int.reduceBNe, Nat.reduceBEq, Nat.reduceAdd, Nat.reduceSub, Nat.reduceLeDiff, Nat.reduceEqDiff, Nat.reduceLT, reduceCtorEq, Nat.le_refl])) ?_
  simp (config := { maxSteps := 2000000 }) only [go_sem, ↓reduceIte, Int.reduceToNat, Nat.reduceMul, Int.reduceBEq, Int.reduceBNe, Nat.reduceBEq, Nat.reduceAdd, Nat.reduceSub, Nat.reduceLeDiff, Nat.reduceEqDiff, Nat.reduceLT, reduceCtorEq]
  refine AWpL.calle (s56 none true [l, m] (by show 2 ≤ 1000000; decide) (fun x hx => by
    rcases List.mem_cons.1 hx with rfl | hx
    · exact hl
    · rcases List.mem_cons.1 hx with rfl | hx
      · exact hm
      · cases hx)) rfl (by rw [hn]; rfl) (by simp (config := { maxSteps := 2000000 }) only [go_sem, ↓reduceIte, Int.reduceToNat, Nat.reduceMul, Int.reduceBEq, Int.reduceBNe, Nat.reduceBEq, Nat.reduceAdd, Nat.reduceSub, Nat.reduceLeDiff, Nat.reduceEqDiff, Nat.reduceLT, reduceCtorEq]) (AWpL.ofM hn rfl ?_)
  simp (config := { maxSteps := 2000000 }) only [go_sem, ↓reduceIte, Int.reduceToNat, Nat.reduceMul, Int.reduceBEq, Int.reduceBNe, Nat.reduceBEq, Nat.reduceAdd, Nat.reduceSub, Nat.reduceLeDiff, Nat.reduceEqDiff, Nat.reduceLT, reduceCtorEq]
  unfold cmpQ
  refine ⟨fun h => ?_, fun h => ?_⟩
  · rw [if_pos (by simpa using h)]
    refine Retn.ret (π := []) hp hnp ⟨rfl, ?_⟩
    simp (config := { maxSteps := 2000000 }) only [go_sem, ↓reduceIte, Int.reduceToNat, Nat.reduceMul, Int.reduceBEq, Int.reduceBNe, Nat.reduceBEq, Nat.reduceAdd, Nat.reduceSub, Nat.reduceLeDiff, Nat.reduceEqDiff, Nat.reduceLT, reduceCtorEq]
  · have h0 : checkAll [l, m] = 0 := by simpa using h
    rw [if_neg (by simp [h0])]
    obtain ⟨h1, h2⟩ := check2 h0
    (refine AWpL.callA [] (in_of h1 hl) rfl rfl (by rw [hn]; rfl) rfl (fun r hr => .inr (pin r)) fun rg v hv => ?_; obtain ⟨rfl, rfl⟩ := hv; refine ⟨Nat.le_refl _, AWpL.ofM hn rfl ?_⟩)
    simp (config := { maxSteps := 2000000 }) only [go_sem, ↓reduceIte, Int.reduceToNat, Nat.reduceMul, Int.reduceBEq, Int.reduceBNe, Nat.reduceBEq, Nat.reduceAdd, Nat.reduceSub, Nat.reduceLeDiff, Nat.reduceEqDiff, Nat.reduceLT, reduceCtorEq, Aw.retS, Aw.retRg, Aw.kpM, Aw.bkM, Aw.pos, Aw.isBox]
    (refine AWpL.callA [] (in_of h2 hm) rfl rfl (by rw [hn]; rfl) rfl (fun r hr => .inr (pin r)) fun rg v hv => ?_; obtain ⟨rfl, rfl⟩ := hv; refine ⟨Nat.le_refl _, AWpL.ofM hn rfl ?_⟩)
    simp (config := { maxSteps := 2000000 }) only [go_sem, ↓reduceIte, Int.reduceToNat, Nat.reduceMul, Int.reduceBEq, Int.reduceBNe, Nat.reduceBEq, Nat.reduceAdd, Nat.reduceSub, Nat.reduceLeDiff, Nat.reduceEqDiff, Nat.reduceLT, reduceCtorEq, Aw.retS, Aw.retRg, Aw.kpM, Aw.bkM, Aw.pos, Aw.isBox]
    refine AWpL.calle (s62 (ratIn l) (ratIn m) ((ratIn_QB h1).mono (by decide)) ((ratIn_QB h2).mono (by decide))) rfl (by rw [hn]; rfl) (by simp (config := { maxSteps := 2000000 }) only [go_sem, ↓reduceIte, Int.reduceToNat, Nat.reduceMul, Int.reduceBEq, Int.reduceBNe, Nat.reduceBEq, Nat.reduceAdd, Nat.reduceSub, Nat.reduceLeDiff, Nat.reduceEqDiff, Nat.reduceLT, reduceCtorEq]) (AWpL.ofM hn rfl ?_)
    simp (config := { maxSteps := 2000000 }) only [go_sem, ↓reduceIte, Int.reduceToNat, Nat.reduceMul, Int.reduceBEq, Int.reduceBNe, Nat.reduceBEq, Nat.reduceAdd, Nat.reduceSub, Nat.reduceLeDiff, Nat.reduceEqDiff, Nat.reduceLT, reduceCtorEq]
    refine Retn.ret (π := []) hp hnp ⟨rfl, ?_⟩
    simp (config := { maxSteps := 2000000 }) only [go_sem, ↓reduceIte, Int.reduceToNat, Nat.reduceMul, Int.reduceBEq, Int.reduceBNe, Nat.reduceBEq, Nat.reduceAdd, Nat.reduceSub, Nat.reduceLeDiff, Nat.reduceEqDiff, Nat.reduceLT, reduceCtorEq]
end Go.Proofs.YtjaakbkneeojnaaDoor
