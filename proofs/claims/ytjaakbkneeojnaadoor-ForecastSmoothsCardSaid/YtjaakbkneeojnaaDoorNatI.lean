/- Numbers: Text and Digits. -/
import Derived.Test.YtjaakbkneeojnaaDoorAwZl
import Derived.Test.YtjaakbkneeojnaaDoorNatJ
import Derived.Test.YtjaakbkneeojnaaDoorNatT
import Derived.Test.YtjaakbkneeojnaaDoorTrlA
set_option linter.unusedVariables false
set_option linter.unusedSimpArgs false
namespace Go.Proofs.YtjaakbkneeojnaaDoor
open Go.Proofs.YtjaakbkneeojnaaDoor.Aw
attribute [local go_sem] Int.natCast_zero Int.natCast_one bne_self_eq_false beq_self_eq_true Bool.not_true Bool.not_false Option.isSome_none Option.isSome_some Aw.bkM_nil Option.getD_some Option.getD_none Nat.sub_zero Int.toNat_zero Aw.frzS Aw.frzT Aw.frzA Aw.frzL Aw.frzR Aw.frzO Aw.frzOL Aw.frzOT Aw.frzOR Aw.killS Aw.mapT Aw.mapR Aw.killM Aw.resAVs Aw.resAV Aw.quietOps Aw.wpP Aw.wpT Aw.wpS Aw.AOp.mild List.getElem?_cons_zero List.getElem?_cons_succ Bool.and_false Bool.and_self Bool.false_and Aw.opOb Aw.gdB Aw.Rnd Aw.subTm List.length_map Int.toNat_natCast and_self Aw.SeqC Aw.stops Aw.Ends Aw.looks Aw.renA Aw.renL Aw.renT Aw.renS Aw.wpO Aw.aop Aw.putTm Aw.St.ev Aw.St.put Aw.St.putO Aw.binAV Aw.intBin Aw.strBin Aw.pickAV Aw.optInt Aw.AV.strip Aw.AV.guard Aw.AV.cells Aw.gdOb Aw.AOp.opds Aw.AOp.still Aw.ptrCells Aw.St.reg Aw.fillAV Aw.fillOb Aw.elsOb Aw.splice Aw.firm Aw.cellish Aw.AV.shut Aw.shutAll Aw.Seq Aw.Blk Aw.retS_nil Aw.mapA Aw.mapL Aw.borA Aw.borOb Aw.allOb Aw.tupOf Aw.params Aw.Opd.of Array.toList Value.cells List.map_cons List.map_nil List.getD_cons_zero List.getD_cons_succ List.getD_nil List.length_cons List.length_nil List.take_succ_cons List.take_zero List.take_nil List.drop_zero List.drop_succ_cons List.drop_nil List.set_cons_zero List.set_cons_succ List.append_nil List.nil_append List.cons_append List.all_cons List.all_nil cond_false cond_true if_true if_false true_and and_true Bool.and_true Bool.true_and Option.map_some Option.map_none false_implies forall_const implies_true forall_eq imp_self Bool.cond_false_right Bool.cond_true_left beq_true beq_false Bool.not_eq_true' Bool.false_eq_true Nat.zero_add Nat.add_zero Aw.eqCells Aw.stopDraw Aw.skipS Aw.exactCap Aw.revealS Aw.srcEls Aw.srcSz
attribute [local go_sem ↓] Aw.look_nil Aw.look_ite Aw.wpL_nil Aw.wpL_op Aw.wpL_gd Aw.wpQ_nil Aw.wpQ_op Aw.wpQ_gd Aw.wpC_draw Aw.wpC_reg Aw.wpC_skip Aw.wpC_ret Aw.wpC_exit Aw.wpC_seq Aw.wpC_block Aw.wpC_loop Aw.wpC_cond Aw.stopAt_nil Aw.stopAt_cons Aw.wpD_skip Aw.wpD_ret Aw.wpD_exit Aw.wpD_region Aw.wpD_draw Aw.wpM_nil Aw.wpM_op Aw.wpM_gd Aw.wpD_seq Aw.wpD_block Aw.wpD_loop Aw.wpD_cond
/- (gridhall/nat.N).Text -/
def a76 : ACode :=
  (.seq (.region false [] [
     ⟨(some 2), none, (.mov (.v (.string ⟨#[]⟩)))⟩])
  (.seq (.seq (.region false [] [
     ⟨(some 8), none, (.mov (.t 0))⟩,
     ⟨(some 9), none, (.len (.t 8))⟩,
     ⟨(some 10), none, (.bin .eql 3 (.t 9) (.v (.int .i64 0)))⟩])
  (.cond (.t 10)
    (.seq (.region false [] [
       ⟨(some 2), none, (.mov (.v (.string ⟨#[48]⟩)))⟩])
    .ret)
    .skip))
  (.seq (.region false [] [
     ⟨(some 11), none, (.mov (.t 0))⟩,
     ⟨(some 12), none, (.len (.t 11))⟩,
     ⟨(some 13), none, (.bin .mul 3 (.v (.int .i64 9)) (.t 12))⟩,
     ⟨(some 14), none, (.mksl 5 1 1 (.int .u8 0) (.v (.int .i64 0)) (.t 13))⟩,
     ⟨(some 3), none, (.mov (.t 14))⟩])
  (.seq (.seq (.region false [] [
     ⟨(some 15), none, (.mov (.t 0))⟩,
     ⟨(some 16), none, (.len (.t 15))⟩,
     ⟨(some 17), none, (.bin .sub 3 (.t 16) (.v (.int .i64 1)))⟩,
     ⟨(some 4), none, (.mov (.t 17))⟩])
  (.block 0 (.loop (.seq (.seq (.region false [] [
       ⟨(some 18), none, (.mov (.t 4))⟩,
       ⟨(some 19), none, (.bin .geq 3 (.t 18) (.v (.int .i64 0)))⟩])
    (.cond (.t 19)
      .skip
      (.exit 0)))
    (.seq (.block 1 (.seq (.region false [] [
        ⟨(some 22), none, (.mov (.t 0))⟩,
        ⟨(some 23), none, (.mov (.t 4))⟩,
        ⟨(some 24), none, (.idx 1 (.t 22) (.t 23))⟩,
        ⟨(some 25), none, (.load 1 false (.t 24))⟩,
        ⟨(some 5), none, (.mov (.t 25))⟩])
     (.seq (.region false [] [
        ⟨(some 6), none, (.alloc 105 (.agg #[(.int .u8 0), (.int .u8 0), (.int .u8 0), (.int .u8 0), (.int .u8 0), (.int .u8 0), (.int .u8 0), (.int .u8 0), (.int .u8 0)]))⟩])
     (.seq (.seq (.region false [] [
        ⟨(some 7), none, (.mov (.v (.int .i64 8)))⟩])
     (.block 2 (.loop (.seq (.seq (.region false [] [
          ⟨(some 26), none, (.mov (.t 7))⟩,
          ⟨(some 27), none, (.bin .geq 3 (.t 26) (.v (.int .i64 0)))⟩])
       (.cond (.t 27)
         .skip
         (.exit 2)))
       (.seq (.block 3 (.seq (.region false [] [
           ⟨(some 30), none, (.mov (.t 7))⟩,
           ⟨(some 31), none, (.mov (.t 5))⟩,
           ⟨(some 32), none, (.bin .rem 99 (.t 31) (.v (.int .u32 10)))⟩,
           ⟨(some 33), none, (.bin .add 99 (.v (.int .u32 48)) (.t 32))⟩,
           ⟨(some 34), none, (.itoi .u8 (.t 33))⟩,
           ⟨(some 35), none, (.idxa 9 1 (.t 6) (.t 30))⟩,
           ⟨none, none, (.store 1 (.t 35) (.t 34))⟩])
        (.region false [] [
           ⟨(some 36), none, (.mov (.t 5))⟩,
           ⟨(some 37), none, (.bin .quo 99 (.t 36) (.v (.int .u32 10)))⟩,
           ⟨(some 5), none, (.mov (.t 37))⟩])))
       (.region false [] [
          ⟨(some 28), none, (.mov (.t 7))⟩,
          ⟨(some 29), none, (.bin .sub 3 (.t 28) (.v (.int .i64 1)))⟩,
          ⟨(some 7), none, (.mov (.t 29))⟩]))))))
     (.region false [] [
        ⟨(some 38), none, (.mov (.t 3))⟩,
        ⟨(some 39), none, (.slca 9 1 (.t 6))⟩,
        ⟨(some 40), none, (.app 5 1 1 (.int .u8 0) (.t 38) (.t 39))⟩,
        ⟨(some 3), none, (.mov (.t 40))⟩])))))
    (.region false [] [
       ⟨(some 20), none, (.mov (.t 4))⟩,
       ⟨(some 21), none, (.bin .sub 3 (.t 20) (.v (.int .i64 1)))⟩,
       ⟨(some 4), none, (.mov (.t 21))⟩]))))))
  (.seq (.region false [] [
     ⟨(some 41), none, (.mov (.t 3))⟩,
     ⟨(some 42), none, (.bts (.t 41))⟩,
     ⟨(some 43), none, (.call 85 [(.t 42), (.v (.string ⟨#[48]⟩))])⟩,
     ⟨(some 2), none, (.mov (.t 43))⟩])
  .ret)))))
theorem k76 : FnIs Tryd.prog 76 44 [.t 2] a76 := ⟨_, _, Tryd.func76, rfl, by kernel_rfl, by kernel_rfl, rfl⟩

abbrev bc (c : UInt8) : List AV := [.val (.int .u8 c.toNat)]
abbrev z8 : AV := .val (.int .u8 0)
/-- The text of a number. -/
def txt (n : Nat) : ByteArray := ⟨(txtL n).toArray⟩
theorem w8ch (x : Nat) : IntKind.u8.wrap (IntKind.u32.wrap (48 + (x : Int).tmod 10)) = ((ch (x % 10)).toNat : Int) := by
  have h : x % 10 < 10 := Nat.mod_lt _ (by decide)
  rw [ch_nat h, show (x : Int).tmod 10 = ((x % 10 : Nat) : Int) from rfl, w32 (by omega) (by omega)]
  show ((48 + ((x % 10 : Nat) : Int)) % 256 : Int) = _
  omega
theorem part_put (k : Nat) (T : List AV) (x : AV) : (List.replicate (k + 1) z8 ++ T).take k ++ x :: (List.replicate (k + 1) z8 ++ T).drop (k + 1) = List.replicate k z8 ++ x :: T := by
  rw [List.drop_left' List.length_replicate, List.replicate_succ', List.append_assoc, List.take_left' List.length_replicate]
theorem shut_chs (l : List Nat) : shutAll (l.map fun x => AV.val (Value.int .u8 (ch x).toNat)) = true := by
  induction l with
  | nil => rfl
  | cons x l ih => rw [List.map_cons, shutAll, ih]; rfl
set_option maxRecDepth 20000 in
set_option maxHeartbeats 1000000 in
theorem s76 (n : Nat) (hn0 : nl n ≤ 1000000) : Aw.Spec Tryd.prog 76 [] [nv n] (Gives (· = S (txt n))) := by
  refine Aw.Spec.regsW k76 rfl rfl fun E hn hnp hp => ?_
  unfold a76
  have pin : ∀ r, E.pin r = none := fun r => hp.none hnp (Nat.zero_le _)
  have hbs : bs = 1000000000 := rfl
  have hdL := dig_digs n
  have hvL := val_digs n
  have hlen : (digs n).length ≤ 1000000 := hn0
  rcases Nat.eq_zero_or_pos n with h0 | h0
  · subst h0
    have e0 : ((((digs 0).length : Nat) : Int) == 0) = true := by rw [digs_zero]; rfl
    refine AWp.ofD [] [] hn mixed rfl ?_
    simp (config := { maxSteps := 2000000 }) only [go_sem, ↓reduceIte, Int.reduceToNat, Nat.reduceMul, Int.reduceBEq, Int.reduceBNe, Nat.reduceBEq, Nat.reduceAdd, Nat.reduceSub, Nat.reduceLeDiff, Nat.reduceEqDiff, Nat.reduceLT, reduceCtorEq, e0]
    refine Retn.ret (π := []) hp hnp ⟨rfl, ?_⟩
    simp (config := { maxSteps := 2000000 }) only [go_sem, ↓reduceIte, Int.reduceToNat, Nat.reduceMul, Int.reduceBEq, Int.reduceBNe, Nat.reduceBEq, Nat.reduceAdd, Nat.reduceSub, Nat.reduceLeDiff, Nat.reduceEqDiff, Nat.reduceLT, reduceCtorEq]
    exact ⟨rfl, rfl⟩
  have hpos := nl_pos h0
  have e0 : ((((digs n).length : Nat) : Int) == 0) = false := by unfold nl at hpos; rw [beq_eq_false_iff_ne]; omega
  refine AWp.seq (AWp.ofD [] [] hn mixed rfl ?_)
  simp (config := { maxSteps := 2000000 }) only [go_sem, ↓reduceIte, Int.reduceToNat, Nat.reduceMul, Int.reduceBEq, Int.reduceBNe, Nat.reduceBEq, Nat.reduceAdd, Nat.reduceSub, Nat.reduceLeDiff, Nat.reduceEqDiff, Nat.reduceLT, reduceCtorEq]
  refine AWp.seq (AWp.ofD [] [] hn mixed rfl ?_)
  simp (config := { maxSteps := 2000000 }) only [go_sem, ↓reduceIte, Int.reduceToNat, Nat.reduceMul, Int.reduceBEq, Int.reduceBNe, Nat.reduceBEq, Nat.reduceAdd, Nat.reduceSub, Nat.reduceLeDiff, Nat.reduceEqDiff, Nat.reduceLT, reduceCtorEq, e0]
  have e1 : IntKind.i64.wrap (9 * ((digs n).length : Int)) = ((9 * (digs n).length : Nat) : Int) := by rw [w64 (by omega) (by omega)]; omega
  refine AWp.seq (AWp.region (AWpL.upto 3 hn rfl ?_))
  simp (config := { maxSteps := 2000000 }) only [go_sem, ↓reduceIte, Int.reduceToNat, Nat.reduceMul, Int.reduceBEq, Int.reduceBNe, Nat.reduceBEq, Nat.reduceAdd, Nat.reduceSub, Nat.reduceLeDiff, Nat.reduceEqDiff, Nat.reduceLT, reduceCtorEq, e1]
  refine AWpL.mkz (m := 0) (n := 9 * (digs n).length) rfl rfl (by rw [hn]; rfl) (Nat.zero_le _) (by omega) (by omega) (AWpL.ofM hn rfl ?_)
  have e2 : IntKind.i64.wrap (((digs n).length : Int) - 1) = ((digs n).length : Int) - 1 := w64 (by omega) (by omega)
  simp (config := { maxSteps := 2000000 }) only [go_sem, ↓reduceIte, Int.reduceToNat, Nat.reduceMul, Int.reduceBEq, Int.reduceBNe, Nat.reduceBEq, Nat.reduceAdd, Nat.reduceSub, Nat.reduceLeDiff, Nat.reduceEqDiff, Nat.reduceLT, reduceCtorEq]
  refine AWp.ofD [] [] hn mixed rfl ?_
  simp (config := { maxSteps := 2000000 }) only [go_sem, ↓reduceIte, Int.reduceToNat, Nat.reduceMul, Int.reduceBEq, Int.reduceBNe, Nat.reduceBEq, Nat.reduceAdd, Nat.reduceSub, Nat.reduceLeDiff, Nat.reduceEqDiff, Nat.reduceLT, reduceCtorEq, e2]
  refine AWp.loop (fun k s => ∃ (m : Nat) (Bs : List UInt8), k ≤ (digs n).length ∧ m = 9 * ((digs n).length - k) ∧ Bs = (decs m (val ((digs n).drop k))).map ch ∧ Weak E s ⟨[(0, nv n), (3, .hnd 0 0 m m false), (4, I ((k : Int) - 1))], [.arr 5 1 (Bs.map bc)]⟩) (n := (digs n).length)
    ⟨0, [], Nat.le_refl _, by omega, rfl, Weak.trans (weak_ent 3 (y := .hnd 0 0 0 0 false) (by rfl) (Ent.cap _ _ _ _ _)) (weak_to [0] hp hnp rfl (by simp (config := { maxSteps := 2000000 }) only [go_sem, ↓reduceIte, Int.reduceToNat, Nat.reduceMul, Int.reduceBEq, Int.reduceBNe, Nat.reduceBEq, Nat.reduceAdd, Nat.reduceSub, Nat.reduceLeDiff, Nat.reduceEqDiff, Nat.reduceLT, reduceCtorEq, Aw.pos]) (by simp (config := { maxSteps := 2000000 }) only [go_sem, ↓reduceIte, Int.reduceToNat, Nat.reduceMul, Int.reduceBEq, Int.reduceBNe, Nat.reduceBEq, Nat.reduceAdd, Nat.reduceSub, Nat.reduceLeDiff, Nat.reduceEqDiff, Nat.reduceLT, reduceCtorEq, Aw.renR, Aw.pos] <;> rfl))⟩ ?_
  rintro k s ⟨m, Bs, hk, hm, hB, hw⟩
  have hBl : Bs.length = m := by rw [hB, List.length_map, decs_len]
  refine AWp.weak hw (AWp.ofD [] [] hn mixed rfl ?_)
  cases k with
  | zero =>
    have e0 : decide (((0 : Int)) - 1 ≥ 0) = false := rfl
    simp (config := { maxSteps := 2000000 }) only [go_sem, ↓reduceIte, Int.reduceToNat, Nat.reduceMul, Int.reduceBEq, Int.reduceBNe, Nat.reduceBEq, Nat.reduceAdd, Nat.reduceSub, Nat.reduceLeDiff, Nat.reduceEqDiff, Nat.reduceLT, reduceCtorEq, e0]
    refine AWpL.weak (weak_freeze 0 rfl (pin 0) (by simp (config := { maxSteps := 2000000 }) only [go_sem, ↓reduceIte, Int.reduceToNat, Nat.reduceMul, Int.reduceBEq, Int.reduceBNe, Nat.reduceBEq, Nat.reduceAdd, Nat.reduceSub, Nat.reduceLeDiff, Nat.reduceEqDiff, Nat.reduceLT, reduceCtorEq, Nat.le_refl, List.length_map, hBl])) ?_
    have ef : ((Bs.map bc).take m) = Bs.map bc := List.take_of_length_le (by rw [List.length_map, hBl]; exact Nat.le_refl _)
    simp (config := { maxSteps := 2000000 }) only [go_sem, ↓reduceIte, Int.reduceToNat, Nat.reduceMul, Int.reduceBEq, Int.reduceBNe, Nat.reduceBEq, Nat.reduceAdd, Nat.reduceSub, Nat.reduceLeDiff, Nat.reduceEqDiff, Nat.reduceLT, reduceCtorEq, ef]
    refine AWpL.bts Bs rfl rfl (by rw [hn]; rfl) trivial (AWpL.ofM hn rfl ?_)
    simp (config := { maxSteps := 2000000 }) only [go_sem, ↓reduceIte, Int.reduceToNat, Nat.reduceMul, Int.reduceBEq, Int.reduceBNe, Nat.reduceBEq, Nat.reduceAdd, Nat.reduceSub, Nat.reduceLeDiff, Nat.reduceEqDiff, Nat.reduceLT, reduceCtorEq]
    (refine AWpL.calle (s85 _ 48 (by decide)) rfl (by rw [hn]; rfl) (by simp (config := { maxSteps := 2000000 }) only [go_sem, ↓reduceIte, Int.reduceToNat, Nat.reduceMul, Int.reduceBEq, Int.reduceBNe, Nat.reduceBEq, Nat.reduceAdd, Nat.reduceSub, Nat.reduceLeDiff, Nat.reduceEqDiff, Nat.reduceLT, reduceCtorEq]) (AWpL.ofM hn rfl ?_); simp (config := { maxSteps := 2000000 }) only [go_sem, ↓reduceIte, Int.reduceToNat, Nat.reduceMul, Int.reduceBEq, Int.reduceBNe, Nat.reduceBEq, Nat.reduceAdd, Nat.reduceSub, Nat.reduceLeDiff, Nat.reduceEqDiff, Nat.reduceLT, reduceCtorEq])
    refine Retn.ret (π := []) hp hnp ⟨rfl, ?_⟩
    simp (config := { maxSteps := 2000000 }) only [go_sem, ↓reduceIte, Int.reduceToNat, Nat.reduceMul, Int.reduceBEq, Int.reduceBNe, Nat.reduceBEq, Nat.reduceAdd, Nat.reduceSub, Nat.reduceLeDiff, Nat.reduceEqDiff, Nat.reduceLT, reduceCtorEq]
    rw [Nat.sub_zero] at hm
    rw [List.drop_zero, hvL] at hB
    refine ⟨rfl, ?_⟩
    show _ = AV.val (.string (txt n))
    unfold txt txtL
    rw [if_neg (by omega)]
    have : Bs = (decs (9 * nl n) n).map ch := by rw [hB, hm]
    rw [← this]
  | succ i =>
    have e00 : ((i + 1 : Nat) : Int) - 1 = (i : Int) := by omega
    have e0 : decide ((i : Int) ≥ 0) = true := decide_eq_true (by omega)
    have e1 := getD_mapD 0 uc (l := digs n) (i := i) (by omega)
    have hd := dget hdL i
    have hdr := val_drop1 (digs n) i
    generalize hdd : (digs n).getD i 0 = d at *
    rw [e00]
    simp (config := { maxSteps := 2000000 }) only [go_sem, ↓reduceIte, Int.reduceToNat, Nat.reduceMul, Int.reduceBEq, Int.reduceBNe, Nat.reduceBEq, Nat.reduceAdd, Nat.reduceSub, Nat.reduceLeDiff, Nat.reduceEqDiff, Nat.reduceLT, reduceCtorEq, e0, e1]
    (repeat (refine And.intro (by first | omega | (refine ⟨by omega, by omega⟩) | (refine ⟨by omega, by omega, by omega⟩) | (simp only [List.length_map, List.length_range, List.length_append, List.length_cons, List.length_nil, List.length_replicate, List.length_set]; omega) | (simp; omega) | (intro hgd; cases hgd) | (intro hgd; refine ⟨hgd, ?_⟩; first | omega | (refine ⟨by omega, by omega⟩) | (simp; omega))) ?_))
    refine AWp.loop (fun g s => ∃ j : Nat, j + g = 9 ∧ Weak E s ⟨[(0, nv n), (3, .hnd 0 0 m m false), (4, I i), (5, U ((d / 10 ^ j : Nat) : Int)), (6, .ptr 1 0 0), (7, I ((g : Int) - 1))], [.arr 5 1 (Bs.map bc), .box 105 (List.replicate g z8 ++ (decs j d).map fun x => AV.val (.int .u8 (ch x).toNat))]⟩) (n := 9)
      ⟨0, rfl, weak_to [0, 1] hp hnp rfl (by simp (config := { maxSteps := 2000000 }) only [go_sem, ↓reduceIte, Int.reduceToNat, Nat.reduceMul, Int.reduceBEq, Int.reduceBNe, Nat.reduceBEq, Nat.reduceAdd, Nat.reduceSub, Nat.reduceLeDiff, Nat.reduceEqDiff, Nat.reduceLT, reduceCtorEq, Aw.pos] <;> simp) (by simp (config := { maxSteps := 2000000 }) only [go_sem, ↓reduceIte, Int.reduceToNat, Nat.reduceMul, Int.reduceBEq, Int.reduceBNe, Nat.reduceBEq, Nat.reduceAdd, Nat.reduceSub, Nat.reduceLeDiff, Nat.reduceEqDiff, Nat.reduceLT, reduceCtorEq, Aw.renR, Aw.pos] <;> rfl)⟩ ?_
    rintro g s ⟨j, hj, hw⟩
    refine AWp.weak hw (AWp.ofD [] [] hn mixed rfl ?_)
    cases g with
    | succ g =>
      have e00 : ((g + 1 : Nat) : Int) - 1 = (g : Int) := by omega
      have e0 : decide ((g : Int) ≥ 0) = true := decide_eq_true (by omega)
      have hdj : d / 10 ^ j ≤ d := Nat.div_le_self _ _
      have e3 : IntKind.u32.wrap (((d / 10 ^ j : Nat) : Int).tdiv 10) = ((d / 10 ^ (j + 1) : Nat) : Int) := by
        rw [show ((d / 10 ^ j : Nat) : Int).tdiv 10 = ((d / 10 ^ j / 10 : Nat) : Int) from rfl, Nat.div_div_eq_div_mul, show 10 ^ j * 10 = 10 ^ (j + 1) from rfl]
        have : d / 10 ^ (j + 1) ≤ d := Nat.div_le_self _ _
        exact w32 (Int.natCast_nonneg _) (by omega)
      have e4 : IntKind.i64.wrap ((g : Int) - 1) = (g : Int) - 1 := w64 (by omega) (by omega)
      rw [e00]
      simp (config := { maxSteps := 2000000 }) only [go_sem, ↓reduceIte, Int.reduceToNat, Nat.reduceMul, Int.reduceBEq, Int.reduceBNe, Nat.reduceBEq, Nat.reduceAdd, Nat.reduceSub, Nat.reduceLeDiff, Nat.reduceEqDiff, Nat.reduceLT, reduceCtorEq, e0, e3, e4, w8ch, Nat.mul_one, part_put]
      refine ⟨by omega, ⟨by omega, by omega⟩, by rw [List.length_append, List.length_replicate]; omega, by omega, g, by omega, j + 1, by omega, weak_tm (by simp (config := { maxSteps := 2000000 }) only [go_sem, ↓reduceIte, Int.reduceToNat, Nat.reduceMul, Int.reduceBEq, Int.reduceBNe, Nat.reduceBEq, Nat.reduceAdd, Nat.reduceSub, Nat.reduceLeDiff, Nat.reduceEqDiff, Nat.reduceLT, reduceCtorEq])⟩
    | zero =>
      have e0 : decide (((0 : Int)) - 1 ≥ 0) = false := rfl
      have hj9 : j = 9 := by omega
      subst hj9
      simp (config := { maxSteps := 2000000 }) only [go_sem, ↓reduceIte, Int.reduceToNat, Nat.reduceMul, Int.reduceBEq, Int.reduceBNe, Nat.reduceBEq, Nat.reduceAdd, Nat.reduceSub, Nat.reduceLeDiff, Nat.reduceEqDiff, Nat.reduceLT, reduceCtorEq, e0, List.replicate_zero]
      refine AWpL.slca (r := 1) rfl rfl (by rw [List.length_map, decs_len]) (shut_chs _) (pin 1) (by rw [hn]; rfl) (AWpL.ofM hn rfl ?_)
      have hcs : ((decs 9 d).map fun x => AV.val (Value.int .u8 (ch x).toNat)).map (fun c => [c]) = ((decs 9 d).map ch).map bc := by
        rw [List.map_map, List.map_map]; rfl
      have hl9 : (((decs 9 d).map ch).map bc).length = 9 := by rw [List.length_map, List.length_map, decs_len]
      simp (config := { maxSteps := 2000000 }) only [go_sem, ↓reduceIte, Int.reduceToNat, Nat.reduceMul, Int.reduceBEq, Int.reduceBNe, Nat.reduceBEq, Nat.reduceAdd, Nat.reduceSub, Nat.reduceLeDiff, Nat.reduceEqDiff, Nat.reduceLT, reduceCtorEq, hcs]
      refine AWpL.app (r := 0) (els := Bs.map bc) (ys := ((decs 9 d).map ch).map bc) rfl rfl rfl rfl (by rw [hn]; rfl) (by rw [List.length_map, hBl]) (pin 0) trivial (fun el hm y hy => by
        obtain ⟨c, _, rfl⟩ := List.mem_map.1 hm
        rw [List.mem_singleton.1 hy]; rfl) (by rw [hl9]; omega) (by rw [hl9]; omega) (AWpL.ofM hn rfl ?_)
      have e4 : IntKind.i64.wrap ((i : Int) - 1) = (i : Int) - 1 := w64 (by omega) (by omega)
      have hap : Bs.map bc ++ ((decs 9 d).map ch).map bc = (Bs ++ (decs 9 d).map ch).map bc := by rw [List.map_append]
      simp (config := { maxSteps := 2000000 }) only [go_sem, ↓reduceIte, Int.reduceToNat, Nat.reduceMul, Int.reduceBEq, Int.reduceBNe, Nat.reduceBEq, Nat.reduceAdd, Nat.reduceSub, Nat.reduceLeDiff, Nat.reduceEqDiff, Nat.reduceLT, reduceCtorEq, hap, e4, decs_len]
      refine ⟨i, by omega, m + 9, Bs ++ (decs 9 d).map ch, by omega, by omega, ?_, weak_to [0] hp hnp rfl (by simp (config := { maxSteps := 2000000 }) only [go_sem, ↓reduceIte, Int.reduceToNat, Nat.reduceMul, Int.reduceBEq, Int.reduceBNe, Nat.reduceBEq, Nat.reduceAdd, Nat.reduceSub, Nat.reduceLeDiff, Nat.reduceEqDiff, Nat.reduceLT, reduceCtorEq, Aw.pos]) (by simp (config := { maxSteps := 2000000 }) only [go_sem, ↓reduceIte, Int.reduceToNat, Nat.reduceMul, Int.reduceBEq, Int.reduceBNe, Nat.reduceBEq, Nat.reduceAdd, Nat.reduceSub, Nat.reduceLeDiff, Nat.reduceEqDiff, Nat.reduceLT, reduceCtorEq, Aw.renR, Aw.pos] <;> rfl)⟩
      rw [hB, hdr, decs_split _ _ _ hd, List.map_append]
end Go.Proofs.YtjaakbkneeojnaaDoor
