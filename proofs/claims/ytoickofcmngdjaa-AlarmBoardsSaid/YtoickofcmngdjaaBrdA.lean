/- Alarms: a board; find, Raise, Ack. -/
import Derived.Test.YtoickofcmngdjaaAwZl
import Derived.Test.YtoickofcmngdjaaAlaF
set_option linter.unusedVariables false
set_option linter.unusedSimpArgs false
namespace Go.Proofs.Ytoickofcmngdjaa
open Go.Proofs.Ytoickofcmngdjaa.Aw
attribute [local go_sem] Int.natCast_zero Int.natCast_one bne_self_eq_false beq_self_eq_true Bool.not_true Bool.not_false Option.isSome_none Option.isSome_some Aw.bkM_nil Option.getD_some Option.getD_none Nat.sub_zero Int.toNat_zero Aw.frzS Aw.frzT Aw.frzA Aw.frzL Aw.frzR Aw.frzO Aw.frzOL Aw.frzOT Aw.frzOR Aw.killS Aw.mapT Aw.mapR Aw.killM Aw.resAVs Aw.resAV Aw.quietOps Aw.wpP Aw.wpT Aw.wpS Aw.AOp.mild List.getElem?_cons_zero List.getElem?_cons_succ Bool.and_false Bool.and_self Bool.false_and Aw.opOb Aw.gdB Aw.Rnd Aw.subTm List.length_map Int.toNat_natCast and_self Aw.SeqC Aw.stops Aw.Ends Aw.looks Aw.renA Aw.renL Aw.renT Aw.renS Aw.wpO Aw.aop Aw.putTm Aw.St.ev Aw.St.put Aw.St.putO Aw.binAV Aw.intBin Aw.strBin Aw.pickAV Aw.optInt Aw.AV.strip Aw.AV.guard Aw.AV.cells Aw.gdOb Aw.AOp.opds Aw.AOp.still Aw.ptrCells Aw.St.reg Aw.fillAV Aw.fillOb Aw.elsOb Aw.splice Aw.firm Aw.cellish Aw.AV.shut Aw.shutAll Aw.Seq Aw.Blk Aw.retS_nil Aw.mapA Aw.mapL Aw.borA Aw.borOb Aw.allOb Aw.tupOf Aw.params Aw.Opd.of Array.toList Value.cells List.map_cons List.map_nil List.getD_cons_zero List.getD_cons_succ List.getD_nil List.length_cons List.length_nil List.take_succ_cons List.take_zero List.take_nil List.drop_zero List.drop_succ_cons List.drop_nil List.set_cons_zero List.set_cons_succ List.append_nil List.nil_append List.cons_append List.all_cons List.all_nil cond_false cond_true if_true if_false true_and and_true Bool.and_true Bool.true_and Option.map_some Option.map_none false_implies forall_const implies_true forall_eq imp_self Bool.cond_false_right Bool.cond_true_left beq_true beq_false Bool.not_eq_true' Bool.false_eq_true Nat.zero_add Nat.add_zero Aw.eqCells Aw.stopDraw Aw.skipS Aw.exactCap Aw.revealS Aw.srcEls Aw.srcSz
attribute [local go_sem ↓] Aw.look_nil Aw.look_ite Aw.wpL_nil Aw.wpL_op Aw.wpL_gd Aw.wpQ_nil Aw.wpQ_op Aw.wpQ_gd Aw.wpC_draw Aw.wpC_reg Aw.wpC_skip Aw.wpC_ret Aw.wpC_exit Aw.wpC_seq Aw.wpC_block Aw.wpC_loop Aw.wpC_cond Aw.stopAt_nil Aw.stopAt_cons Aw.wpD_skip Aw.wpD_ret Aw.wpD_exit Aw.wpD_region Aw.wpD_draw Aw.wpM_nil Aw.wpM_op Aw.wpM_gd Aw.wpD_seq Aw.wpD_block Aw.wpD_loop Aw.wpD_cond

/- slices.IndexFunc[[]gridhall/api.AlarmEntry,gridhall/api.AlarmEntry] -/
def a42 : ACode :=
  (.seq (.region false [] [
     ⟨(some 4), none, (.mov (.v (.int .i64 0)))⟩])
  (.seq (.seq (.region false [] [
     ⟨(some 6), none, (.mov (.t 0))⟩,
     ⟨(some 7), none, (.len (.t 6))⟩,
     ⟨(some 8), none, (.mov (.v (.int .i64 0)))⟩])
  (.block 0 (.loop (.seq (.region false [] [
       ⟨(some 9), none, (.bin .lss 3 (.t 8) (.t 7))⟩])
    (.seq (.cond (.t 9)
      .skip
      (.exit 0))
    (.seq (.block 1 (.seq (.region false [] [
        ⟨(some 10), none, (.mov (.t 8))⟩,
        ⟨(some 5), none, (.mov (.t 10))⟩])
     (.seq (.region false [] [
        ⟨(some 11), none, (.mov (.t 1))⟩,
        ⟨(some 12), none, (.mov (.t 0))⟩,
        ⟨(some 13), none, (.mov (.t 5))⟩,
        ⟨(some 14), none, (.idx 3 (.t 12) (.t 13))⟩,
        ⟨(some 15), none, (.load 3 true (.t 14))⟩,
        ⟨(some 16), none, (.callv (.t 11) [(.t 15)])⟩])
     (.cond (.t 16)
       (.seq (.region false [] [
          ⟨(some 17), none, (.mov (.t 5))⟩,
          ⟨(some 4), none, (.mov (.t 17))⟩])
       .ret)
       .skip))))
    (.region false [] [
       ⟨(some 18), none, (.bin .add 3 (.t 8) (.v (.int .i64 1)))⟩,
       ⟨(some 8), none, (.mov (.t 18))⟩])))))))
  (.seq (.region false [] [
     ⟨(some 4), none, (.mov (.v (.int .i64 (-1))))⟩])
  .ret)))
theorem k42 : FnIs Try.prog 42 19 [.t 4] a42 := ⟨_, _, Try.func42, rfl, by kernel_rfl, by kernel_rfl, rfl⟩
/- (*gridhall/alarm.Board).find -/
def a30 : ACode :=
  (.seq (.region false [] [
     ⟨(some 3), none, (.box 9 (.t 1))⟩,
     ⟨(some 4), none, (.mov (.v (.int .i64 0)))⟩])
  (.seq (.region false [] [
     ⟨(some 5), none, (.mov (.t 0))⟩,
     ⟨(some 6), none, (.nilc (.t 5))⟩,
     ⟨(some 7), none, (.fld 1 (.t 6))⟩,
     ⟨(some 8), none, (.load 1 false (.t 7))⟩,
     ⟨(some 9), none, (.mkfn 43 [(.t 3)])⟩,
     ⟨(some 10), none, (.call 42 [(.t 8), (.t 9)])⟩,
     ⟨(some 4), none, (.mov (.t 10))⟩])
  .ret))
theorem k30 : FnIs Try.prog 30 11 [.t 4] a30 := ⟨_, _, Try.func30, rfl, by kernel_rfl, by kernel_rfl, rfl⟩
/- (*gridhall/alarm.Board).find$1 -/
def a43 : ACode :=
  (.seq (.region false [] [
     ⟨(some 2), none, (.box 48 (.t 0))⟩,
     ⟨(some 3), none, (.mov (.v (.bool false)))⟩])
  (.seq (.region false [] [
     ⟨(some 4), none, (.fld 0 (.t 2))⟩,
     ⟨(some 5), none, (.load 1 false (.t 4))⟩,
     ⟨(some 6), none, (.load 1 false (.t 1))⟩,
     ⟨(some 7), none, (.bin .eql 9 (.t 5) (.t 6))⟩,
     ⟨(some 3), none, (.mov (.t 7))⟩])
  .ret))
theorem k43 : FnIs Try.prog 43 8 [.t 3] a43 := ⟨_, _, Try.func43, rfl, by kernel_rfl, by kernel_rfl, rfl⟩
/- (*gridhall/alarm.Board).Raise -/
def a15 : ACode :=
  (.seq (.region false [] [
     ⟨(some 6), none, (.mov (.v (.int .i64 0)))⟩])
  (.seq (.block 0 (.seq (.region false [] [
      ⟨(some 8), none, (.mov (.t 1))⟩,
      ⟨(some 9), none, (.call 23 [(.t 8)])⟩,
      ⟨(some 10), none, (.un .not (.t 9))⟩,
      ⟨(some 7), none, (.mov (.t 10))⟩])
   (.cond (.t 7)
     (.seq (.region false [] [
        ⟨(some 6), none, (.mov (.v (.int .i64 6)))⟩])
     .ret)
     (.seq (.region false [] [
        ⟨(some 12), none, (.mov (.t 2))⟩,
        ⟨(some 13), none, (.mov (.t 0))⟩,
        ⟨(some 14), none, (.nilc (.t 13))⟩,
        ⟨(some 15), none, (.fld 2 (.t 14))⟩,
        ⟨(some 16), none, (.load 1 false (.t 15))⟩,
        ⟨(some 17), none, (.bin .lss 3 (.t 12) (.t 16))⟩,
        ⟨(some 18), none, (.mov (.t 17))⟩,
        ⟨(some 19), (some (18, false)), (.mov (.t 2))⟩,
        ⟨(some 20), (some (18, false)), (.bin .gtr 3 (.t 19) (.v (.int .i64 200000)))⟩,
        ⟨(some 21), none, (.pick (.t 18) (.v (.bool true)) (.t 20))⟩,
        ⟨(some 11), none, (.mov (.t 21))⟩])
     (.cond (.t 11)
       (.seq (.region false [] [
          ⟨(some 6), none, (.mov (.v (.int .i64 12)))⟩])
       .ret)
       (.seq (.region false [] [
          ⟨(some 23), none, (.mov (.t 0))⟩,
          ⟨(some 24), none, (.mov (.t 1))⟩,
          ⟨(some 25), none, (.call 30 [(.t 23), (.t 24)])⟩,
          ⟨(some 26), none, (.bin .geq 3 (.t 25) (.v (.int .i64 0)))⟩,
          ⟨(some 22), none, (.mov (.t 26))⟩])
       (.cond (.t 22)
         (.seq (.region false [] [
            ⟨(some 6), none, (.mov (.v (.int .i64 7)))⟩])
         .ret)
         (.seq (.region false [] [
            ⟨(some 28), none, (.mov (.t 0))⟩,
            ⟨(some 29), none, (.nilc (.t 28))⟩,
            ⟨(some 30), none, (.fld 1 (.t 29))⟩,
            ⟨(some 31), none, (.load 1 false (.t 30))⟩,
            ⟨(some 32), none, (.len (.t 31))⟩,
            ⟨(some 33), none, (.bin .eql 3 (.t 32) (.v (.int .i64 24)))⟩,
            ⟨(some 27), none, (.mov (.t 33))⟩])
         (.cond (.t 27)
           (.seq (.region false [] [
              ⟨(some 6), none, (.mov (.v (.int .i64 9)))⟩])
           .ret)
           .skip)))))))))
  (.seq (.region false [] [
     ⟨(some 34), none, (.mov (.t 0))⟩,
     ⟨(some 35), none, (.mov (.t 0))⟩,
     ⟨(some 36), none, (.nilc (.t 35))⟩,
     ⟨(some 37), none, (.fld 1 (.t 36))⟩,
     ⟨(some 38), none, (.load 1 false (.t 37))⟩,
     ⟨(some 39), none, (.mov (.t 1))⟩,
     ⟨(some 40), none, (.mov (.t 2))⟩,
     ⟨(some 41), none, (.build (.agg #[(.string ⟨#[]⟩), (.int .i64 0), (.bool false)]) [(0, (1, (.t 39))), (1, (1, (.t 40)))])⟩,
     ⟨(some 42), none, (.bsl 48 3 1 [(0, (.t 41))])⟩,
     ⟨(some 43), none, (.app 48 3 32 (.agg #[(.string ⟨#[]⟩), (.int .i64 0), (.bool false)]) (.t 38) (.t 42))⟩,
     ⟨(some 44), none, (.nilc (.t 34))⟩,
     ⟨(some 45), none, (.fld 1 (.t 44))⟩,
     ⟨none, none, (.store 1 (.t 45) (.t 43))⟩])
  (.seq (.region false [] [
     ⟨(some 46), none, (.mov (.t 0))⟩,
     ⟨(some 47), none, (.mov (.t 2))⟩,
     ⟨(some 48), none, (.nilc (.t 46))⟩,
     ⟨(some 49), none, (.fld 2 (.t 48))⟩,
     ⟨none, none, (.store 1 (.t 49) (.t 47))⟩])
  (.seq (.region false [] [
     ⟨(some 6), none, (.mov (.v (.int .i64 0)))⟩])
  .ret)))))
theorem k15 : FnIs Try.prog 15 50 [.t 6] a15 := ⟨_, _, Try.func15, rfl, by kernel_rfl, by kernel_rfl, rfl⟩
/- (*gridhall/alarm.Board).Ack -/
def a17 : ACode :=
  (.seq (.region false [] [
     ⟨(some 4), none, (.mov (.v (.int .i64 0)))⟩])
  (.seq (.region false [] [
     ⟨(some 6), none, (.mov (.t 0))⟩,
     ⟨(some 7), none, (.mov (.t 1))⟩,
     ⟨(some 8), none, (.call 30 [(.t 6), (.t 7)])⟩,
     ⟨(some 5), none, (.mov (.t 8))⟩])
  (.seq (.block 0 (.seq (.region false [] [
      ⟨(some 10), none, (.mov (.t 5))⟩,
      ⟨(some 11), none, (.bin .lss 3 (.t 10) (.v (.int .i64 0)))⟩,
      ⟨(some 9), none, (.mov (.t 11))⟩])
   (.cond (.t 9)
     (.seq (.region false [] [
        ⟨(some 4), none, (.mov (.v (.int .i64 8)))⟩])
     .ret)
     (.seq (.region false [] [
        ⟨(some 13), none, (.mov (.t 0))⟩,
        ⟨(some 14), none, (.nilc (.t 13))⟩,
        ⟨(some 15), none, (.fld 1 (.t 14))⟩,
        ⟨(some 16), none, (.load 1 false (.t 15))⟩,
        ⟨(some 17), none, (.mov (.t 5))⟩,
        ⟨(some 18), none, (.idx 3 (.t 16) (.t 17))⟩,
        ⟨(some 19), none, (.fld 2 (.t 18))⟩,
        ⟨(some 20), none, (.load 1 false (.t 19))⟩,
        ⟨(some 12), none, (.mov (.t 20))⟩])
     (.cond (.t 12)
       (.seq (.region false [] [
          ⟨(some 4), none, (.mov (.v (.int .i64 11)))⟩])
       .ret)
       .skip)))))
  (.seq (.region false [] [
     ⟨(some 21), none, (.mov (.t 0))⟩,
     ⟨(some 22), none, (.nilc (.t 21))⟩,
     ⟨(some 23), none, (.fld 1 (.t 22))⟩,
     ⟨(some 24), none, (.load 1 false (.t 23))⟩,
     ⟨(some 25), none, (.mov (.t 5))⟩,
     ⟨(some 26), none, (.idx 3 (.t 24) (.t 25))⟩,
     ⟨(some 27), none, (.fld 2 (.t 26))⟩,
     ⟨none, none, (.store 1 (.t 27) (.v (.bool true)))⟩])
  (.seq (.region false [] [
     ⟨(some 4), none, (.mov (.v (.int .i64 0)))⟩])
  .ret)))))
theorem k17 : FnIs Try.prog 17 28 [.t 4] a17 := ⟨_, _, Try.func17, rfl, by kernel_rfl, by kernel_rfl, rfl⟩

structure Ale where
  name : ByteArray
  time : Int
  ack : Bool
instance : Inhabited Ale := ⟨⟨⟨#[]⟩, 0, false⟩⟩
abbrev alc (a : Ale) : List AV := [S a.name, I a.time, B a.ack]
abbrev brdR (n : Option Bool) (f : Bool) (cs : List Cau) (l : List Ale) (last : Int) : List Reg := [.box 61 [cas n f cs, .hnd 1 0 l.length l.length false, I last], .arr 48 3 (l.map alc)]
theorem s42 (nl fl) (l : List (Ale)) (g : FuncId) (caps : List AV) (p : Ale → Bool) (hg : fnOk Try.prog g = true) (hc : renL [] caps = caps) (hq : ∀ x ∈ l, Aw.Spec Try.prog g [] ((fun a : Ale => .agg (alc a)) x :: caps) (Gives (· = B (p x)))) (hl : l.length ≤ 9223372036854775807) :
    Aw.Spec Try.prog 42 [] [.imm nl fl 3 (l.map alc), .fn g caps] (Gives (· = I (fIndex p 0 l))) := by
  refine Aw.Spec.givesD k42 mixed rfl rfl rfl fun E hn hnp hp => ?_
  unfold a42
  simp (config := { maxSteps := 2000000 }) only [go_sem, ↓reduceIte, Int.reduceToNat, Nat.reduceMul, Int.reduceBEq, Int.reduceBNe, Nat.reduceBEq, Nat.reduceAdd, Nat.reduceSub, Nat.reduceLeDiff, Nat.reduceEqDiff, Nat.reduceLT, reduceCtorEq]
  refine AWp.loop (fun k s => ∃ i : Nat, i + k = l.length ∧ fIndex p 0 l = fIndex p i (l.drop i) ∧ Weak E s ⟨[(0, .imm nl fl 3 (l.map alc)), (1, .fn g caps), (7, I l.length), (8, I i)], []⟩) (n := l.length)
    ⟨0, by omega, rfl, weak_to [] hp hnp rfl (by simp (config := { maxSteps := 2000000 }) only [go_sem, ↓reduceIte, Int.reduceToNat, Nat.reduceMul, Int.reduceBEq, Int.reduceBNe, Nat.reduceBEq, Nat.reduceAdd, Nat.reduceSub, Nat.reduceLeDiff, Nat.reduceEqDiff, Nat.reduceLT, reduceCtorEq, hc, Int.natCast_zero]) rfl⟩ ?_
  rintro k s ⟨i, hi, hs, hw⟩
  refine AWp.weak hw (AWp.ofD [] [] hn mixed rfl ?_)
  rcases Nat.lt_or_ge i l.length with hlt | hge
  · have e0 : decide ((i : Int) < (l.length : Int)) = true := decide_eq_true (by omega)
    have e1 := getD_map alc hlt
    have e2 : IntKind.i64.wrap ((i : Int) + 1) = ((i + 1 : Nat) : Int) := by rw [w64 (by omega) (by omega)]; omega
    have h2 := hq _ (List.getElem_mem hlt)
    rw [fIndex_drop hlt] at hs
    generalize l[i] = x at e1 h2 hs
    simp (config := { maxSteps := 2000000 }) only [go_sem, ↓reduceIte, Int.reduceToNat, Nat.reduceMul, Int.reduceBEq, Int.reduceBNe, Nat.reduceBEq, Nat.reduceAdd, Nat.reduceSub, Nat.reduceLeDiff, Nat.reduceEqDiff, Nat.reduceLT, reduceCtorEq, e0, e1]
    (repeat (refine And.intro (by first | omega | (refine ⟨by omega, by omega⟩) | (refine ⟨by omega, by omega, by omega⟩) | (simp only [List.length_map, List.length_range, List.length_append, List.length_cons, List.length_nil, List.length_replicate, List.length_set]; omega) | (simp; omega) | (intro hgd; cases hgd) | (intro hgd; refine ⟨hgd, ?_⟩; first | omega | (refine ⟨by omega, by omega⟩) | (simp; omega))) ?_))
    refine AWpL.callv rfl hg (by rw [← hc] at h2; exact h2) (by rw [hn]; rfl) fun rg v hv => ?_
    obtain ⟨rfl, rfl⟩ := hv
    rw [retS_nil]
    refine AWpL.ofM hn rfl ?_
    simp (config := { maxSteps := 2000000 }) only [go_sem, ↓reduceIte, Int.reduceToNat, Nat.reduceMul, Int.reduceBEq, Int.reduceBNe, Nat.reduceBEq, Nat.reduceAdd, Nat.reduceSub, Nat.reduceLeDiff, Nat.reduceEqDiff, Nat.reduceLT, reduceCtorEq, e2]
    refine ⟨fun h => ?_, fun h => ?_⟩
    · rw [hs, if_pos h]
    · rw [if_neg (by simp [h])] at hs
      exact ⟨k - 1, by omega, i + 1, by omega, hs, weak_to [] hp hnp rfl (by simp (config := { maxSteps := 2000000 }) only [go_sem, ↓reduceIte, Int.reduceToNat, Nat.reduceMul, Int.reduceBEq, Int.reduceBNe, Nat.reduceBEq, Nat.reduceAdd, Nat.reduceSub, Nat.reduceLeDiff, Nat.reduceEqDiff, Nat.reduceLT, reduceCtorEq, hc]) rfl⟩
  · have e0 : decide ((i : Int) < (l.length : Int)) = false := decide_eq_false (by omega)
    simp (config := { maxSteps := 2000000 }) only [go_sem, ↓reduceIte, Int.reduceToNat, Nat.reduceMul, Int.reduceBEq, Int.reduceBNe, Nat.reduceBEq, Nat.reduceAdd, Nat.reduceSub, Nat.reduceLeDiff, Nat.reduceEqDiff, Nat.reduceLT, reduceCtorEq, e0]
    rw [hs, List.drop_of_length_le hge]
    rfl

theorem s43 (a : Ale) (n : ByteArray) : Aw.Spec Try.prog 43 [] [.agg (alc a), .pim [S n]] (Gives (· = B (seq a.name n))) := by
  refine Aw.Spec.givesD k43 mixed rfl rfl rfl fun E hn hnp hp => ?_
  unfold a43
  simp (config := { maxSteps := 2000000 }) only [go_sem, ↓reduceIte, Int.reduceToNat, Nat.reduceMul, Int.reduceBEq, Int.reduceBNe, Nat.reduceBEq, Nat.reduceAdd, Nat.reduceSub, Nat.reduceLeDiff, Nat.reduceEqDiff, Nat.reduceLT, reduceCtorEq]
  rfl
theorem s30 (nl fl) (cs : List Cau) (l : List Ale) (last : Int) (n : ByteArray) (hl : l.length ≤ 1000) : Aw.Spec Try.prog 30 (brdR nl fl cs l last) [.ptr 0 0 0, S n] (fun rg v => rg = brdR nl fl cs l last ∧ v = I (fIndex (fun a => seq a.name n) 0 l)) := by
  refine Aw.Spec.of k30 rfl fun E hn hnp hp => ?_
  replace hnp : E.np = 2 := hnp
  have pin1 := hp.arr 1 rfl
  unfold a30
  refine AWp.ofD [] [] hn mixed rfl ?_
  simp (config := { maxSteps := 2000000 }) only [go_sem, ↓reduceIte, Int.reduceToNat, Nat.reduceMul, Int.reduceBEq, Int.reduceBNe, Nat.reduceBEq, Nat.reduceAdd, Nat.reduceSub, Nat.reduceLeDiff, Nat.reduceEqDiff, Nat.reduceLT, reduceCtorEq]
  have hI : Aw.Spec Try.prog 42 [] [.imm none false 3 (((l.map alc).drop 0).take l.length), .fn 43 [.pim [S n]]] (Gives (· = I (fIndex (fun a => seq a.name n) 0 l))) := by
    rw [List.drop_zero, List.take_of_length_le (by rw [List.length_map]; exact Nat.le_refl _)]
    exact s42 none false l 43 [.pim [S n]] (fun a => seq a.name n) (by kernel_rfl) rfl (fun a _ => s43 a n) (by omega)
  refine AWpL.calle hI rfl (by rw [hn]; rfl) (by simp (config := { maxSteps := 2000000 }) only [go_sem, ↓reduceIte, Int.reduceToNat, Nat.reduceMul, Int.reduceBEq, Int.reduceBNe, Nat.reduceBEq, Nat.reduceAdd, Nat.reduceSub, Nat.reduceLeDiff, Nat.reduceEqDiff, Nat.reduceLT, reduceCtorEq, Nat.le_refl]) (AWpL.ofM hn rfl ?_)
  simp (config := { maxSteps := 2000000 }) only [go_sem, ↓reduceIte, Int.reduceToNat, Nat.reduceMul, Int.reduceBEq, Int.reduceBNe, Nat.reduceBEq, Nat.reduceAdd, Nat.reduceSub, Nat.reduceLeDiff, Nat.reduceEqDiff, Nat.reduceLT, reduceCtorEq]
  refine Retn.ret (π := [0, 1]) hp hnp ⟨rfl, ?_⟩
  simp (config := { maxSteps := 2000000 }) only [go_sem, ↓reduceIte, Int.reduceToNat, Nat.reduceMul, Int.reduceBEq, Int.reduceBNe, Nat.reduceBEq, Nat.reduceAdd, Nat.reduceSub, Nat.reduceLeDiff, Nat.reduceEqDiff, Nat.reduceLT, reduceCtorEq, Aw.renR, Aw.pos]
def raiseE (l : List Ale) (last : Int) (n : ByteArray) (time : Int) : Int :=
  if nm 8 n = false then 6 else if time < last ∨ 200000 < time then 12 else if 0 ≤ fIndex (fun a => seq a.name n) 0 l then 7 else if l.length = 24 then 9 else 0
set_option maxRecDepth 100000 in
theorem s15 (nl fl) (cs : List Cau) (l : List Ale) (last : Int) (n : ByteArray) (time : Int) (hl : l.length ≤ 1000) (hn9 : n.size ≤ 9223372036854775807) : Aw.Spec Try.prog 15 (brdR nl fl cs l last) [.ptr 0 0 0, S n, I time]
    (fun rg v => v = I (raiseE l last n time) ∧ rg = if raiseE l last n time = 0 then brdR nl fl cs (l ++ [⟨n, time, false⟩]) time else brdR nl fl cs l last) := by
  refine Aw.Spec.of k15 rfl fun E hn hnp hp => ?_
  replace hnp : E.np = 2 := hnp
  have pin1 := hp.arr 1 rfl
  unfold a15
  refine AWp.ofD [] [] hn mixed rfl ?_
  simp (config := { maxSteps := 2000000 }) only [go_sem, ↓reduceIte, Int.reduceToNat, Nat.reduceMul, Int.reduceBEq, Int.reduceBNe, Nat.reduceBEq, Nat.reduceAdd, Nat.reduceSub, Nat.reduceLeDiff, Nat.reduceEqDiff, Nat.reduceLT, reduceCtorEq]
  (refine AWpL.calle (s23 n hn9) rfl (by rw [hn]; rfl) (by simp (config := { maxSteps := 2000000 }) only [go_sem, ↓reduceIte, Int.reduceToNat, Nat.reduceMul, Int.reduceBEq, Int.reduceBNe, Nat.reduceBEq, Nat.reduceAdd, Nat.reduceSub, Nat.reduceLeDiff, Nat.reduceEqDiff, Nat.reduceLT, reduceCtorEq]) (AWpL.ofM hn rfl ?_); simp (config := { maxSteps := 2000000 }) only [go_sem, ↓reduceIte, Int.reduceToNat, Nat.reduceMul, Int.reduceBEq, Int.reduceBNe, Nat.reduceBEq, Nat.reduceAdd, Nat.reduceSub, Nat.reduceLeDiff, Nat.reduceEqDiff, Nat.reduceLT, reduceCtorEq])
  by_cases h1 : nm 8 n = true
  · by_cases h2 : time < last ∨ 200000 < time
    · have e2 : (decide (time < last) || decide (time > 200000)) = true := by rw [Bool.or_eq_true, decide_eq_true_eq, decide_eq_true_eq]; omega
      simp (config := { maxSteps := 2000000 }) only [go_sem, ↓reduceIte, Int.reduceToNat, Nat.reduceMul, Int.reduceBEq, Int.reduceBNe, Nat.reduceBEq, Nat.reduceAdd, Nat.reduceSub, Nat.reduceLeDiff, Nat.reduceEqDiff, Nat.reduceLT, reduceCtorEq, h1, e2, Bool.false_or, Bool.true_or, Bool.or_true, Bool.or_false]
      refine Retn.ret (π := [0, 1]) hp hnp ⟨rfl, ?_⟩
      simp (config := { maxSteps := 2000000 }) only [go_sem, ↓reduceIte, Int.reduceToNat, Nat.reduceMul, Int.reduceBEq, Int.reduceBNe, Nat.reduceBEq, Nat.reduceAdd, Nat.reduceSub, Nat.reduceLeDiff, Nat.reduceEqDiff, Nat.reduceLT, reduceCtorEq, Aw.renR, Aw.pos]
      unfold raiseE
      rw [if_neg (by simp [h1]), if_pos h2]
      exact ⟨rfl, rfl⟩
    · have e2 : decide (time < last) = false := decide_eq_false (by omega)
      have e2' : decide (time > 200000) = false := decide_eq_false (by omega)
      simp (config := { maxSteps := 2000000 }) only [go_sem, ↓reduceIte, Int.reduceToNat, Nat.reduceMul, Int.reduceBEq, Int.reduceBNe, Nat.reduceBEq, Nat.reduceAdd, Nat.reduceSub, Nat.reduceLeDiff, Nat.reduceEqDiff, Nat.reduceLT, reduceCtorEq, h1, e2, e2', Bool.false_or, Bool.true_or, Bool.or_true, Bool.or_false]
      refine AWpL.callA [0, 1] (s30 nl fl cs l last n hl) rfl rfl (by rw [hn]; rfl) rfl (fun r hr => by { rcases List.mem_cons.1 hr with rfl | hr; exact .inl rfl; cases List.mem_singleton.1 hr; exact .inr pin1 }) fun rg v hv => ?_
      obtain ⟨rfl, rfl⟩ := hv
      refine ⟨Nat.le_refl _, AWpL.ofM hn rfl ?_⟩
      by_cases h3 : 0 ≤ fIndex (fun a => seq a.name n) 0 l
      · have e3 : decide (fIndex (fun a => seq a.name n) 0 l ≥ 0) = true := decide_eq_true h3
        simp (config := { maxSteps := 2000000 }) only [go_sem, ↓reduceIte, Int.reduceToNat, Nat.reduceMul, Int.reduceBEq, Int.reduceBNe, Nat.reduceBEq, Nat.reduceAdd, Nat.reduceSub, Nat.reduceLeDiff, Nat.reduceEqDiff, Nat.reduceLT, reduceCtorEq, Aw.retS, Aw.retRg, Aw.kpM, Aw.bkM, Aw.pos, Aw.isBox, e3]
        refine Retn.ret (π := [0, 1]) hp hnp ⟨rfl, ?_⟩
        simp (config := { maxSteps := 2000000 }) only [go_sem, ↓reduceIte, Int.reduceToNat, Nat.reduceMul, Int.reduceBEq, Int.reduceBNe, Nat.reduceBEq, Nat.reduceAdd, Nat.reduceSub, Nat.reduceLeDiff, Nat.reduceEqDiff, Nat.reduceLT, reduceCtorEq, Aw.renR, Aw.pos]
        unfold raiseE
        rw [if_neg (by simp [h1]), if_neg h2, if_pos h3]
        exact ⟨rfl, rfl⟩
      · have e3 : decide (fIndex (fun a => seq a.name n) 0 l ≥ 0) = false := decide_eq_false h3
        by_cases h4 : l.length = 24
        · have e4 : ((l.length : Int) == 24) = true := by rw [beq_iff_eq]; omega
          simp (config := { maxSteps := 2000000 }) only [go_sem, ↓reduceIte, Int.reduceToNat, Nat.reduceMul, Int.reduceBEq, Int.reduceBNe, Nat.reduceBEq, Nat.reduceAdd, Nat.reduceSub, Nat.reduceLeDiff, Nat.reduceEqDiff, Nat.reduceLT, reduceCtorEq, Aw.retS, Aw.retRg, Aw.kpM, Aw.bkM, Aw.pos, Aw.isBox, e3, e4]
          refine Retn.ret (π := [0, 1]) hp hnp ⟨rfl, ?_⟩
          simp (config := { maxSteps := 2000000 }) only [go_sem, ↓reduceIte, Int.reduceToNat, Nat.reduceMul, Int.reduceBEq, Int.reduceBNe, Nat.reduceBEq, Nat.reduceAdd, Nat.reduceSub, Nat.reduceLeDiff, Nat.reduceEqDiff, Nat.reduceLT, reduceCtorEq, Aw.renR, Aw.pos]
          unfold raiseE
          rw [if_neg (by simp [h1]), if_neg h2, if_neg h3, if_pos h4]
          exact ⟨rfl, rfl⟩
        · have e4 : ((l.length : Int) == 24) = false := by rw [beq_eq_false_iff_ne]; omega
          simp (config := { maxSteps := 2000000 }) only [go_sem, ↓reduceIte, Int.reduceToNat, Nat.reduceMul, Int.reduceBEq, Int.reduceBNe, Nat.reduceBEq, Nat.reduceAdd, Nat.reduceSub, Nat.reduceLeDiff, Nat.reduceEqDiff, Nat.reduceLT, reduceCtorEq, Aw.retS, Aw.retRg, Aw.kpM, Aw.bkM, Aw.pos, Aw.isBox, e3, e4]
          have hap : l.map alc ++ [alc (⟨n, time, false⟩ : Ale)] = (l ++ [(⟨n, time, false⟩ : Ale)]).map alc := by rw [List.map_append]; rfl
          have hle : (l ++ [(⟨n, time, false⟩ : Ale)]).length = l.length + 1 := by rw [List.length_append]; rfl
          refine AWpL.app (r := 1) (els := l.map alc) (ys := [alc (⟨n, time, false⟩ : Ale)]) rfl rfl rfl rfl (by rw [hn]; rfl) (by simp) pin1 (Nat.le_refl 1) (fun el hm y hy => by
            rw [List.mem_singleton.1 hm] at hy
            simp only [List.mem_cons, List.not_mem_nil, or_false] at hy
            rcases hy with rfl | rfl | rfl <;> rfl) (by simp only [List.length_cons, List.length_nil]; omega) (by simp only [List.length_cons, List.length_nil]; omega) (AWpL.ofM hn rfl ?_)
          simp (config := { maxSteps := 2000000 }) only [go_sem, ↓reduceIte, Int.reduceToNat, Nat.reduceMul, Int.reduceBEq, Int.reduceBNe, Nat.reduceBEq, Nat.reduceAdd, Nat.reduceSub, Nat.reduceLeDiff, Nat.reduceEqDiff, Nat.reduceLT, reduceCtorEq, hap]
          refine Retn.ret (π := [0, 1]) hp hnp ⟨rfl, ?_⟩
          simp (config := { maxSteps := 2000000 }) only [go_sem, ↓reduceIte, Int.reduceToNat, Nat.reduceMul, Int.reduceBEq, Int.reduceBNe, Nat.reduceBEq, Nat.reduceAdd, Nat.reduceSub, Nat.reduceLeDiff, Nat.reduceEqDiff, Nat.reduceLT, reduceCtorEq, Aw.renR, Aw.pos]
          unfold raiseE
          rw [if_neg (by simp [h1]), if_neg h2, if_neg h3, if_neg h4, if_pos rfl, ← hle]
          exact ⟨rfl, rfl⟩
  · have h1 := Bool.eq_false_iff.2 h1
    simp (config := { maxSteps := 2000000 }) only [go_sem, ↓reduceIte, Int.reduceToNat, Nat.reduceMul, Int.reduceBEq, Int.reduceBNe, Nat.reduceBEq, Nat.reduceAdd, Nat.reduceSub, Nat.reduceLeDiff, Nat.reduceEqDiff, Nat.reduceLT, reduceCtorEq, h1]
    refine Retn.ret (π := [0, 1]) hp hnp ⟨rfl, ?_⟩
    simp (config := { maxSteps := 2000000 }) only [go_sem, ↓reduceIte, Int.reduceToNat, Nat.reduceMul, Int.reduceBEq, Int.reduceBNe, Nat.reduceBEq, Nat.reduceAdd, Nat.reduceSub, Nat.reduceLeDiff, Nat.reduceEqDiff, Nat.reduceLT, reduceCtorEq, Aw.renR, Aw.pos]
    unfold raiseE
    rw [if_pos h1]
    exact ⟨rfl, rfl⟩
def ackE (l : List Ale) (n : ByteArray) : Int :=
  if fIndex (fun a => seq a.name n) 0 l < 0 then 8 else if (l.getD (fIndex (fun a => seq a.name n) 0 l).toNat default).ack = true then 11 else 0
def ackL (l : List Ale) (n : ByteArray) : List Ale :=
  if ackE l n = 0 then l.set (fIndex (fun a => seq a.name n) 0 l).toNat (⟨(l.getD (fIndex (fun a => seq a.name n) 0 l).toNat default).name, (l.getD (fIndex (fun a => seq a.name n) 0 l).toNat default).time, true⟩ : Ale) else l
theorem fIndex_rng {α : Type} (p : α → Bool) : ∀ (l : List α) (k : Nat), fIndex p k l = -1 ∨ ∃ j : Nat, fIndex p k l = ((k + j : Nat) : Int) ∧ ∃ h : j < l.length, p l[j] = true
  | [], k => .inl rfl
  | x :: l, k => by
    by_cases hx : p x = true
    · exact .inr ⟨0, by unfold fIndex; rw [if_pos hx]; rfl, Nat.succ_pos _, hx⟩
    · rcases fIndex_rng p l (k + 1) with h | ⟨j, h, hj, hp⟩
      · left; unfold fIndex; rw [if_neg hx]; exact h
      · right
        refine ⟨j + 1, ?_, Nat.succ_lt_succ hj, hp⟩
        unfold fIndex; rw [if_neg hx, h]; congr 1; omega
set_option maxRecDepth 100000 in
theorem s17 (nl fl) (cs : List Cau) (l : List Ale) (last : Int) (n : ByteArray) (hl : l.length ≤ 1000) : Aw.Spec Try.prog 17 (brdR nl fl cs l last) [.ptr 0 0 0, S n]
    (fun rg v => v = I (ackE l n) ∧ rg = brdR nl fl cs (ackL l n) last) := by
  refine Aw.Spec.of k17 rfl fun E hn hnp hp => ?_
  replace hnp : E.np = 2 := hnp
  have pin1 := hp.arr 1 rfl
  unfold a17
  refine AWp.ofD [] [] hn mixed rfl ?_
  simp (config := { maxSteps := 2000000 }) only [go_sem, ↓reduceIte, Int.reduceToNat, Nat.reduceMul, Int.reduceBEq, Int.reduceBNe, Nat.reduceBEq, Nat.reduceAdd, Nat.reduceSub, Nat.reduceLeDiff, Nat.reduceEqDiff, Nat.reduceLT, reduceCtorEq]
  refine AWpL.callA [0, 1] (s30 nl fl cs l last n hl) rfl rfl (by rw [hn]; rfl) rfl (fun r hr => by { rcases List.mem_cons.1 hr with rfl | hr; exact .inl rfl; cases List.mem_singleton.1 hr; exact .inr pin1 }) fun rg v hv => ?_
  obtain ⟨rfl, rfl⟩ := hv
  refine ⟨Nat.le_refl _, AWpL.ofM hn rfl ?_⟩
  rcases fIndex_rng (fun a : Ale => seq a.name n) l 0 with h | ⟨j, h, hj, -⟩
  · have ha : ackE l n = 8 := by unfold ackE; rw [if_pos (by omega)]
    have hb : ackL l n = l := by unfold ackL; rw [ha, if_neg (by decide)]
    have e1 : decide ((-1 : Int) < 0) = true := by decide
    rw [h]
    simp (config := { maxSteps := 2000000 }) only [go_sem, ↓reduceIte, Int.reduceToNat, Nat.reduceMul, Int.reduceBEq, Int.reduceBNe, Nat.reduceBEq, Nat.reduceAdd, Nat.reduceSub, Nat.reduceLeDiff, Nat.reduceEqDiff, Nat.reduceLT, reduceCtorEq, Aw.retS, Aw.retRg, Aw.kpM, Aw.bkM, Aw.pos, Aw.isBox, e1]
    refine Retn.ret (π := [0, 1]) hp hnp ⟨rfl, ?_⟩
    simp (config := { maxSteps := 2000000 }) only [go_sem, ↓reduceIte, Int.reduceToNat, Nat.reduceMul, Int.reduceBEq, Int.reduceBNe, Nat.reduceBEq, Nat.reduceAdd, Nat.reduceSub, Nat.reduceLeDiff, Nat.reduceEqDiff, Nat.reduceLT, reduceCtorEq, Aw.renR, Aw.pos]
    rw [ha, hb]
    exact ⟨rfl, rfl⟩
  · rw [Nat.zero_add] at h
    have e1 : decide ((j : Int) < 0) = false := by rw [decide_eq_false_iff_not]; omega
    have e3 := getD_map alc hj
    have hd : l.getD j default = l[j] := by rw [List.getD_eq_getElem?_getD, List.getElem?_eq_getElem hj]; rfl
    have ha : ackE l n = if l[j].ack = true then 11 else 0 := by unfold ackE; rw [h, if_neg (by omega), Int.toNat_natCast, hd]
    rw [h]
    cases hk : l[j].ack with
    | true =>
      rw [hk, if_pos rfl] at ha
      have hb : ackL l n = l := by unfold ackL; rw [ha, if_neg (by decide)]
      simp (config := { maxSteps := 2000000 }) only [go_sem, ↓reduceIte, Int.reduceToNat, Nat.reduceMul, Int.reduceBEq, Int.reduceBNe, Nat.reduceBEq, Nat.reduceAdd, Nat.reduceSub, Nat.reduceLeDiff, Nat.reduceEqDiff, Nat.reduceLT, reduceCtorEq, Aw.retS, Aw.retRg, Aw.kpM, Aw.bkM, Aw.pos, Aw.isBox, e1, e3, hk]
      refine ⟨by omega, hj, ?_⟩
      refine Retn.ret (π := [0, 1]) hp hnp ⟨rfl, ?_⟩
      simp (config := { maxSteps := 2000000 }) only [go_sem, ↓reduceIte, Int.reduceToNat, Nat.reduceMul, Int.reduceBEq, Int.reduceBNe, Nat.reduceBEq, Nat.reduceAdd, Nat.reduceSub, Nat.reduceLeDiff, Nat.reduceEqDiff, Nat.reduceLT, reduceCtorEq, Aw.renR, Aw.pos]
      rw [ha, hb]
      exact ⟨rfl, rfl⟩
    | false =>
      rw [hk, if_neg (by decide)] at ha
      have hb : ackL l n = l.set j (⟨l[j].name, l[j].time, true⟩ : Ale) := by unfold ackL; rw [ha, if_pos rfl, h, Int.toNat_natCast, hd]
      simp (config := { maxSteps := 2000000 }) only [go_sem, ↓reduceIte, Int.reduceToNat, Nat.reduceMul, Int.reduceBEq, Int.reduceBNe, Nat.reduceBEq, Nat.reduceAdd, Nat.reduceSub, Nat.reduceLeDiff, Nat.reduceEqDiff, Nat.reduceLT, reduceCtorEq, Aw.retS, Aw.retRg, Aw.kpM, Aw.bkM, Aw.pos, Aw.isBox, e1, e3, hk]
      have hset : (l.map alc).set j [S l[j].name, I l[j].time, .val (.bool true)] = (l.set j (⟨l[j].name, l[j].time, true⟩ : Ale)).map alc := by rw [List.map_set]
      have hlen : (l.set j (⟨l[j].name, l[j].time, true⟩ : Ale)).length = l.length := List.length_set
      refine ⟨by omega, hj, by omega, hj, ?_⟩
      rw [hset]
      refine Retn.ret (π := [0, 1]) hp hnp ⟨rfl, ?_⟩
      simp (config := { maxSteps := 2000000 }) only [go_sem, ↓reduceIte, Int.reduceToNat, Nat.reduceMul, Int.reduceBEq, Int.reduceBNe, Nat.reduceBEq, Nat.reduceAdd, Nat.reduceSub, Nat.reduceLeDiff, Nat.reduceEqDiff, Nat.reduceLT, reduceCtorEq, Aw.renR, Aw.pos]
      rw [ha, hb]
      unfold brdR
      rw [hlen]
      exact ⟨rfl, rfl⟩
end Go.Proofs.Ytoickofcmngdjaa
