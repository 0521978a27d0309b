/- Alarms: a board; All, Shown. -/
import Derived.Test.YtoickofcmngdjaaAwZl
import Derived.Test.YtoickofcmngdjaaBrdE
set_option linter.unusedVariables false
set_option linter.unusedSimpArgs false
namespace Go.Proofs.Ytoickofcmngdjaa
open Go.Proofs.Ytoickofcmngdjaa.Aw
attribute [local go_sem] Int.natCast_zero Int.natCast_one bne_self_eq_false beq_self_eq_true Bool.not_true Bool.not_false Option.isSome_none Option.isSome_some Aw.bkM_nil Option.getD_some Option.getD_none Nat.sub_zero Int.toNat_zero Aw.frzS Aw.frzT Aw.frzA Aw.frzL Aw.frzR Aw.frzO Aw.frzOL Aw.frzOT Aw.frzOR Aw.killS Aw.mapT Aw.mapR Aw.killM Aw.resAVs Aw.resAV Aw.quietOps Aw.wpP Aw.wpT Aw.wpS Aw.AOp.mild List.getElem?_cons_zero List.getElem?_cons_succ Bool.and_false Bool.and_self Bool.false_and Aw.opOb Aw.gdB Aw.Rnd Aw.subTm List.length_map Int.toNat_natCast and_self Aw.SeqC Aw.stops Aw.Ends Aw.looks Aw.renA Aw.renL Aw.renT Aw.renS Aw.wpO Aw.aop Aw.putTm Aw.St.ev Aw.St.put Aw.St.putO Aw.binAV Aw.intBin Aw.strBin Aw.pickAV Aw.optInt Aw.AV.strip Aw.AV.guard Aw.AV.cells Aw.gdOb Aw.AOp.opds Aw.AOp.still Aw.ptrCells Aw.St.reg Aw.fillAV Aw.fillOb Aw.elsOb Aw.splice Aw.firm Aw.cellish Aw.AV.shut Aw.shutAll Aw.Seq Aw.Blk Aw.retS_nil Aw.mapA Aw.mapL Aw.borA Aw.borOb Aw.allOb Aw.tupOf Aw.params Aw.Opd.of Array.toList Value.cells List.map_cons List.map_nil List.getD_cons_zero List.getD_cons_succ List.getD_nil List.length_cons List.length_nil List.take_succ_cons List.take_zero List.take_nil List.drop_zero List.drop_succ_cons List.drop_nil List.set_cons_zero List.set_cons_succ List.append_nil List.nil_append List.cons_append List.all_cons List.all_nil cond_false cond_true if_true if_false true_and and_true Bool.and_true Bool.true_and Option.map_some Option.map_none false_implies forall_const implies_true forall_eq imp_self Bool.cond_false_right Bool.cond_true_left beq_true beq_false Bool.not_eq_true' Bool.false_eq_true Nat.zero_add Nat.add_zero Aw.eqCells Aw.stopDraw Aw.skipS Aw.exactCap Aw.revealS Aw.srcEls Aw.srcSz
attribute [local go_sem ↓] Aw.look_nil Aw.look_ite Aw.wpL_nil Aw.wpL_op Aw.wpL_gd Aw.wpQ_nil Aw.wpQ_op Aw.wpQ_gd Aw.wpC_draw Aw.wpC_reg Aw.wpC_skip Aw.wpC_ret Aw.wpC_exit Aw.wpC_seq Aw.wpC_block Aw.wpC_loop Aw.wpC_cond Aw.stopAt_nil Aw.stopAt_cons Aw.wpD_skip Aw.wpD_ret Aw.wpD_exit Aw.wpD_region Aw.wpD_draw Aw.wpM_nil Aw.wpM_op Aw.wpM_gd Aw.wpD_seq Aw.wpD_block Aw.wpD_loop Aw.wpD_cond

/- slices.Clone[[]gridhall/api.AlarmEntry,gridhall/api.AlarmEntry] -/
def a34 : ACode :=
  (.seq (.region false [] [
     ⟨(some 2), none, (.mov (.v (.slice none 0 0)))⟩])
  (.seq (.seq (.region false [] [
     ⟨(some 3), none, (.mov (.t 0))⟩,
     ⟨(some 4), none, (.nilS false (.t 3))⟩])
  (.cond (.t 4)
    (.seq (.region false [] [
       ⟨(some 2), none, (.mov (.v (.slice none 0 0)))⟩])
    .ret)
    .skip))
  (.seq (.region false [] [
     ⟨(some 5), none, (.bsl 48 3 0 [])⟩,
     ⟨(some 6), none, (.mov (.t 0))⟩,
     ⟨(some 7), none, (.app 48 3 32 (.agg #[(.string ⟨#[]⟩), (.int .i64 0), (.bool false)]) (.t 5) (.t 6))⟩,
     ⟨(some 2), none, (.mov (.t 7))⟩])
  .ret)))
theorem k34 : FnIs Try.prog 34 8 [.t 2] a34 := ⟨_, _, Try.func34, rfl, by kernel_rfl, by kernel_rfl, rfl⟩
/- (*gridhall/alarm.Board).All -/
def a22 : ACode :=
  (.seq (.region false [] [
     ⟨(some 2), none, (.mov (.v (.slice none 0 0)))⟩])
  (.seq (.region false [] [
     ⟨(some 4), none, (.mov (.t 0))⟩,
     ⟨(some 5), none, (.nilc (.t 4))⟩,
     ⟨(some 6), none, (.fld 1 (.t 5))⟩,
     ⟨(some 7), none, (.load 1 false (.t 6))⟩,
     ⟨(some 8), none, (.call 34 [(.t 7)])⟩,
     ⟨(some 3), none, (.mov (.t 8))⟩])
  (.seq (.region false [] [
     ⟨(some 9), none, (.mov (.t 3))⟩,
     ⟨(some 10), none, (.call 35 [(.t 9), (.v (.func (.func 36) #[] #[]))])⟩])
  (.seq (.region false [] [
     ⟨(some 11), none, (.mov (.t 3))⟩,
     ⟨(some 2), none, (.mov (.t 11))⟩])
  .ret))))
theorem k22 : FnIs Try.prog 22 12 [.t 2] a22 := ⟨_, _, Try.func22, rfl, by kernel_rfl, by kernel_rfl, rfl⟩
/- (*gridhall/alarm.Board).Shown -/
def a20 : ACode :=
  (.seq (.region false [] [
     ⟨(some 2), none, (.mov (.v (.slice none 0 0)))⟩])
  (.seq (.region false [] [
     ⟨(some 3), none, (.mov (.v (.slice none 0 0)))⟩])
  (.seq (.seq (.region false [] [
     ⟨(some 11), none, (.mov (.t 0))⟩,
     ⟨(some 12), none, (.nilc (.t 11))⟩,
     ⟨(some 13), none, (.fld 1 (.t 12))⟩,
     ⟨(some 14), none, (.load 1 false (.t 13))⟩,
     ⟨(some 15), none, (.len (.t 14))⟩,
     ⟨(some 16), none, (.mov (.v (.int .i64 0)))⟩])
  (.block 0 (.loop (.seq (.region false [] [
       ⟨(some 17), none, (.bin .lss 3 (.t 16) (.t 15))⟩])
    (.seq (.cond (.t 17)
      .skip
      (.exit 0))
    (.seq (.block 1 (.seq (.region false [] [
        ⟨(some 18), none, (.idx 3 (.t 14) (.t 16))⟩,
        ⟨(some 19), none, (.load 3 true (.t 18))⟩,
        ⟨(some 5), none, (.alloc 48 (.agg #[(.string ⟨#[]⟩), (.int .i64 0), (.bool false)]))⟩,
        ⟨none, none, (.store 3 (.t 5) (.t 19))⟩])
     (.region false [] [
        ⟨(some 20), none, (.mov (.t 3))⟩,
        ⟨(some 21), none, (.fld 0 (.t 5))⟩,
        ⟨(some 22), none, (.load 1 false (.t 21))⟩,
        ⟨(some 23), none, (.bsl 9 1 1 [(0, (.t 22))])⟩,
        ⟨(some 24), none, (.app 9 1 16 (.string ⟨#[]⟩) (.t 20) (.t 23))⟩,
        ⟨(some 3), none, (.mov (.t 24))⟩])))
    (.region false [] [
       ⟨(some 25), none, (.bin .add 3 (.t 16) (.v (.int .i64 1)))⟩,
       ⟨(some 16), none, (.mov (.t 25))⟩])))))))
  (.seq (.region false [] [
     ⟨(some 27), none, (.mov (.t 0))⟩,
     ⟨(some 28), none, (.nilc (.t 27))⟩,
     ⟨(some 29), none, (.fld 0 (.t 28))⟩,
     ⟨(some 30), none, (.load 1 false (.t 29))⟩,
     ⟨(some 31), none, (.mov (.t 3))⟩,
     ⟨(some 32), none, (.call 11 [(.t 30), (.t 31)])⟩,
     ⟨(some 26), none, (.mov (.t 32))⟩,
     ⟨(some 33), none, (.ext 0 (.t 26))⟩,
     ⟨(some 34), none, (.ext 1 (.t 26))⟩,
     ⟨(some 6), none, (.mov (.t 33))⟩,
     ⟨(some 7), none, (.mov (.t 34))⟩])
  (.seq (.region false [] [
     ⟨(some 8), none, (.mov (.v (.slice none 0 0)))⟩])
  (.seq (.seq (.region false [] [
     ⟨(some 35), none, (.mov (.t 0))⟩,
     ⟨(some 36), none, (.call 22 [(.t 35)])⟩,
     ⟨(some 37), none, (.len (.t 36))⟩,
     ⟨(some 38), none, (.mov (.v (.int .i64 0)))⟩])
  (.block 2 (.loop (.seq (.region false [] [
       ⟨(some 39), none, (.bin .lss 3 (.t 38) (.t 37))⟩])
    (.seq (.cond (.t 39)
      .skip
      (.exit 2))
    (.seq (.block 3 (.seq (.region false [] [
        ⟨(some 40), none, (.idx 3 (.t 36) (.t 38))⟩,
        ⟨(some 41), none, (.load 3 true (.t 40))⟩,
        ⟨(some 10), none, (.alloc 48 (.agg #[(.string ⟨#[]⟩), (.int .i64 0), (.bool false)]))⟩,
        ⟨none, none, (.store 3 (.t 10) (.t 41))⟩])
     (.seq (.region false [] [
        ⟨(some 42), none, (.mov (.t 6))⟩,
        ⟨(some 43), none, (.fld 0 (.t 10))⟩,
        ⟨(some 44), none, (.load 1 false (.t 43))⟩,
        ⟨(some 45), none, (.call 10 [(.t 42), (.t 44)])⟩])
     (.cond (.t 45)
       (.region false [] [
          ⟨(some 46), none, (.mov (.t 8))⟩,
          ⟨(some 47), none, (.load 3 true (.t 10))⟩,
          ⟨(some 48), none, (.bsl 48 3 1 [(0, (.t 47))])⟩,
          ⟨(some 49), none, (.app 48 3 32 (.agg #[(.string ⟨#[]⟩), (.int .i64 0), (.bool false)]) (.t 46) (.t 48))⟩,
          ⟨(some 8), none, (.mov (.t 49))⟩])
       .skip))))
    (.region false [] [
       ⟨(some 50), none, (.bin .add 3 (.t 38) (.v (.int .i64 1)))⟩,
       ⟨(some 38), none, (.mov (.t 50))⟩])))))))
  (.seq (.region false [] [
     ⟨(some 51), none, (.mov (.t 8))⟩,
     ⟨(some 2), none, (.mov (.t 51))⟩])
  .ret)))))))
theorem k20 : FnIs Try.prog 20 52 [.t 2] a20 := ⟨_, _, Try.func20, rfl, by kernel_rfl, by kernel_rfl, rfl⟩

theorem o34 (nl full) (l : List (Ale)) (hl : l.length * 32 ≤ 140737488351232) : Aw.Spec Try.prog 34 [] [.imm nl full 3 (l.map alc)] (fun rg x => rg = [.arr 48 3 (l.map alc)] ∧ x = .hnd 0 0 l.length l.length false) := by
  refine Aw.Spec.nil1 fun b _ hb => ?_
  refine Aw.Spec.regsD k34 mixed rfl rfl rfl fun E hn hnp hp => ?_
  unfold a34
  simp (config := { maxSteps := 2000000 }) only [go_sem, ↓reduceIte, Int.reduceToNat, Nat.reduceMul, Int.reduceBEq, Int.reduceBNe, Nat.reduceBEq, Nat.reduceAdd, Nat.reduceSub, Nat.reduceLeDiff, Nat.reduceEqDiff, Nat.reduceLT, reduceCtorEq]
  refine ⟨fun h => ?_, fun h => ?_⟩
  · have hl0 : l = [] := by simpa using hb h
    subst hl0
    refine Retn.weak (weak_nil 2 48 3 (by rfl)) _ (Retn.ret (π := [0]) hp hnp ⟨rfl, ?_⟩)
    simp (config := { maxSteps := 2000000 }) only [go_sem, ↓reduceIte, Int.reduceToNat, Nat.reduceMul, Int.reduceBEq, Int.reduceBNe, Nat.reduceBEq, Nat.reduceAdd, Nat.reduceSub, Nat.reduceLeDiff, Nat.reduceEqDiff, Nat.reduceLT, reduceCtorEq, Aw.resAVs, Aw.resAV, Aw.renR, Aw.pos]
    all_goals (try exact ⟨rfl, rfl⟩)
  · refine AWpL.app (r := 0) (els := []) rfl rfl rfl rfl (by rw [hn]; rfl) rfl (hp.none hnp (Nat.zero_le _)) trivial (fun el hm x hx => ?_) (by simp; omega) (by simp; omega) (AWpL.ofM hn rfl ?_)
    · obtain ⟨y, _, rfl⟩ := List.mem_map.1 hm
      simp only [List.mem_cons, List.not_mem_nil, or_false] at hx
      first | (subst hx; rfl) | (rcases hx with rfl | rfl; all_goals rfl) | (rcases hx with rfl | rfl | rfl; all_goals rfl) | (rcases hx with rfl | rfl | rfl | rfl; all_goals rfl) | (rcases hx with rfl | rfl | rfl | rfl | rfl; all_goals rfl) | (rcases hx with rfl | rfl | rfl | rfl | rfl | rfl; all_goals rfl) | (rcases hx with rfl | rfl | rfl | rfl | rfl | rfl | rfl | rfl | rfl; all_goals rfl)
    simp (config := { maxSteps := 2000000 }) only [go_sem, ↓reduceIte, Int.reduceToNat, Nat.reduceMul, Int.reduceBEq, Int.reduceBNe, Nat.reduceBEq, Nat.reduceAdd, Nat.reduceSub, Nat.reduceLeDiff, Nat.reduceEqDiff, Nat.reduceLT, reduceCtorEq, Aw.killS, Aw.mapT, Aw.mapR, Aw.killM]
    refine Retn.ret (π := [0]) hp hnp ⟨rfl, ?_⟩
    simp (config := { maxSteps := 2000000 }) only [go_sem, ↓reduceIte, Int.reduceToNat, Nat.reduceMul, Int.reduceBEq, Int.reduceBNe, Nat.reduceBEq, Nat.reduceAdd, Nat.reduceSub, Nat.reduceLeDiff, Nat.reduceEqDiff, Nat.reduceLT, reduceCtorEq, Aw.resAVs, Aw.resAV, Aw.renR, Aw.pos]
    all_goals (try exact ⟨rfl, rfl⟩)

theorem niA (l : List Ale) : NIR (.arr 48 3 (l.map alc)) := by
  unfold NIR
  intro el hel
  obtain ⟨x, _, rfl⟩ := List.mem_map.1 hel
  simp [NIL, NI]
theorem entHnd (r off k : Nat) (ex : Bool) (sz : Nat) : Ent (.hnd r off 0 k ex) (.imm none false sz []) := fun w ok ρ v h => by
  unfold R at *
  unfold Rc
  rcases h with ⟨p, cc, ad, h1, h2, _⟩ | ⟨_, h2, _⟩
  · exact ⟨some ad, cc, h2, Nat.zero_le _, (fun q hq => by cases hq), (fun hA => by cases hA), (fun hf => by cases hf), fun a _ hne => absurd rfl hne⟩
  · exact ⟨none, 0, h2, Nat.zero_le _, (fun q hq => by cases hq), (fun _ => rfl), (fun hf => by cases hf), fun a _ hne => absurd rfl hne⟩
set_option maxRecDepth 100000 in
theorem s22 (nl fl) (cs : List Cau) (l : List Ale) (last : Int) (hl : l.length ≤ 12) (ht : Tim l) : Aw.Spec Try.prog 22 (brdR nl fl cs l last) [.ptr 0 0 0]
    (fun rg v => rg = brdR nl fl cs l last ∧ ∃ l', Srt l l' ∧ v = .imm none false 3 (l'.map alc)) := by
  refine Aw.Spec.of k22 rfl fun E hn hnp hp => ?_
  replace hnp : E.np = 2 := hnp
  have pin1 := hp.arr 1 rfl
  unfold a22
  have hI : Aw.Spec Try.prog 34 [] [.imm none false 3 (((l.map alc).drop 0).take l.length)] (fun rg x => rg = [.arr 48 3 (l.map alc)] ∧ x = .hnd 0 0 l.length l.length false) := by
    rw [List.drop_zero, List.take_of_length_le (by rw [List.length_map]; exact Nat.le_refl _)]
    exact o34 none false l (by omega)
  refine AWp.ofD [] [] hn mixed rfl ?_
  simp (config := { maxSteps := 2000000 }) only [go_sem, ↓reduceIte, Int.reduceToNat, Nat.reduceMul, Int.reduceBEq, Int.reduceBNe, Nat.reduceBEq, Nat.reduceAdd, Nat.reduceSub, Nat.reduceLeDiff, Nat.reduceEqDiff, Nat.reduceLT, reduceCtorEq]
  refine AWpL.callb hI (by rw [hn]; rfl) (by simp (config := { maxSteps := 2000000 }) only [go_sem, ↓reduceIte, Int.reduceToNat, Nat.reduceMul, Int.reduceBEq, Int.reduceBNe, Nat.reduceBEq, Nat.reduceAdd, Nat.reduceSub, Nat.reduceLeDiff, Nat.reduceEqDiff, Nat.reduceLT, reduceCtorEq, Nat.le_refl]) fun rg v hv => ?_
  obtain ⟨rfl, rfl⟩ := hv
  refine ⟨⟨by unfold NI; trivial, fun g hg => by rw [List.mem_singleton.1 hg]; exact niA l⟩, ?_⟩
  rw [retS_new]
  refine AWpL.ofM hn rfl ?_
  have pin2 : E.pin 2 = none := hp.none hnp (Nat.le_refl _)
  simp (config := { maxSteps := 2000000 }) only [go_sem, ↓reduceIte, Int.reduceToNat, Nat.reduceMul, Int.reduceBEq, Int.reduceBNe, Nat.reduceBEq, Nat.reduceAdd, Nat.reduceSub, Nat.reduceLeDiff, Nat.reduceEqDiff, Nat.reduceLT, reduceCtorEq]
  rcases Nat.eq_zero_or_pos l.length with h0 | hpos
  · have hl0 : l = [] := List.eq_nil_of_length_eq_zero h0
    subst hl0
    refine AWpL.weak (weak_ent 3 (y := .imm none false 3 []) (by rfl) (entHnd _ _ _ _ _)) ?_
    refine AWpL.callA [2] (SpecK.spec (s35 [] hl ht)) rfl rfl (by rw [hn]; rfl) rfl (fun r hr => .inr (by cases List.mem_singleton.1 hr; exact pin2)) fun rg v hv => ?_
    obtain ⟨l', hs, rfl, rfl⟩ := hv
    refine ⟨Nat.le_refl _, AWpL.ofM hn rfl ?_⟩
    simp (config := { maxSteps := 2000000 }) only [go_sem, ↓reduceIte, Int.reduceToNat, Nat.reduceMul, Int.reduceBEq, Int.reduceBNe, Nat.reduceBEq, Nat.reduceAdd, Nat.reduceSub, Nat.reduceLeDiff, Nat.reduceEqDiff, Nat.reduceLT, reduceCtorEq, Aw.retS, Aw.retRg, Aw.kpM, Aw.bkM, Aw.pos, Aw.isBox]
    refine Retn.ret (π := [0, 1]) hp hnp ⟨rfl, ?_⟩
    simp (config := { maxSteps := 2000000 }) only [go_sem, ↓reduceIte, Int.reduceToNat, Nat.reduceMul, Int.reduceBEq, Int.reduceBNe, Nat.reduceBEq, Nat.reduceAdd, Nat.reduceSub, Nat.reduceLeDiff, Nat.reduceEqDiff, Nat.reduceLT, reduceCtorEq, Aw.renR, Aw.pos]
    exact ⟨rfl, [], ⟨.refl _, rfl⟩, rfl⟩
  · refine AWpL_callK [2] 3 (s35 l hl ht) rfl rfl (by rw [hn]; rfl) rfl (fun r hr => .inr (by cases List.mem_singleton.1 hr; exact pin2)) (by rfl) (by rfl) hpos (by decide) fun rg v hv => ?_
    obtain ⟨l', hs, rfl, rfl⟩ := hv
    refine ⟨Nat.le_refl _, AWpL.ofM hn rfl ?_⟩
    simp (config := { maxSteps := 2000000 }) only [go_sem, ↓reduceIte, Int.reduceToNat, Nat.reduceMul, Int.reduceBEq, Int.reduceBNe, Nat.reduceBEq, Nat.reduceAdd, Nat.reduceSub, Nat.reduceLeDiff, Nat.reduceEqDiff, Nat.reduceLT, reduceCtorEq, Aw.retS, Aw.retRg, Aw.kpM, Aw.bkM, Aw.pos, Aw.isBox]
    have hll := hs.len
    refine Retn.weak (weak_freeze 2 rfl pin2 (by simp (config := { maxSteps := 2000000 }) only [go_sem, ↓reduceIte, Int.reduceToNat, Nat.reduceMul, Int.reduceBEq, Int.reduceBNe, Nat.reduceBEq, Nat.reduceAdd, Nat.reduceSub, Nat.reduceLeDiff, Nat.reduceEqDiff, Nat.reduceLT, reduceCtorEq, hll, Nat.le_refl])) _ ?_
    have etk : List.take l.length (l'.map alc) = l'.map alc := List.take_of_length_le (by rw [List.length_map, hll]; exact Nat.le_refl _)
    simp (config := { maxSteps := 2000000 }) only [go_sem, ↓reduceIte, Int.reduceToNat, Nat.reduceMul, Int.reduceBEq, Int.reduceBNe, Nat.reduceBEq, Nat.reduceAdd, Nat.reduceSub, Nat.reduceLeDiff, Nat.reduceEqDiff, Nat.reduceLT, reduceCtorEq, etk]
    refine Retn.ret (π := [0, 1]) hp hnp ⟨rfl, ?_⟩
    simp (config := { maxSteps := 2000000 }) only [go_sem, ↓reduceIte, Int.reduceToNat, Nat.reduceMul, Int.reduceBEq, Int.reduceBNe, Nat.reduceBEq, Nat.reduceAdd, Nat.reduceSub, Nat.reduceLeDiff, Nat.reduceEqDiff, Nat.reduceLT, reduceCtorEq, Aw.renR, Aw.pos]
    exact ⟨l', hs, rfl⟩
def nms (l : List Ale) : List ByteArray := l.map Ale.name
def keepP (cs : List Cau) (l : List Ale) (a : Ale) : Bool := (causesL cs (nms l)).any (seq a.name)
theorem Tim.filter {l : List Ale} (h : Tim l) (p : Ale → Bool) : Tim (l.filter p) := by
  unfold Tim at *
  rw [List.pairwise_map] at *
  exact h.filter p
set_option maxRecDepth 100000 in
set_option maxHeartbeats 4000000 in
theorem s20 (nl fl) (cs : List Cau) (l : List Ale) (last : Int) (hl : l.length ≤ 12) (ht : Tim l) (hc : ∀ c ∈ cs, CauOk c) (hns : ∀ a ∈ l, a.name.size ≤ 9223372036854775807) : Aw.Spec Try.prog 20 (brdR nl fl cs l last) [.ptr 0 0 0]
    (fun rg v => rg = brdR nl fl cs l last ∧ ∃ sh, sh.Perm (l.filter (keepP cs l)) ∧ Tim sh ∧ v = .imm none false 3 (sh.map alc)) := by
  refine Aw.Spec.of k20 rfl fun E hn hnp hp => ?_
  replace hnp : E.np = 2 := hnp
  have pin1 := hp.arr 1 rfl
  have pin2 : E.pin 2 = none := hp.none hnp (Nat.le_refl _)
  unfold a20
  refine AWp.ofD [] [] hn mixed rfl ?_
  simp (config := { maxSteps := 2000000 }) only [go_sem, ↓reduceIte, Int.reduceToNat, Nat.reduceMul, Int.reduceBEq, Int.reduceBNe, Nat.reduceBEq, Nat.reduceAdd, Nat.reduceSub, Nat.reduceLeDiff, Nat.reduceEqDiff, Nat.reduceLT, reduceCtorEq]
  refine AWp.weak (weak_nil 3 9 1 rfl) ?_
  refine AWp.loop (fun k s => ∃ i : Nat, i + k = l.length ∧ Weak E s ⟨[(0, .ptr 0 0 0), (3, .hnd 2 0 i i false), (14, .hnd 1 0 l.length l.length false), (15, I l.length), (16, I i)], brdR nl fl cs l last ++ [.arr 9 1 ((nms (l.take i)).map sc)]⟩) (n := l.length)
    ⟨0, by omega, weak_to [0, 1, 2] hp hnp rfl (by simp (config := { maxSteps := 2000000 }) only [go_sem, ↓reduceIte, Int.reduceToNat, Nat.reduceMul, Int.reduceBEq, Int.reduceBNe, Nat.reduceBEq, Nat.reduceAdd, Nat.reduceSub, Nat.reduceLeDiff, Nat.reduceEqDiff, Nat.reduceLT, reduceCtorEq, Int.natCast_zero, Aw.pos]) (by simp (config := { maxSteps := 2000000 }) only [go_sem, ↓reduceIte, Int.reduceToNat, Nat.reduceMul, Int.reduceBEq, Int.reduceBNe, Nat.reduceBEq, Nat.reduceAdd, Nat.reduceSub, Nat.reduceLeDiff, Nat.reduceEqDiff, Nat.reduceLT, reduceCtorEq, Aw.renR, Aw.pos]; rfl)⟩ ?_
  rintro k s ⟨i, hik, hw⟩
  refine AWp.weak hw (AWp.ofD [] [] hn mixed rfl ?_)
  rcases Nat.lt_or_ge i l.length with hlt | hge
  · have e0 : decide ((i : Int) < (l.length : Int)) = true := decide_eq_true (by omega)
    have e1 := getD_map alc hlt
    have e2 : IntKind.i64.wrap ((i : Int) + 1) = ((i + 1 : Nat) : Int) := by rw [w64 (by omega) (by omega)]; omega
    have hap : (nms (l.take i)).map sc ++ [[S l[i].name]] = (nms (l.take (i + 1))).map sc := by
      unfold nms
      rw [take_get hlt, List.map_append, List.map_append]; rfl
    have hln : (nms (l.take i)).length = i := by unfold nms; rw [List.length_map, List.length_take]; omega
    simp (config := { maxSteps := 2000000 }) only [go_sem, ↓reduceIte, Int.reduceToNat, Nat.reduceMul, Int.reduceBEq, Int.reduceBNe, Nat.reduceBEq, Nat.reduceAdd, Nat.reduceSub, Nat.reduceLeDiff, Nat.reduceEqDiff, Nat.reduceLT, reduceCtorEq, e0, e1]
    (repeat (refine And.intro (by first | omega | (refine ⟨by omega, by omega⟩) | (refine ⟨by omega, by omega, by omega⟩) | (simp only [List.length_map, List.length_range, List.length_append, List.length_cons, List.length_nil, List.length_replicate, List.length_set]; omega) | (simp; omega) | (intro hgd; cases hgd) | (intro hgd; refine ⟨hgd, ?_⟩; first | omega | (refine ⟨by omega, by omega⟩) | (simp; omega))) ?_))
    refine AWpL.app (r := 2) (els := (nms (l.take i)).map sc) (ys := [[S l[i].name]]) rfl rfl rfl rfl (by rw [hn]; rfl) (by rw [List.length_map, hln]) pin2 (Nat.le_refl 1) (fun el hm y hy => by
      rw [List.mem_singleton.1 hm] at hy
      rw [List.mem_singleton.1 hy]; rfl) (by simp only [List.length_cons, List.length_nil]; omega) (by simp only [List.length_cons, List.length_nil]; omega) (AWpL.ofM hn rfl ?_)
    simp (config := { maxSteps := 2000000 }) only [go_sem, ↓reduceIte, Int.reduceToNat, Nat.reduceMul, Int.reduceBEq, Int.reduceBNe, Nat.reduceBEq, Nat.reduceAdd, Nat.reduceSub, Nat.reduceLeDiff, Nat.reduceEqDiff, Nat.reduceLT, reduceCtorEq, e2, hap]
    exact ⟨k - 1, by omega, i + 1, by omega, weak_to [0, 1, 2] hp hnp rfl (by simp (config := { maxSteps := 2000000 }) only [go_sem, ↓reduceIte, Int.reduceToNat, Nat.reduceMul, Int.reduceBEq, Int.reduceBNe, Nat.reduceBEq, Nat.reduceAdd, Nat.reduceSub, Nat.reduceLeDiff, Nat.reduceEqDiff, Nat.reduceLT, reduceCtorEq, Aw.pos]) (by simp (config := { maxSteps := 2000000 }) only [go_sem, ↓reduceIte, Int.reduceToNat, Nat.reduceMul, Int.reduceBEq, Int.reduceBNe, Nat.reduceBEq, Nat.reduceAdd, Nat.reduceSub, Nat.reduceLeDiff, Nat.reduceEqDiff, Nat.reduceLT, reduceCtorEq, Aw.renR, Aw.pos])⟩
  · have e0 : decide ((i : Int) < (l.length : Int)) = false := decide_eq_false (by omega)
    have eti : l.take i = l := List.take_of_length_le hge
    have hil : i = l.length := by omega
    subst hil
    simp (config := { maxSteps := 2000000 }) only [go_sem, ↓reduceIte, Int.reduceToNat, Nat.reduceMul, Int.reduceBEq, Int.reduceBNe, Nat.reduceBEq, Nat.reduceAdd, Nat.reduceSub, Nat.reduceLeDiff, Nat.reduceEqDiff, Nat.reduceLT, reduceCtorEq, e0, eti]
    have hnl : (nms l).length = l.length := List.length_map ..
    have etk : List.take l.length ((nms l).map sc) = (nms l).map sc := List.take_of_length_le (by rw [List.length_map, hnl]; exact Nat.le_refl _)
    refine AWpL.weak (weak_freeze 2 rfl pin2 (by simp (config := { maxSteps := 2000000 }) only [go_sem, ↓reduceIte, Int.reduceToNat, Nat.reduceMul, Int.reduceBEq, Int.reduceBNe, Nat.reduceBEq, Nat.reduceAdd, Nat.reduceSub, Nat.reduceLeDiff, Nat.reduceEqDiff, Nat.reduceLT, reduceCtorEq, hnl, Nat.le_refl])) ?_
    simp (config := { maxSteps := 2000000 }) only [go_sem, ↓reduceIte, Int.reduceToNat, Nat.reduceMul, Int.reduceBEq, Int.reduceBNe, Nat.reduceBEq, Nat.reduceAdd, Nat.reduceSub, Nat.reduceLeDiff, Nat.reduceEqDiff, Nat.reduceLT, reduceCtorEq, etk]
    refine AWpL.callA [] (s11 nl fl cs none false (nms l) hc (fun x hx => by
      obtain ⟨a, ha, rfl⟩ := List.mem_map.1 hx
      exact hns a ha)) rfl rfl (by rw [hn]; rfl) rfl (fun r hr => by cases hr) fun rg v hv => ?_
    obtain ⟨rfl, rfl⟩ := hv
    refine ⟨Nat.zero_le _, AWpL.ofM hn rfl ?_⟩
    simp (config := { maxSteps := 2000000 }) only [go_sem, ↓reduceIte, Int.reduceToNat, Nat.reduceMul, Int.reduceBEq, Int.reduceBNe, Nat.reduceBEq, Nat.reduceAdd, Nat.reduceSub, Nat.reduceLeDiff, Nat.reduceEqDiff, Nat.reduceLT, reduceCtorEq, Aw.retS, Aw.retRg, Aw.kpM, Aw.bkM, Aw.pos, Aw.isBox]
    refine AWpL.callA [0, 1] (s22 nl fl cs l last hl ht) rfl rfl (by rw [hn]; rfl) rfl (fun r hr => by { rcases List.mem_cons.1 hr with rfl | hr; exact .inl rfl; cases List.mem_singleton.1 hr; exact .inr pin1 }) fun rg v hv => ?_
    obtain ⟨rfl, l', hs, rfl⟩ := hv
    have hll := hs.len
    refine ⟨Nat.le_refl _, AWpL.ofM hn rfl ?_⟩
    simp (config := { maxSteps := 2000000 }) only [go_sem, ↓reduceIte, Int.reduceToNat, Nat.reduceMul, Int.reduceBEq, Int.reduceBNe, Nat.reduceBEq, Nat.reduceAdd, Nat.reduceSub, Nat.reduceLeDiff, Nat.reduceEqDiff, Nat.reduceLT, reduceCtorEq, Aw.retS, Aw.retRg, Aw.kpM, Aw.bkM, Aw.pos, Aw.isBox]
    refine AWp.weak (weak_nil 8 48 3 rfl) ?_
    refine AWp.loop (fun k s => ∃ i : Nat, i + k = l'.length ∧ Weak E s ⟨[(0, .ptr 0 0 0), (6, .imm none false 1 ((causesL cs (nms l)).map sc)), (8, .hnd 2 0 ((l'.take i).filter (keepP cs l)).length ((l'.take i).filter (keepP cs l)).length false), (36, .imm none false 3 (l'.map alc)), (37, I l'.length), (38, I i)], brdR nl fl cs l last ++ [.arr 48 3 (((l'.take i).filter (keepP cs l)).map alc)]⟩) (n := l'.length)
      ⟨0, by omega, weak_to [0, 1, 3] hp hnp rfl (by simp (config := { maxSteps := 2000000 }) only [go_sem, ↓reduceIte, Int.reduceToNat, Nat.reduceMul, Int.reduceBEq, Int.reduceBNe, Nat.reduceBEq, Nat.reduceAdd, Nat.reduceSub, Nat.reduceLeDiff, Nat.reduceEqDiff, Nat.reduceLT, reduceCtorEq, Int.natCast_zero, Aw.pos]; rfl) (by simp (config := { maxSteps := 2000000 }) only [go_sem, ↓reduceIte, Int.reduceToNat, Nat.reduceMul, Int.reduceBEq, Int.reduceBNe, Nat.reduceBEq, Nat.reduceAdd, Nat.reduceSub, Nat.reduceLeDiff, Nat.reduceEqDiff, Nat.reduceLT, reduceCtorEq, Aw.renR, Aw.pos]; rfl)⟩ ?_
    clear hw hik hge e0 eti
    rintro k2 s2 ⟨i, hik, hw⟩
    refine AWp.weak hw (AWp.ofD [] [] hn mixed rfl ?_)
    rcases Nat.lt_or_ge i l'.length with hlt | hge
    · have e0 : decide ((i : Int) < (l'.length : Int)) = true := decide_eq_true (by omega)
      have e1 := getD_map alc hlt
      have e2 : IntKind.i64.wrap ((i : Int) + 1) = ((i + 1 : Nat) : Int) := by rw [w64 (by omega) (by omega)]; omega
      have hfs : (l'.take (i + 1)).filter (keepP cs l) = (l'.take i).filter (keepP cs l) ++ if keepP cs l l'[i] = true then [l'[i]] else [] := by
        rw [take_get hlt, List.filter_append]
        congr 1
        by_cases hk : keepP cs l l'[i] = true
        · rw [if_pos hk, List.filter_cons_of_pos hk]; rfl
        · rw [if_neg hk, List.filter_cons_of_neg hk]; rfl
      have hfl : ((l'.take i).filter (keepP cs l)).length ≤ i := Nat.le_trans (List.length_filter_le _ _) (by rw [List.length_take]; omega)
      simp (config := { maxSteps := 2000000 }) only [go_sem, ↓reduceIte, Int.reduceToNat, Nat.reduceMul, Int.reduceBEq, Int.reduceBNe, Nat.reduceBEq, Nat.reduceAdd, Nat.reduceSub, Nat.reduceLeDiff, Nat.reduceEqDiff, Nat.reduceLT, reduceCtorEq, e0, e1]
      (repeat (refine And.intro (by first | omega | (refine ⟨by omega, by omega⟩) | (refine ⟨by omega, by omega, by omega⟩) | (simp only [List.length_map, List.length_range, List.length_append, List.length_cons, List.length_nil, List.length_replicate, List.length_set]; omega) | (simp; omega) | (intro hgd; cases hgd) | (intro hgd; refine ⟨hgd, ?_⟩; first | omega | (refine ⟨by omega, by omega⟩) | (simp; omega))) ?_))
      (refine AWpL.calle (s10 none false (causesL cs (nms l)) l'[i].name (Nat.le_trans (causesL_len _ _) (by omega))) rfl (by rw [hn]; rfl) (by simp (config := { maxSteps := 2000000 }) only [go_sem, ↓reduceIte, Int.reduceToNat, Nat.reduceMul, Int.reduceBEq, Int.reduceBNe, Nat.reduceBEq, Nat.reduceAdd, Nat.reduceSub, Nat.reduceLeDiff, Nat.reduceEqDiff, Nat.reduceLT, reduceCtorEq]) (AWpL.ofM hn rfl ?_); simp (config := { maxSteps := 2000000 }) only [go_sem, ↓reduceIte, Int.reduceToNat, Nat.reduceMul, Int.reduceBEq, Int.reduceBNe, Nat.reduceBEq, Nat.reduceAdd, Nat.reduceSub, Nat.reduceLeDiff, Nat.reduceEqDiff, Nat.reduceLT, reduceCtorEq])
      refine ⟨fun hk => ?_, fun hk => ?_⟩
      · have hk : keepP cs l l'[i] = true := hk
        rw [if_pos hk] at hfs
        have hap : ((l'.take i).filter (keepP cs l)).map alc ++ [[S l'[i].name, I l'[i].time, B l'[i].ack]] = ((l'.take (i + 1)).filter (keepP cs l)).map alc := by rw [hfs, List.map_append]; rfl
        have hfn : ((l'.take (i + 1)).filter (keepP cs l)).length = ((l'.take i).filter (keepP cs l)).length + 1 := by rw [hfs, List.length_append]; rfl
        generalize hG : ((l'.take i).filter (keepP cs l)).length = g at *
        refine AWpL.app (r := 2) (els := ((l'.take i).filter (keepP cs l)).map alc) (ys := [[S l'[i].name, I l'[i].time, B l'[i].ack]]) rfl rfl rfl rfl (by rw [hn]; rfl) (by rw [List.length_map, hG]) pin2 (Nat.le_refl 1) (fun el hm y hy => by
          rw [List.mem_singleton.1 hm] at hy
          simp only [List.mem_cons, List.not_mem_nil, or_false] at hy
          rcases hy with rfl | rfl | rfl <;> rfl) (by simp only [List.length_cons, List.length_nil]; omega) (by simp only [List.length_cons, List.length_nil]; omega) (AWpL.ofM hn rfl ?_)
        simp (config := { maxSteps := 2000000 }) only [go_sem, ↓reduceIte, Int.reduceToNat, Nat.reduceMul, Int.reduceBEq, Int.reduceBNe, Nat.reduceBEq, Nat.reduceAdd, Nat.reduceSub, Nat.reduceLeDiff, Nat.reduceEqDiff, Nat.reduceLT, reduceCtorEq, e2, hap]
        exact ⟨k2 - 1, by omega, i + 1, by omega, weak_to [0, 1, 2] hp hnp rfl (by simp (config := { maxSteps := 2000000 }) only [go_sem, ↓reduceIte, Int.reduceToNat, Nat.reduceMul, Int.reduceBEq, Int.reduceBNe, Nat.reduceBEq, Nat.reduceAdd, Nat.reduceSub, Nat.reduceLeDiff, Nat.reduceEqDiff, Nat.reduceLT, reduceCtorEq, hfn, Aw.pos]) (by simp (config := { maxSteps := 2000000 }) only [go_sem, ↓reduceIte, Int.reduceToNat, Nat.reduceMul, Int.reduceBEq, Int.reduceBNe, Nat.reduceBEq, Nat.reduceAdd, Nat.reduceSub, Nat.reduceLeDiff, Nat.reduceEqDiff, Nat.reduceLT, reduceCtorEq, Aw.renR, Aw.pos])⟩
      · have hk : ¬keepP cs l l'[i] = true := by rw [Bool.not_eq_true]; exact hk
        rw [if_neg hk, List.append_nil] at hfs
        exact ⟨k2 - 1, by omega, i + 1, by omega, weak_to [0, 1, 2] hp hnp rfl (by simp (config := { maxSteps := 2000000 }) only [go_sem, ↓reduceIte, Int.reduceToNat, Nat.reduceMul, Int.reduceBEq, Int.reduceBNe, Nat.reduceBEq, Nat.reduceAdd, Nat.reduceSub, Nat.reduceLeDiff, Nat.reduceEqDiff, Nat.reduceLT, reduceCtorEq, e2, hfs, Aw.pos]) (by simp (config := { maxSteps := 2000000 }) only [go_sem, ↓reduceIte, Int.reduceToNat, Nat.reduceMul, Int.reduceBEq, Int.reduceBNe, Nat.reduceBEq, Nat.reduceAdd, Nat.reduceSub, Nat.reduceLeDiff, Nat.reduceEqDiff, Nat.reduceLT, reduceCtorEq, hfs, Aw.renR, Aw.pos])⟩
    · have e0 : decide ((i : Int) < (l'.length : Int)) = false := decide_eq_false (by omega)
      have eti : l'.take i = l' := List.take_of_length_le hge
      simp (config := { maxSteps := 2000000 }) only [go_sem, ↓reduceIte, Int.reduceToNat, Nat.reduceMul, Int.reduceBEq, Int.reduceBNe, Nat.reduceBEq, Nat.reduceAdd, Nat.reduceSub, Nat.reduceLeDiff, Nat.reduceEqDiff, Nat.reduceLT, reduceCtorEq, e0, eti]
      refine Retn.weak (weak_freeze 2 rfl pin2 (by simp (config := { maxSteps := 2000000 }) only [go_sem, ↓reduceIte, Int.reduceToNat, Nat.reduceMul, Int.reduceBEq, Int.reduceBNe, Nat.reduceBEq, Nat.reduceAdd, Nat.reduceSub, Nat.reduceLeDiff, Nat.reduceEqDiff, Nat.reduceLT, reduceCtorEq, Nat.le_refl])) _ ?_
      have etk : List.take (l'.filter (keepP cs l)).length ((l'.filter (keepP cs l)).map alc) = (l'.filter (keepP cs l)).map alc := List.take_of_length_le (by rw [List.length_map]; exact Nat.le_refl _)
      simp (config := { maxSteps := 2000000 }) only [go_sem, ↓reduceIte, Int.reduceToNat, Nat.reduceMul, Int.reduceBEq, Int.reduceBNe, Nat.reduceBEq, Nat.reduceAdd, Nat.reduceSub, Nat.reduceLeDiff, Nat.reduceEqDiff, Nat.reduceLT, reduceCtorEq, etk]
      refine Retn.ret (π := [0, 1]) hp hnp ⟨rfl, ?_⟩
      simp (config := { maxSteps := 2000000 }) only [go_sem, ↓reduceIte, Int.reduceToNat, Nat.reduceMul, Int.reduceBEq, Int.reduceBNe, Nat.reduceBEq, Nat.reduceAdd, Nat.reduceSub, Nat.reduceLeDiff, Nat.reduceEqDiff, Nat.reduceLT, reduceCtorEq, Aw.renR, Aw.pos]
      exact ⟨l'.filter (keepP cs l), hs.1.filter _, (hs.tim ht).filter _, rfl⟩
end Go.Proofs.Ytoickofcmngdjaa
