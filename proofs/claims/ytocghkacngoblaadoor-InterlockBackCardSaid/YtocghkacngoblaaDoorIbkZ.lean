/- Interlocks: the law of rules printed and parsed. -/
import Derived.Test.YtocghkacngoblaaDoorAwZl
import Derived.Test.YtocghkacngoblaaDoorIbkX
import Derived.Test.YtocghkacngoblaaDoorIbkY
import Derived.Test.YtocghkacngoblaaDoorIntC
set_option linter.unusedVariables false
set_option linter.unusedSimpArgs false
namespace Go.Proofs.YtocghkacngoblaaDoor
open Go.Proofs.YtocghkacngoblaaDoor.Aw
attribute [local go_sem] Int.natCast_zero Int.natCast_one bne_self_eq_false beq_self_eq_true Bool.not_true Bool.not_false Option.isSome_none Option.isSome_some Aw.bkM_nil Option.getD_some Option.getD_none Nat.sub_zero Int.toNat_zero Aw.frzS Aw.frzT Aw.frzA Aw.frzL Aw.frzR Aw.frzO Aw.frzOL Aw.frzOT Aw.frzOR Aw.killS Aw.mapT Aw.mapR Aw.killM Aw.resAVs Aw.resAV Aw.quietOps Aw.wpP Aw.wpT Aw.wpS Aw.AOp.mild List.getElem?_cons_zero List.getElem?_cons_succ Bool.and_false Bool.and_self Bool.false_and Aw.opOb Aw.gdB Aw.Rnd Aw.subTm List.length_map Int.toNat_natCast and_self Aw.SeqC Aw.stops Aw.Ends Aw.looks Aw.renA Aw.renL Aw.renT Aw.renS Aw.wpO Aw.aop Aw.putTm Aw.St.ev Aw.St.put Aw.St.putO Aw.binAV Aw.intBin Aw.strBin Aw.pickAV Aw.optInt Aw.AV.strip Aw.AV.guard Aw.AV.cells Aw.gdOb Aw.AOp.opds Aw.AOp.still Aw.ptrCells Aw.St.reg Aw.fillAV Aw.fillOb Aw.elsOb Aw.splice Aw.firm Aw.cellish Aw.AV.shut Aw.shutAll Aw.Seq Aw.Blk Aw.retS_nil Aw.mapA Aw.mapL Aw.borA Aw.borOb Aw.allOb Aw.tupOf Aw.params Aw.Opd.of Array.toList Value.cells List.map_cons List.map_nil List.getD_cons_zero List.getD_cons_succ List.getD_nil List.length_cons List.length_nil List.take_succ_cons List.take_zero List.take_nil List.drop_zero List.drop_succ_cons List.drop_nil List.set_cons_zero List.set_cons_succ List.append_nil List.nil_append List.cons_append List.all_cons List.all_nil cond_false cond_true if_true if_false true_and and_true Bool.and_true Bool.true_and Option.map_some Option.map_none false_implies forall_const implies_true forall_eq imp_self Bool.cond_false_right Bool.cond_true_left beq_true beq_false Bool.not_eq_true' Bool.false_eq_true Nat.zero_add Nat.add_zero Aw.eqCells Aw.stopDraw Aw.skipS Aw.exactCap Aw.revealS Aw.srcEls Aw.srcSz
attribute [local go_sem ↓] Aw.look_nil Aw.look_ite Aw.wpL_nil Aw.wpL_op Aw.wpL_gd Aw.wpQ_nil Aw.wpQ_op Aw.wpQ_gd Aw.wpC_draw Aw.wpC_reg Aw.wpC_skip Aw.wpC_ret Aw.wpC_exit Aw.wpC_seq Aw.wpC_block Aw.wpC_loop Aw.wpC_cond Aw.stopAt_nil Aw.stopAt_cons Aw.wpD_skip Aw.wpD_ret Aw.wpD_exit Aw.wpD_region Aw.wpD_draw Aw.wpM_nil Aw.wpM_op Aw.wpM_gd Aw.wpD_seq Aw.wpD_block Aw.wpD_loop Aw.wpD_cond
open Ibk
/- gridhall/gridhallkeep4.InterlockBack -/
def a6 : ACode :=
  (.seq (.region false [] [
     ⟨(some 4), none, (.mov (.v (.bool false)))⟩])
  (.seq (.region false [] [
     ⟨(some 19), none, (.mov (.t 0))⟩,
     ⟨(some 20), none, (.call 15 [(.t 19)])⟩,
     ⟨(some 18), none, (.mov (.t 20))⟩,
     ⟨(some 21), none, (.ext 0 (.t 18))⟩,
     ⟨(some 22), none, (.ext 1 (.t 18))⟩,
     ⟨(some 5), none, (.mov (.t 21))⟩,
     ⟨(some 6), none, (.mov (.t 22))⟩])
  (.seq (.seq (.region false [] [
     ⟨(some 23), none, (.mov (.t 6))⟩,
     ⟨(some 24), none, (.bin .eql 27 (.t 23) (.v (.int .i64 0)))⟩])
  (.cond (.t 24)
    (.seq (.region false [] [
       ⟨(some 26), none, (.mov (.t 5))⟩,
       ⟨(some 27), none, (.call 16 [(.t 26)])⟩,
       ⟨(some 25), none, (.mov (.t 27))⟩,
       ⟨(some 28), none, (.ext 0 (.t 25))⟩,
       ⟨(some 29), none, (.ext 1 (.t 25))⟩,
       ⟨(some 30), none, (.ext 2 (.t 25))⟩,
       ⟨(some 7), none, (.mov (.t 28))⟩,
       ⟨(some 8), none, (.mov (.t 29))⟩,
       ⟨(some 9), none, (.mov (.t 30))⟩])
    (.seq (.region false [] [
       ⟨(some 31), none, (.mov (.t 9))⟩,
       ⟨(some 32), none, (.bin .neq 27 (.t 31) (.v (.int .i64 0)))⟩,
       ⟨(some 33), none, (.mov (.t 32))⟩,
       ⟨(some 34), (some (33, false)), (.mov (.t 8))⟩,
       ⟨(some 35), (some (33, false)), (.bin .neq 3 (.t 34) (.v (.int .i64 0)))⟩,
       ⟨(some 36), none, (.pick (.t 33) (.v (.bool true)) (.t 35))⟩,
       ⟨(some 37), none, (.mov (.t 36))⟩,
       ⟨(some 38), (some (37, false)), (.mov (.t 0))⟩,
       ⟨(some 39), (some (37, false)), (.mov (.t 7))⟩,
       ⟨(some 40), (some (37, false)), (.call 17 [(.t 38), (.t 39)])⟩,
       ⟨(some 41), (some (37, false)), (.un .not (.t 40))⟩,
       ⟨(some 42), none, (.pick (.t 37) (.v (.bool true)) (.t 41))⟩])
    (.cond (.t 42)
      (.seq (.region false [] [
         ⟨(some 4), none, (.mov (.v (.bool false)))⟩])
      .ret)
      .skip)))
    .skip))
  (.seq (.region false [] [
     ⟨(some 44), none, (.mov (.t 1))⟩,
     ⟨(some 45), none, (.call 16 [(.t 44)])⟩,
     ⟨(some 43), none, (.mov (.t 45))⟩,
     ⟨(some 46), none, (.ext 0 (.t 43))⟩,
     ⟨(some 47), none, (.ext 1 (.t 43))⟩,
     ⟨(some 48), none, (.ext 2 (.t 43))⟩,
     ⟨(some 10), none, (.mov (.t 46))⟩,
     ⟨(some 11), none, (.mov (.t 47))⟩,
     ⟨(some 12), none, (.mov (.t 48))⟩])
  (.seq (.seq (.region false [] [
     ⟨(some 49), none, (.mov (.t 12))⟩,
     ⟨(some 50), none, (.bin .neq 27 (.t 49) (.v (.int .i64 0)))⟩])
  (.cond (.t 50)
    (.seq (.region false [] [
       ⟨(some 51), none, (.call 9 [])⟩,
       ⟨(some 52), none, (.mov (.t 51))⟩,
       ⟨(some 53), (some (52, true)), (.mov (.t 10))⟩,
       ⟨(some 54), (some (52, true)), (.len (.t 53))⟩,
       ⟨(some 55), (some (52, true)), (.bin .eql 3 (.t 54) (.v (.int .i64 0)))⟩,
       ⟨(some 56), none, (.pick (.t 52) (.t 55) (.v (.bool false)))⟩,
       ⟨(some 57), none, (.mov (.t 56))⟩,
       ⟨(some 58), (some (57, true)), (.mov (.t 6))⟩,
       ⟨(some 59), (some (57, true)), (.bin .eql 27 (.t 58) (.v (.int .i64 0)))⟩,
       ⟨(some 60), (some (57, true)), (.mov (.t 59))⟩,
       ⟨(some 61), (some (60, false)), (.mov (.t 6))⟩,
       ⟨(some 62), (some (60, false)), (.bin .eql 27 (.t 61) (.v (.int .i64 2)))⟩,
       ⟨(some 63), (some (57, true)), (.pick (.t 60) (.v (.bool true)) (.t 62))⟩,
       ⟨(some 64), (some (57, true)), (.mov (.t 63))⟩,
       ⟨(some 65), (some (64, false)), (.mov (.t 6))⟩,
       ⟨(some 66), (some (64, false)), (.mov (.t 0))⟩,
       ⟨(some 67), (some (64, false)), (.call 18 [(.t 66)])⟩,
       ⟨(some 68), (some (64, false)), (.bin .eql 27 (.t 65) (.t 67))⟩,
       ⟨(some 69), (some (57, true)), (.pick (.t 64) (.v (.bool true)) (.t 68))⟩,
       ⟨(some 70), none, (.pick (.t 57) (.t 69) (.v (.bool false)))⟩,
       ⟨(some 4), none, (.mov (.t 70))⟩])
    .ret)
    .skip))
  (.seq (.region false [] [
     ⟨(some 72), none, (.mov (.t 10))⟩,
     ⟨(some 73), none, (.call 15 [(.t 72)])⟩,
     ⟨(some 71), none, (.mov (.t 73))⟩,
     ⟨(some 74), none, (.ext 0 (.t 71))⟩,
     ⟨(some 75), none, (.ext 1 (.t 71))⟩,
     ⟨(some 13), none, (.mov (.t 74))⟩,
     ⟨(some 14), none, (.mov (.t 75))⟩])
  (.seq (.region false [] [
     ⟨(some 77), none, (.mov (.t 13))⟩,
     ⟨(some 78), none, (.call 16 [(.t 77)])⟩,
     ⟨(some 76), none, (.mov (.t 78))⟩,
     ⟨(some 79), none, (.ext 0 (.t 76))⟩,
     ⟨(some 80), none, (.ext 1 (.t 76))⟩,
     ⟨(some 81), none, (.ext 2 (.t 76))⟩,
     ⟨(some 15), none, (.mov (.t 79))⟩,
     ⟨(some 16), none, (.mov (.t 80))⟩,
     ⟨(some 17), none, (.mov (.t 81))⟩])
  (.seq (.region false [] [
     ⟨(some 82), none, (.call 9 [])⟩,
     ⟨(some 83), none, (.mov (.t 82))⟩,
     ⟨(some 84), (some (83, true)), (.mov (.t 14))⟩,
     ⟨(some 85), (some (83, true)), (.bin .eql 27 (.t 84) (.v (.int .i64 0)))⟩,
     ⟨(some 86), none, (.pick (.t 83) (.t 85) (.v (.bool false)))⟩,
     ⟨(some 87), none, (.mov (.t 86))⟩,
     ⟨(some 88), (some (87, true)), (.mov (.t 17))⟩,
     ⟨(some 89), (some (87, true)), (.bin .eql 27 (.t 88) (.v (.int .i64 0)))⟩,
     ⟨(some 90), none, (.pick (.t 87) (.t 89) (.v (.bool false)))⟩,
     ⟨(some 91), none, (.mov (.t 90))⟩,
     ⟨(some 92), (some (91, true)), (.mov (.t 13))⟩,
     ⟨(some 93), (some (91, true)), (.lens (.t 92))⟩,
     ⟨(some 94), (some (91, true)), (.mov (.t 1))⟩,
     ⟨(some 95), (some (91, true)), (.lens (.t 94))⟩,
     ⟨(some 96), (some (91, true)), (.bin .leq 3 (.t 93) (.t 95))⟩,
     ⟨(some 97), none, (.pick (.t 91) (.t 96) (.v (.bool false)))⟩,
     ⟨(some 98), none, (.mov (.t 97))⟩,
     ⟨(some 99), (some (98, true)), (.mov (.t 10))⟩,
     ⟨(some 100), (some (98, true)), (.mov (.t 15))⟩,
     ⟨(some 101), (some (98, true)), (.call 17 [(.t 99), (.t 100)])⟩,
     ⟨(some 102), none, (.pick (.t 98) (.t 101) (.v (.bool false)))⟩,
     ⟨(some 4), none, (.mov (.t 102))⟩])
  .ret))))))))
theorem k6 : FnIs Tryd.prog 6 103 [.t 4] a6 := ⟨_, _, Tryd.func6, rfl, by kernel_rfl, by kernel_rfl, rfl⟩

def PrOut (l : List Rul) (u : ByteArray) (e : Int) : Prop :=
  (e = 0 ∧ ∃ xs : List (Rul × Tr), xs.map Prod.fst = l ∧ (∀ x ∈ xs, GoodX x) ∧ xs.length ≤ 24 ∧ u = txtX xs ∧ u.size ≤ 8192) ∨ (e ≠ 0 ∧ (e = 2 ∨ e = checkF l))
theorem print_r (nl fl) (l : List Rul) (hs : ∀ r ∈ l, RulOk r) : Aw.Spec Tryd.prog 15 [] [rs nl fl l] (fun rg v => rg = [] ∧ ∃ u e, PrOut l u e ∧ v = .tup [S u, I e]) := by
  by_cases hc : checkF l = 0
  · obtain ⟨h1, h2⟩ := check_val hc
    obtain ⟨xs, h3, h4⟩ := good_of h2
    subst h3
    rw [List.length_map] at h1
    refine Aw.Spec.post (print_all nl fl xs h1 h4 hs) ?_
    rintro rg v ⟨rfl, rfl⟩
    refine ⟨rfl, ?_⟩
    unfold PrR
    split
    · exact ⟨_, _, .inr ⟨by decide, .inl rfl⟩, rfl⟩
    · exact ⟨_, _, .inl ⟨rfl, xs, rfl, h4, h1, rfl, by omega⟩, rfl⟩
  · refine Aw.Spec.post (print_bad nl fl l hs hc) ?_
    rintro rg v ⟨rfl, rfl⟩
    exact ⟨rfl, _, _, .inr ⟨hc, .inr rfl⟩, rfl⟩
/-- A text of valid rules is parsed. -/
theorem parse_x {xs : List (Rul × Tr)} (hl : xs.length ≤ 24) (h : ∀ x ∈ xs, GoodX x) (hs : (txtX xs).size ≤ 8192) : Aw.Spec Tryd.prog 16 [] [S (txtX xs)] (fun rg v => rg = [] ∧ v = .tup [rs none false (xs.map ruX), I 0, I 0]) := by
  refine Aw.Spec.post (parse_g (txtX xs) (by omega)) ?_
  rintro rg v (⟨r, h1, rfl, rfl⟩ | ⟨h1, -⟩)
  · rw [h1.fn (good_parse hl h hs)]
    exact ⟨rfl, rfl⟩
  · exact absurd (good_parse hl h hs) (h1 _)
theorem same_x (nl fl) (xs : List (Rul × Tr)) (hl : xs.length ≤ 24) (h : ∀ x ∈ xs, GoodX x) : Aw.Spec Tryd.prog 17 [] [rs nl fl (xs.map Prod.fst), rs none false (xs.map ruX)] (Gives (· = B true)) := by
  refine s17 nl fl none false _ _ (by rw [List.length_map]; omega) (by simp) fun i h1 h2 => ?_
  rw [List.length_map] at h1
  simp only [List.getElem_map]
  have hg := h xs[i] (List.getElem_mem h1)
  exact ⟨⟨rfl, rfl, hg.2.2.2⟩, by rw [hg.2.2.2, nds_len]; have := hg.2.2.1; omega⟩
theorem nds_names : ∀ (t : Tr) (k : Nat), Val (nm 8) t → ∀ y ∈ nds t k, y.name.size ≤ 8
  | .alw, k, _, y, hy => by rw [List.mem_singleton.1 hy]; exact Nat.zero_le 8
  | .nev, k, _, y, hy => by rw [List.mem_singleton.1 hy]; exact Nat.zero_le 8
  | .opn s, k, h, y, hy => by rw [List.mem_singleton.1 hy]; exact nm_le (s := s) h
  | .clo s, k, h, y, hy => by rw [List.mem_singleton.1 hy]; exact nm_le (s := s) h
  | .no t, k, h, y, hy => by
    rcases List.mem_append.1 hy with hy | hy
    · exact nds_names t k h y hy
    · rw [List.mem_singleton.1 hy]; exact Nat.zero_le 8
  | .an a b, k, h, y, hy => by
    rcases List.mem_append.1 hy with hy | hy
    · rcases List.mem_append.1 hy with hy | hy
      · exact nds_names a _ h.1 y hy
      · exact nds_names b _ h.2 y hy
    · rw [List.mem_singleton.1 hy]; exact Nat.zero_le 8
  | .orr a b, k, h, y, hy => by
    rcases List.mem_append.1 hy with hy | hy
    · rcases List.mem_append.1 hy with hy | hy
      · exact nds_names a _ h.1 y hy
      · exact nds_names b _ h.2 y hy
    · rw [List.mem_singleton.1 hy]; exact Nat.zero_le 8
theorem rule_ok_x {xs : List (Rul × Tr)} (h : ∀ x ∈ xs, GoodX x) : ∀ r ∈ xs.map Prod.fst, RulOk r := fun r hr => by
  obtain ⟨x, hx, rfl⟩ := List.mem_map.1 hr
  have hg := h x hx
  refine ⟨Nat.le_trans (nm_le hg.1) (by decide), fun y hy => ?_⟩
  rw [hg.2.2.2] at hy
  have hc := nds_names x.2 0 hg.2.1 y hy
  exact Nat.le_trans hc (by decide)
set_option maxRecDepth 100000 in
set_option maxHeartbeats 4000000 in
theorem s6 (nl fl) (l : List Rul) (s : ByteArray) (hs : ∀ r ∈ l, RulOk r) (hss : s.size ≤ 9223372036854775807) : Aw.Spec Tryd.prog 6 [] [rs nl fl l, S s] (Gives (· = B true)) := by
  refine Aw.Spec.givesW k6 rfl rfl fun E hn hnp hp => ?_
  unfold a6
  refine AWp.seq (AWp.ofD [] [] hn mixed rfl ?_)
  simp (config := { maxSteps := 2000000 }) only [go_sem, ↓reduceIte, Int.reduceToNat, Nat.reduceMul, Int.reduceBEq, Int.reduceBNe, Nat.reduceBEq, Nat.reduceAdd, Nat.reduceSub, Nat.reduceLeDiff, Nat.reduceEqDiff, Nat.reduceLT, reduceCtorEq]
  refine AWp.seq (AWp.ofD [] [] hn mixed rfl ?_)
  simp (config := { maxSteps := 2000000 }) only [go_sem, ↓reduceIte, Int.reduceToNat, Nat.reduceMul, Int.reduceBEq, Int.reduceBNe, Nat.reduceBEq, Nat.reduceAdd, Nat.reduceSub, Nat.reduceLeDiff, Nat.reduceEqDiff, Nat.reduceLT, reduceCtorEq]
  refine AWpL.callA [] (print_r nl fl l hs) rfl rfl (by rw [hn]; rfl) rfl (fun r hr => by cases hr) fun rg v hv => ?_
  obtain ⟨rfl, u, e, hpo, rfl⟩ := hv
  refine ⟨Nat.le_refl _, AWpL.ofM hn rfl ?_⟩
  simp (config := { maxSteps := 2000000 }) only [go_sem, ↓reduceIte, Int.reduceToNat, Nat.reduceMul, Int.reduceBEq, Int.reduceBNe, Nat.reduceBEq, Nat.reduceAdd, Nat.reduceSub, Nat.reduceLeDiff, Nat.reduceEqDiff, Nat.reduceLT, reduceCtorEq, Aw.retS, Aw.retRg, Aw.kpM, Aw.bkM, Aw.pos, Aw.isBox]
  refine AWp.seq (AWp.cut ⟨[(0, rs nl fl l), (1, S s), (6, I e)], []⟩ (AWp.ofD [] [] hn mixed rfl ?_) ?_)
  · simp (config := { maxSteps := 2000000 }) only [go_sem, ↓reduceIte, Int.reduceToNat, Nat.reduceMul, Int.reduceBEq, Int.reduceBNe, Nat.reduceBEq, Nat.reduceAdd, Nat.reduceSub, Nat.reduceLeDiff, Nat.reduceEqDiff, Nat.reduceLT, reduceCtorEq]
    refine ⟨fun he => ?_, fun he => weak_to [] hp hnp rfl (by simp (config := { maxSteps := 2000000 }) only [go_sem, ↓reduceIte, Int.reduceToNat, Nat.reduceMul, Int.reduceBEq, Int.reduceBNe, Nat.reduceBEq, Nat.reduceAdd, Nat.reduceSub, Nat.reduceLeDiff, Nat.reduceEqDiff, Nat.reduceLT, reduceCtorEq]) rfl⟩
    rcases hpo with ⟨rfl, xs, rfl, hgx, hlx, rfl, hux⟩ | ⟨h, _⟩
    · refine AWpL.callA [] (parse_x hlx hgx hux) rfl rfl (by rw [hn]; rfl) rfl (fun r hr => by cases hr) fun rg v hv => ?_
      obtain ⟨rfl, rfl⟩ := hv
      refine ⟨Nat.le_refl _, AWpL.ofM hn rfl ?_⟩
      simp (config := { maxSteps := 2000000 }) only [go_sem, ↓reduceIte, Int.reduceToNat, Nat.reduceMul, Int.reduceBEq, Int.reduceBNe, Nat.reduceBEq, Nat.reduceAdd, Nat.reduceSub, Nat.reduceLeDiff, Nat.reduceEqDiff, Nat.reduceLT, reduceCtorEq, Aw.retS, Aw.retRg, Aw.kpM, Aw.bkM, Aw.pos, Aw.isBox, Bool.or_false, Bool.false_or]
      (refine AWpL.gcalle (b := true) rfl (fun _ => (same_x nl fl xs hlx hgx)) rfl (by rw [hn]; rfl) (fun _ => by simp (config := { maxSteps := 2000000 }) only [go_sem, ↓reduceIte, Int.reduceToNat, Nat.reduceMul, Int.reduceBEq, Int.reduceBNe, Nat.reduceBEq, Nat.reduceAdd, Nat.reduceSub, Nat.reduceLeDiff, Nat.reduceEqDiff, Nat.reduceLT, reduceCtorEq]) (AWpL.ofM hn rfl ?_); simp (config := { maxSteps := 2000000 }) only [go_sem, ↓reduceIte, Int.reduceToNat, Nat.reduceMul, Int.reduceBEq, Int.reduceBNe, Nat.reduceBEq, Nat.reduceAdd, Nat.reduceSub, Nat.reduceLeDiff, Nat.reduceEqDiff, Nat.reduceLT, reduceCtorEq])
      exact weak_to [] hp hnp rfl (by simp (config := { maxSteps := 2000000 }) only [go_sem, ↓reduceIte, Int.reduceToNat, Nat.reduceMul, Int.reduceBEq, Int.reduceBNe, Nat.reduceBEq, Nat.reduceAdd, Nat.reduceSub, Nat.reduceLeDiff, Nat.reduceEqDiff, Nat.reduceLT, reduceCtorEq]) rfl
    · exact absurd (beq_iff_eq.1 he) h
  · simp (config := { maxSteps := 2000000 }) only [go_sem, ↓reduceIte, Int.reduceToNat, Nat.reduceMul, Int.reduceBEq, Int.reduceBNe, Nat.reduceBEq, Nat.reduceAdd, Nat.reduceSub, Nat.reduceLeDiff, Nat.reduceEqDiff, Nat.reduceLT, reduceCtorEq]
    refine AWp.ofD [] [] hn mixed rfl ?_
    simp (config := { maxSteps := 2000000 }) only [go_sem, ↓reduceIte, Int.reduceToNat, Nat.reduceMul, Int.reduceBEq, Int.reduceBNe, Nat.reduceBEq, Nat.reduceAdd, Nat.reduceSub, Nat.reduceLeDiff, Nat.reduceEqDiff, Nat.reduceLT, reduceCtorEq]
    refine AWpL.callA [] (parse_g s hss) rfl rfl (by rw [hn]; rfl) rfl (fun r hr => by cases hr) fun rg v hv => ?_
    rcases hv with ⟨m, hm, rfl, rfl⟩ | ⟨hno, rfl, k, f, hf, rfl⟩
    · obtain ⟨ys, h1, h2, h3, h4, h5⟩ := parse_good hm
      have h6 := hm.1
      have hpr := print_all none false ys h4 h3 (rule_ok_x h3)
      unfold PrR at hpr
      rw [if_neg (by omega)] at hpr
      subst h1
      refine ⟨Nat.le_refl _, AWpL.ofM hn rfl ?_⟩
      simp (config := { maxSteps := 2000000 }) only [go_sem, ↓reduceIte, Int.reduceToNat, Nat.reduceMul, Int.reduceBEq, Int.reduceBNe, Nat.reduceBEq, Nat.reduceAdd, Nat.reduceSub, Nat.reduceLeDiff, Nat.reduceEqDiff, Nat.reduceLT, reduceCtorEq, Aw.retS, Aw.retRg, Aw.kpM, Aw.bkM, Aw.pos, Aw.isBox]
      refine AWpL.callA [] hpr rfl rfl (by rw [hn]; rfl) rfl (fun r hr => by cases hr) fun rg v hv => ?_
      obtain ⟨rfl, rfl⟩ := hv
      refine ⟨Nat.le_refl _, AWpL.ofM hn rfl ?_⟩
      simp (config := { maxSteps := 2000000 }) only [go_sem, ↓reduceIte, Int.reduceToNat, Nat.reduceMul, Int.reduceBEq, Int.reduceBNe, Nat.reduceBEq, Nat.reduceAdd, Nat.reduceSub, Nat.reduceLeDiff, Nat.reduceEqDiff, Nat.reduceLT, reduceCtorEq, Aw.retS, Aw.retRg, Aw.kpM, Aw.bkM, Aw.pos, Aw.isBox]
      refine AWpL.callA [] (parse_x h4 h3 (by omega)) rfl rfl (by rw [hn]; rfl) rfl (fun r hr => by cases hr) fun rg v hv => ?_
      obtain ⟨rfl, rfl⟩ := hv
      refine ⟨Nat.le_refl _, AWpL.ofM hn rfl ?_⟩
      simp (config := { maxSteps := 2000000 }) only [go_sem, ↓reduceIte, Int.reduceToNat, Nat.reduceMul, Int.reduceBEq, Int.reduceBNe, Nat.reduceBEq, Nat.reduceAdd, Nat.reduceSub, Nat.reduceLeDiff, Nat.reduceEqDiff, Nat.reduceLT, reduceCtorEq, Aw.retS, Aw.retRg, Aw.kpM, Aw.bkM, Aw.pos, Aw.isBox]
      (refine AWpL.calle (s9) rfl (by rw [hn]; rfl) (by simp (config := { maxSteps := 2000000 }) only [go_sem, ↓reduceIte, Int.reduceToNat, Nat.reduceMul, Int.reduceBEq, Int.reduceBNe, Nat.reduceBEq, Nat.reduceAdd, Nat.reduceSub, Nat.reduceLeDiff, Nat.reduceEqDiff, Nat.reduceLT, reduceCtorEq]) (AWpL.ofM hn rfl ?_); simp (config := { maxSteps := 2000000 }) only [go_sem, ↓reduceIte, Int.reduceToNat, Nat.reduceMul, Int.reduceBEq, Int.reduceBNe, Nat.reduceBEq, Nat.reduceAdd, Nat.reduceSub, Nat.reduceLeDiff, Nat.reduceEqDiff, Nat.reduceLT, reduceCtorEq])
      have e5 : decide (((txtX ys).size : Int) ≤ (s.size : Int)) = true := by rw [decide_eq_true_eq]; omega
      simp (config := { maxSteps := 2000000 }) only [go_sem, ↓reduceIte, Int.reduceToNat, Nat.reduceMul, Int.reduceBEq, Int.reduceBNe, Nat.reduceBEq, Nat.reduceAdd, Nat.reduceSub, Nat.reduceLeDiff, Nat.reduceEqDiff, Nat.reduceLT, reduceCtorEq, e5]
      (refine AWpL.gcalle (b := true) rfl (fun _ => (same_x none false ys h4 h3)) rfl (by rw [hn]; rfl) (fun _ => by simp (config := { maxSteps := 2000000 }) only [go_sem, ↓reduceIte, Int.reduceToNat, Nat.reduceMul, Int.reduceBEq, Int.reduceBNe, Nat.reduceBEq, Nat.reduceAdd, Nat.reduceSub, Nat.reduceLeDiff, Nat.reduceEqDiff, Nat.reduceLT, reduceCtorEq]) (AWpL.ofM hn rfl ?_); simp (config := { maxSteps := 2000000 }) only [go_sem, ↓reduceIte, Int.reduceToNat, Nat.reduceMul, Int.reduceBEq, Int.reduceBNe, Nat.reduceBEq, Nat.reduceAdd, Nat.reduceSub, Nat.reduceLeDiff, Nat.reduceEqDiff, Nat.reduceLT, reduceCtorEq])
    · have ef : (f != 0) = true := bne_iff_ne.2 hf
      refine ⟨Nat.le_refl _, AWpL.ofM hn rfl ?_⟩
      simp (config := { maxSteps := 2000000 }) only [go_sem, ↓reduceIte, Int.reduceToNat, Nat.reduceMul, Int.reduceBEq, Int.reduceBNe, Nat.reduceBEq, Nat.reduceAdd, Nat.reduceSub, Nat.reduceLeDiff, Nat.reduceEqDiff, Nat.reduceLT, reduceCtorEq, Aw.retS, Aw.retRg, Aw.kpM, Aw.bkM, Aw.pos, Aw.isBox, ef]
      (refine AWpL.calle (s9) rfl (by rw [hn]; rfl) (by simp (config := { maxSteps := 2000000 }) only [go_sem, ↓reduceIte, Int.reduceToNat, Nat.reduceMul, Int.reduceBEq, Int.reduceBNe, Nat.reduceBEq, Nat.reduceAdd, Nat.reduceSub, Nat.reduceLeDiff, Nat.reduceEqDiff, Nat.reduceLT, reduceCtorEq]) (AWpL.ofM hn rfl ?_); simp (config := { maxSteps := 2000000 }) only [go_sem, ↓reduceIte, Int.reduceToNat, Nat.reduceMul, Int.reduceBEq, Int.reduceBNe, Nat.reduceBEq, Nat.reduceAdd, Nat.reduceSub, Nat.reduceLeDiff, Nat.reduceEqDiff, Nat.reduceLT, reduceCtorEq])
      cases h : (e == 0 || e == 2)
      · have hec : (e == checkF l) = true := by
          rw [Bool.or_eq_false_iff] at h
          rcases hpo with ⟨he, _⟩ | ⟨_, he | he⟩
          · exact absurd he (beq_eq_false_iff_ne.1 h.1)
          · exact absurd he (beq_eq_false_iff_ne.1 h.2)
          · exact beq_iff_eq.2 he
        simp (config := { maxSteps := 2000000 }) only [go_sem, ↓reduceIte, Int.reduceToNat, Nat.reduceMul, Int.reduceBEq, Int.reduceBNe, Nat.reduceBEq, Nat.reduceAdd, Nat.reduceSub, Nat.reduceLeDiff, Nat.reduceEqDiff, Nat.reduceLT, reduceCtorEq, h]
        (refine AWpL.gcalle (b := true) rfl (fun _ => (s18 nl fl l hs)) rfl (by rw [hn]; rfl) (fun _ => by simp (config := { maxSteps := 2000000 }) only [go_sem, ↓reduceIte, Int.reduceToNat, Nat.reduceMul, Int.reduceBEq, Int.reduceBNe, Nat.reduceBEq, Nat.reduceAdd, Nat.reduceSub, Nat.reduceLeDiff, Nat.reduceEqDiff, Nat.reduceLT, reduceCtorEq]) (AWpL.ofM hn rfl ?_); simp (config := { maxSteps := 2000000 }) only [go_sem, ↓reduceIte, Int.reduceToNat, Nat.reduceMul, Int.reduceBEq, Int.reduceBNe, Nat.reduceBEq, Nat.reduceAdd, Nat.reduceSub, Nat.reduceLeDiff, Nat.reduceEqDiff, Nat.reduceLT, reduceCtorEq])
        simp (config := { maxSteps := 2000000 }) only [go_sem, ↓reduceIte, Int.reduceToNat, Nat.reduceMul, Int.reduceBEq, Int.reduceBNe, Nat.reduceBEq, Nat.reduceAdd, Nat.reduceSub, Nat.reduceLeDiff, Nat.reduceEqDiff, Nat.reduceLT, reduceCtorEq, hec]
      · simp (config := { maxSteps := 2000000 }) only [go_sem, ↓reduceIte, Int.reduceToNat, Nat.reduceMul, Int.reduceBEq, Int.reduceBNe, Nat.reduceBEq, Nat.reduceAdd, Nat.reduceSub, Nat.reduceLeDiff, Nat.reduceEqDiff, Nat.reduceLT, reduceCtorEq, h]
        refine AWpL.skips hn 64 false 2 (by rfl) rfl ?_
        refine AWpL.weak (weak_ent 68 (y := .opt false (B false)) (by rfl) Ent.off) (AWpL.ofM hn rfl ?_)
        simp (config := { maxSteps := 2000000 }) only [go_sem, ↓reduceIte, Int.reduceToNat, Nat.reduceMul, Int.reduceBEq, Int.reduceBNe, Nat.reduceBEq, Nat.reduceAdd, Nat.reduceSub, Nat.reduceLeDiff, Nat.reduceEqDiff, Nat.reduceLT, reduceCtorEq]
end Go.Proofs.YtocghkacngoblaaDoor
