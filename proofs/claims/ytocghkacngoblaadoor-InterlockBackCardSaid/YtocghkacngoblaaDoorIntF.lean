/- Interlocks: a condition and its negation. -/
import Derived.Test.YtocghkacngoblaaDoorAwZl
import Derived.Test.YtocghkacngoblaaDoorIntE
set_option linter.unusedVariables false
set_option linter.unusedSimpArgs false
namespace Go.Proofs.YtocghkacngoblaaDoor
open Go.Proofs.YtocghkacngoblaaDoor.Aw
attribute [local go_sem] Int.natCast_zero Int.natCast_one bne_self_eq_false beq_self_eq_true Bool.not_true Bool.not_false Option.isSome_none Option.isSome_some Aw.bkM_nil Option.getD_some Option.getD_none Nat.sub_zero Int.toNat_zero Aw.frzS Aw.frzT Aw.frzA Aw.frzL Aw.frzR Aw.frzO Aw.frzOL Aw.frzOT Aw.frzOR Aw.killS Aw.mapT Aw.mapR Aw.killM Aw.resAVs Aw.resAV Aw.quietOps Aw.wpP Aw.wpT Aw.wpS Aw.AOp.mild List.getElem?_cons_zero List.getElem?_cons_succ Bool.and_false Bool.and_self Bool.false_and Aw.opOb Aw.gdB Aw.Rnd Aw.subTm List.length_map Int.toNat_natCast and_self Aw.SeqC Aw.stops Aw.Ends Aw.looks Aw.renA Aw.renL Aw.renT Aw.renS Aw.wpO Aw.aop Aw.putTm Aw.St.ev Aw.St.put Aw.St.putO Aw.binAV Aw.intBin Aw.strBin Aw.pickAV Aw.optInt Aw.AV.strip Aw.AV.guard Aw.AV.cells Aw.gdOb Aw.AOp.opds Aw.AOp.still Aw.ptrCells Aw.St.reg Aw.fillAV Aw.fillOb Aw.elsOb Aw.splice Aw.firm Aw.cellish Aw.AV.shut Aw.shutAll Aw.Seq Aw.Blk Aw.retS_nil Aw.mapA Aw.mapL Aw.borA Aw.borOb Aw.allOb Aw.tupOf Aw.params Aw.Opd.of Array.toList Value.cells List.map_cons List.map_nil List.getD_cons_zero List.getD_cons_succ List.getD_nil List.length_cons List.length_nil List.take_succ_cons List.take_zero List.take_nil List.drop_zero List.drop_succ_cons List.drop_nil List.set_cons_zero List.set_cons_succ List.append_nil List.nil_append List.cons_append List.all_cons List.all_nil cond_false cond_true if_true if_false true_and and_true Bool.and_true Bool.true_and Option.map_some Option.map_none false_implies forall_const implies_true forall_eq imp_self Bool.cond_false_right Bool.cond_true_left beq_true beq_false Bool.not_eq_true' Bool.false_eq_true Nat.zero_add Nat.add_zero Aw.eqCells Aw.stopDraw Aw.skipS Aw.exactCap Aw.revealS Aw.srcEls Aw.srcSz
attribute [local go_sem ↓] Aw.look_nil Aw.look_ite Aw.wpL_nil Aw.wpL_op Aw.wpL_gd Aw.wpQ_nil Aw.wpQ_op Aw.wpQ_gd Aw.wpC_draw Aw.wpC_reg Aw.wpC_skip Aw.wpC_ret Aw.wpC_exit Aw.wpC_seq Aw.wpC_block Aw.wpC_loop Aw.wpC_cond Aw.stopAt_nil Aw.stopAt_cons Aw.wpD_skip Aw.wpD_ret Aw.wpD_exit Aw.wpD_region Aw.wpD_draw Aw.wpM_nil Aw.wpM_op Aw.wpM_gd Aw.wpD_seq Aw.wpD_block Aw.wpD_loop Aw.wpD_cond
/- slices.Clone[[]gridhall/api.InterlockNode,gridhall/api.InterlockNode] -/
def a19 : ACode :=
  (.seq (.region false [] [
     ⟨(some 2), none, (.mov (.v (.slice none 0 0)))⟩])
  (.seq (.seq (.region false [] [
     ⟨(some 3), none, (.mov (.t 0))⟩,
     ⟨(some 4), none, (.nilS false (.t 3))⟩])
  (.cond (.t 4)
    (.seq (.region false [] [
       ⟨(some 2), none, (.mov (.v (.slice none 0 0)))⟩])
    .ret)
    .skip))
  (.seq (.region false [] [
     ⟨(some 5), none, (.bsl 54 4 0 [])⟩,
     ⟨(some 6), none, (.mov (.t 0))⟩,
     ⟨(some 7), none, (.app 54 4 40 (.agg #[(.int .i64 0), (.string ⟨#[]⟩), (.int .i64 0), (.int .i64 0)]) (.t 5) (.t 6))⟩,
     ⟨(some 2), none, (.mov (.t 7))⟩])
  .ret)))
theorem k19 : FnIs Tryd.prog 19 8 [.t 2] a19 := ⟨_, _, Tryd.func19, rfl, by kernel_rfl, by kernel_rfl, rfl⟩
/- gridhall/gridhallkeep4.negated -/
def a7 : ACode :=
  (.seq (.region false [] [
     ⟨(some 1), none, (.box 24 (.t 0))⟩,
     ⟨(some 2), none, (.alloc 24 (.agg #[(.bool false), (.string ⟨#[]⟩), (.slice none 0 0)]))⟩])
  (.seq (.region true [[], [0], [1], [], [3], [4], [5], [6], [7], [2, 8, 2], [0, 1, 2, 3, 4, 5, 6, 7, 8, 9], [10, 9, 9, 0, 1, 2, 3, 4, 5, 6, 7, 8, 9]] [
     ⟨(some 3), none, (.fld 2 (.t 1))⟩,
     ⟨(some 4), none, (.load 1 false (.t 3))⟩,
     ⟨(some 5), none, (.call 19 [(.t 4)])⟩,
     ⟨(some 6), none, (.fld 2 (.t 1))⟩,
     ⟨(some 7), none, (.load 1 false (.t 6))⟩,
     ⟨(some 8), none, (.len (.t 7))⟩,
     ⟨(some 9), none, (.bin .sub 3 (.t 8) (.v (.int .i64 1)))⟩,
     ⟨(some 10), none, (.build (.agg #[(.int .i64 0), (.string ⟨#[]⟩), (.int .i64 0), (.int .i64 0)]) [(0, (1, (.v (.int .i64 4)))), (2, (1, (.t 9)))])⟩,
     ⟨(some 11), none, (.bsl 54 4 1 [(0, (.t 10))])⟩,
     ⟨(some 12), none, (.app 54 4 40 (.agg #[(.int .i64 0), (.string ⟨#[]⟩), (.int .i64 0), (.int .i64 0)]) (.t 5) (.t 11))⟩,
     ⟨(some 13), none, (.fld 2 (.t 1))⟩,
     ⟨none, none, (.store 1 (.t 13) (.t 12))⟩])
  (.seq (.region false [] [
     ⟨(some 14), none, (.load 3 true (.t 1))⟩,
     ⟨none, none, (.store 3 (.t 2) (.t 14))⟩])
  .ret)))
theorem k7 : FnIs Tryd.prog 7 15 [.c 2 3 true] a7 := ⟨_, _, Tryd.func7, rfl, by kernel_rfl, by kernel_rfl, rfl⟩
/- gridhall/gridhallkeep4.InterlockNot -/
def a3 : ACode :=
  (.seq (.region false [] [
     ⟨(some 2), none, (.box 24 (.t 0))⟩,
     ⟨(some 4), none, (.mov (.v (.bool false)))⟩])
  (.seq (.region false [] [
     ⟨(some 10), none, (.load 3 true (.t 2))⟩,
     ⟨(some 11), none, (.call 7 [(.t 10)])⟩,
     ⟨(some 5), none, (.alloc 24 (.agg #[(.bool false), (.string ⟨#[]⟩), (.slice none 0 0)]))⟩,
     ⟨none, none, (.store 3 (.t 5) (.t 11))⟩])
  (.seq (.region false [] [
     ⟨(some 13), none, (.load 3 true (.t 2))⟩,
     ⟨(some 14), none, (.bsl 24 3 1 [(0, (.t 13))])⟩,
     ⟨(some 15), none, (.mov (.t 1))⟩,
     ⟨(some 16), none, (.fld 0 (.t 2))⟩,
     ⟨(some 17), none, (.load 1 false (.t 16))⟩,
     ⟨(some 18), none, (.fld 1 (.t 2))⟩,
     ⟨(some 19), none, (.load 1 false (.t 18))⟩,
     ⟨(some 20), none, (.call 8 [(.t 14), (.t 15), (.t 17), (.t 19)])⟩,
     ⟨(some 12), none, (.mov (.t 20))⟩,
     ⟨(some 21), none, (.ext 0 (.t 12))⟩,
     ⟨(some 22), none, (.ext 1 (.t 12))⟩,
     ⟨(some 6), none, (.mov (.t 21))⟩,
     ⟨(some 7), none, (.mov (.t 22))⟩])
  (.seq (.region false [] [
     ⟨(some 24), none, (.load 3 true (.t 5))⟩,
     ⟨(some 25), none, (.bsl 24 3 1 [(0, (.t 24))])⟩,
     ⟨(some 26), none, (.mov (.t 1))⟩,
     ⟨(some 27), none, (.fld 0 (.t 2))⟩,
     ⟨(some 28), none, (.load 1 false (.t 27))⟩,
     ⟨(some 29), none, (.fld 1 (.t 2))⟩,
     ⟨(some 30), none, (.load 1 false (.t 29))⟩,
     ⟨(some 31), none, (.call 8 [(.t 25), (.t 26), (.t 28), (.t 30)])⟩,
     ⟨(some 23), none, (.mov (.t 31))⟩,
     ⟨(some 32), none, (.ext 0 (.t 23))⟩,
     ⟨(some 33), none, (.ext 1 (.t 23))⟩,
     ⟨(some 8), none, (.mov (.t 32))⟩,
     ⟨(some 9), none, (.mov (.t 33))⟩])
  (.seq (.seq (.region false [] [
     ⟨(some 34), none, (.mov (.t 7))⟩,
     ⟨(some 35), none, (.bin .neq 27 (.t 34) (.v (.int .i64 0)))⟩,
     ⟨(some 36), none, (.mov (.t 35))⟩,
     ⟨(some 37), (some (36, false)), (.mov (.t 9))⟩,
     ⟨(some 38), (some (36, false)), (.bin .neq 27 (.t 37) (.v (.int .i64 0)))⟩,
     ⟨(some 39), none, (.pick (.t 36) (.v (.bool true)) (.t 38))⟩])
  (.cond (.t 39)
    (.seq (.region false [] [
       ⟨(some 40), none, (.call 9 [])⟩,
       ⟨(some 41), none, (.mov (.t 40))⟩,
       ⟨(some 42), (some (41, true)), (.mov (.t 6))⟩,
       ⟨(some 43), (some (41, true)), (.mov (.t 42))⟩,
       ⟨(some 44), (some (43, true)), (.mov (.t 8))⟩,
       ⟨(some 45), (some (41, true)), (.pick (.t 43) (.t 44) (.v (.bool false)))⟩,
       ⟨(some 46), (some (41, true)), (.un .not (.t 45))⟩,
       ⟨(some 47), none, (.pick (.t 41) (.t 46) (.v (.bool false)))⟩,
       ⟨(some 4), none, (.mov (.t 47))⟩])
    .ret)
    .skip))
  (.seq (.region false [] [
     ⟨(some 48), none, (.call 9 [])⟩,
     ⟨(some 49), none, (.mov (.t 48))⟩,
     ⟨(some 50), (some (49, true)), (.mov (.t 6))⟩,
     ⟨(some 51), (some (49, true)), (.mov (.t 8))⟩,
     ⟨(some 52), (some (49, true)), (.beq true (.t 50) (.t 51))⟩,
     ⟨(some 53), none, (.pick (.t 49) (.t 52) (.v (.bool false)))⟩,
     ⟨(some 4), none, (.mov (.t 53))⟩])
  .ret))))))
theorem k3 : FnIs Tryd.prog 3 54 [.t 4] a3 := ⟨_, _, Tryd.func3, rfl, by kernel_rfl, by kernel_rfl, rfl⟩


theorem o19 (nl full) (l : List (Nod)) (hl : l.length * 40 ≤ 140737488351232) : Aw.Spec Tryd.prog 19 [] [.imm nl full 4 (l.map nc)] (fun rg x => rg = [.arr 54 4 (l.map nc)] ∧ x = .hnd 0 0 l.length l.length false) := by
  refine Aw.Spec.nil1 fun b _ hb => ?_
  refine Aw.Spec.regsD k19 mixed rfl rfl rfl fun E hn hnp hp => ?_
  unfold a19
  simp (config := { maxSteps := 2000000 }) only [go_sem, ↓reduceIte, Int.reduceToNat, Nat.reduceMul, Int.reduceBEq, Int.reduceBNe, Nat.reduceBEq, Nat.reduceAdd, Nat.reduceSub, Nat.reduceLeDiff, Nat.reduceEqDiff, Nat.reduceLT, reduceCtorEq]
  refine ⟨fun h => ?_, fun h => ?_⟩
  · have hl0 : l = [] := by simpa using hb h
    subst hl0
    refine Retn.weak (weak_nil 2 54 4 (by rfl)) _ (Retn.ret (π := [0]) hp hnp ⟨rfl, ?_⟩)
    simp (config := { maxSteps := 2000000 }) only [go_sem, ↓reduceIte, Int.reduceToNat, Nat.reduceMul, Int.reduceBEq, Int.reduceBNe, Nat.reduceBEq, Nat.reduceAdd, Nat.reduceSub, Nat.reduceLeDiff, Nat.reduceEqDiff, Nat.reduceLT, reduceCtorEq, Aw.resAVs, Aw.resAV, Aw.renR, Aw.pos]
    all_goals (try exact ⟨rfl, rfl⟩)
  · refine AWpL.app (r := 0) (els := []) rfl rfl rfl rfl (by rw [hn]; rfl) rfl (hp.none hnp (Nat.zero_le _)) trivial (fun el hm x hx => ?_) (by simp; omega) (by simp; omega) (AWpL.ofM hn rfl ?_)
    · obtain ⟨y, _, rfl⟩ := List.mem_map.1 hm
      simp only [List.mem_cons, List.not_mem_nil, or_false] at hx
      first | (subst hx; rfl) | (rcases hx with rfl | rfl; all_goals rfl) | (rcases hx with rfl | rfl | rfl; all_goals rfl) | (rcases hx with rfl | rfl | rfl | rfl; all_goals rfl) | (rcases hx with rfl | rfl | rfl | rfl | rfl; all_goals rfl) | (rcases hx with rfl | rfl | rfl | rfl | rfl | rfl; all_goals rfl) | (rcases hx with rfl | rfl | rfl | rfl | rfl | rfl | rfl | rfl | rfl; all_goals rfl)
    simp (config := { maxSteps := 2000000 }) only [go_sem, ↓reduceIte, Int.reduceToNat, Nat.reduceMul, Int.reduceBEq, Int.reduceBNe, Nat.reduceBEq, Nat.reduceAdd, Nat.reduceSub, Nat.reduceLeDiff, Nat.reduceEqDiff, Nat.reduceLT, reduceCtorEq, Aw.killS, Aw.mapT, Aw.mapR, Aw.killM]
    refine Retn.ret (π := [0]) hp hnp ⟨rfl, ?_⟩
    simp (config := { maxSteps := 2000000 }) only [go_sem, ↓reduceIte, Int.reduceToNat, Nat.reduceMul, Int.reduceBEq, Int.reduceBNe, Nat.reduceBEq, Nat.reduceAdd, Nat.reduceSub, Nat.reduceLeDiff, Nat.reduceEqDiff, Nat.reduceLT, reduceCtorEq, Aw.resAVs, Aw.resAV, Aw.renR, Aw.pos]
    all_goals (try exact ⟨rfl, rfl⟩)

theorem seq_self (x : ByteArray) : seq x x = true := by unfold seq; simp
def notN (l : List Nod) : Nod := ⟨4, ⟨#[]⟩, (l.length : Int) - 1, 0⟩
def negR (r : Rul) : Rul := ⟨r.close, r.sw, none, false, r.cond ++ [notN r.cond]⟩
theorem holdGo_append (sts : List Sta) : ∀ (l m : List Nod) (done : List Bool), holdGo sts done (l ++ m) = holdGo sts (holdGo sts done l) m
  | [], m, done => rfl
  | x :: l, m, done => holdGo_append sts l m _
theorem holdGo_len (sts : List Sta) : ∀ (l : List Nod) (done : List Bool), (holdGo sts done l).length = done.length + l.length
  | [], done => rfl
  | x :: l, done => by
    show (holdGo sts (done ++ [nodV sts done x]) l).length = _
    rw [holdGo_len sts l, List.length_append, List.length_cons, List.length_cons, List.length_nil]; omega
theorem holdF_not (sts : List Sta) {l : List Nod} (h : 0 < l.length) : holdF sts (l ++ [notN l]) = !holdF sts l := by
  unfold holdF
  rw [holdGo_append]
  have h1 := holdGo_len sts l []
  rw [List.length_nil, Nat.zero_add] at h1
  generalize holdGo sts [] l = d at *
  show (d ++ [nodV sts d (notN l)]).getD _ false = _
  have h2 : (l ++ [notN l]).length - 1 = d.length := by rw [List.length_append, h1]; rfl
  rw [h2, List.getD_eq_getElem?_getD, List.getElem?_append_right (Nat.le_refl _), Nat.sub_self]
  show nodV sts d (notN l) = _
  unfold nodV notN
  dsimp only
  rw [if_neg (by decide), if_neg (by decide), if_neg (by decide), if_pos rfl]
  congr 2; omega
theorem permF_one {r : Rul} {sts : List Sta} (h : explE [r] sts r.sw = 0) : permF [r] sts r.close r.sw = holdF sts r.cond := by
  unfold permF explL
  rw [if_pos h, h]
  unfold explGo explGo forb
  rw [seq_self]
  cases holdF sts r.cond <;> simp
theorem condF_pos {l : List Nod} (h : condF l = 0) : 0 < l.length := by
  unfold condF at h
  split at h
  · cases h
  split at h
  · cases h
  · omega
theorem neg_law (r : Rul) (sts : List Sta) : (explE [r] sts r.sw ≠ 0 ∨ explE [negR r] sts r.sw ≠ 0 → (permF [r] sts r.close r.sw && permF [negR r] sts r.close r.sw) = false) ∧
    (explE [r] sts r.sw = 0 → explE [negR r] sts r.sw = 0 → (permF [r] sts r.close r.sw == permF [negR r] sts r.close r.sw) = false) := by
  refine ⟨fun h => ?_, fun h1 h2 => ?_⟩
  · unfold permF
    rcases h with h | h
    · rw [beq_eq_false_iff_ne.2 h]; simp
    · rw [beq_eq_false_iff_ne.2 h]; simp
  · have h3 := permF_one h1
    have h4 := permF_one (r := negR r) h2
    have h5 := (checkF_ok (explE_zero.1 h1).1).2 r List.mem_cons_self
    have h6 : holdF sts (negR r).cond = !holdF sts r.cond := holdF_not sts (condF_pos h5.2)
    rw [h3, show permF [negR r] sts r.close r.sw = _ from h4, h6]
    cases holdF sts r.cond <;> rfl
/-- What a machine can hold, and the condition is not larger than the reach. -/
def RulW (r : Rul) : Prop := RulOk r ∧ r.cond.length * 40 ≤ 140737488351232
set_option maxRecDepth 20000 in
set_option maxHeartbeats 1000000 in
theorem s7 (r : Rul) (hr : RulW r) : Aw.Spec Tryd.prog 7 [] [.agg (rlc r)] (fun rg v => rg = [.box 24 (rlc (negR r))] ∧ v = .agg (rlc (negR r))) := by
  refine Aw.Spec.regsW k7 rfl rfl fun E hn hnp hp => ?_
  unfold a7
  have pin : ∀ r, E.pin r = none := fun r => hp.none hnp (Nat.zero_le _)
  obtain ⟨hr1, hr2⟩ := hr
  refine AWp.seq (AWp.ofD [] [] hn mixed rfl ?_)
  simp (config := { maxSteps := 2000000 }) only [go_sem, ↓reduceIte, Int.reduceToNat, Nat.reduceMul, Int.reduceBEq, Int.reduceBNe, Nat.reduceBEq, Nat.reduceAdd, Nat.reduceSub, Nat.reduceLeDiff, Nat.reduceEqDiff, Nat.reduceLT, reduceCtorEq]
  refine AWp.seq ?_
  refine AWp.cut ⟨[(1, .ptr 0 0 0), (2, .ptr 1 0 0)], [.box 24 [B r.close, S r.sw, .hnd 2 0 (r.cond.length + 1) (r.cond.length + 1) false], .box 24 [B false, S ⟨#[]⟩, .val (.slice none 0 0)], .arr 54 4 ((r.cond ++ [notN r.cond]).map nc)]⟩ ?_ ?_
  · refine AWp.plan (.take 0 [false, false, false, true, true, true, true, true, true, false, false, false] (.take 1 [true, false, false, true, true, true, true, true, true, false, false, false] (.take 3 [true, true, true, false, false, false, false, false, false, false, false, false] (.take 4 [true, true, true, true, false, false, false, false, false, false, false, false] (.take 5 [true, true, true, true, true, false, false, false, false, false, false, false] (.take 6 [true, true, true, true, true, true, false, false, false, false, false, false] (.take 7 [true, true, true, true, true, true, true, false, false, false, false, false] (.two 2 (.one 8 (.one 9 (.take 10 [true, true, true, true, true, true, true, true, true, true, false, false] (.one 11 .done)))) 8 (.one 2 (.one 9 (.take 10 [true, true, true, true, true, true, true, true, true, true, false, false] (.one 11 .done)))))))))))) [true, true, true, true, true, true, true, true, true, false, true, false] mixed hn rfl rfl ?_
    have e1 : IntKind.i64.wrap ((r.cond.length : Int) - 1) = (r.cond.length : Int) - 1 := w64 (by omega) (by omega)
    have hap : r.cond.map nc ++ [nc (notN r.cond)] = (r.cond ++ [notN r.cond]).map nc := by rw [List.map_append]; rfl
    simp (config := { maxSteps := 2000000 }) only [go_sem, ↓reduceIte, Int.reduceToNat, Nat.reduceMul, Int.reduceBEq, Int.reduceBNe, Nat.reduceBEq, Nat.reduceAdd, Nat.reduceSub, Nat.reduceLeDiff, Nat.reduceEqDiff, Nat.reduceLT, reduceCtorEq, e1]
    refine ⟨?_, ?_⟩
    · refine AOne.callA (o19 r.nl r.fl r.cond (by omega)) rfl (by rw [hn]; rfl) fun rg v hv' => ?_
      obtain ⟨rfl, rfl⟩ := hv'
      rw [retS_new]
      simp (config := { maxSteps := 2000000 }) only [go_sem, ↓reduceIte, Int.reduceToNat, Nat.reduceMul, Int.reduceBEq, Int.reduceBNe, Nat.reduceBEq, Nat.reduceAdd, Nat.reduceSub, Nat.reduceLeDiff, Nat.reduceEqDiff, Nat.reduceLT, reduceCtorEq]
      refine AOne.rule (AWpL.app (r := 2) (els := r.cond.map nc) (ys := [nc (notN r.cond)]) rfl rfl rfl rfl (by rw [hn]; rfl) (by simp) (pin 2) (by simp (config := { maxSteps := 2000000 }) only [go_sem, ↓reduceIte, Int.reduceToNat, Nat.reduceMul, Int.reduceBEq, Int.reduceBNe, Nat.reduceBEq, Nat.reduceAdd, Nat.reduceSub, Nat.reduceLeDiff, Nat.reduceEqDiff, Nat.reduceLT, reduceCtorEq, Nat.le_refl]) (fun el hm y hy => by
        rw [List.mem_singleton.1 hm] at hy
        simp only [List.mem_cons, List.not_mem_nil, or_false] at hy
        rcases hy with rfl | rfl | rfl | rfl <;> rfl) (by simp only [List.length_cons, List.length_nil]; omega) (by simp only [List.length_cons, List.length_nil]; omega) (AWpL.ofM hn rfl ?_))
      simp (config := { maxSteps := 2000000 }) only [go_sem, ↓reduceIte, Int.reduceToNat, Nat.reduceMul, Int.reduceBEq, Int.reduceBNe, Nat.reduceBEq, Nat.reduceAdd, Nat.reduceSub, Nat.reduceLeDiff, Nat.reduceEqDiff, Nat.reduceLT, reduceCtorEq, hap]
      exact weak_to [0, 1, 2] hp hnp rfl (by simp (config := { maxSteps := 2000000 }) only [go_sem, ↓reduceIte, Int.reduceToNat, Nat.reduceMul, Int.reduceBEq, Int.reduceBNe, Nat.reduceBEq, Nat.reduceAdd, Nat.reduceSub, Nat.reduceLeDiff, Nat.reduceEqDiff, Nat.reduceLT, reduceCtorEq, Aw.pos]) (by simp (config := { maxSteps := 2000000 }) only [go_sem, ↓reduceIte, Int.reduceToNat, Nat.reduceMul, Int.reduceBEq, Int.reduceBNe, Nat.reduceBEq, Nat.reduceAdd, Nat.reduceSub, Nat.reduceLeDiff, Nat.reduceEqDiff, Nat.reduceLT, reduceCtorEq, Aw.renR, Aw.pos])
    · refine AOne.callA (o19 r.nl r.fl r.cond (by omega)) rfl (by rw [hn]; rfl) fun rg v hv' => ?_
      obtain ⟨rfl, rfl⟩ := hv'
      rw [retS_new]
      simp (config := { maxSteps := 2000000 }) only [go_sem, ↓reduceIte, Int.reduceToNat, Nat.reduceMul, Int.reduceBEq, Int.reduceBNe, Nat.reduceBEq, Nat.reduceAdd, Nat.reduceSub, Nat.reduceLeDiff, Nat.reduceEqDiff, Nat.reduceLT, reduceCtorEq]
      refine AOne.rule (AWpL.app (r := 3) (els := r.cond.map nc) (ys := [nc (notN r.cond)]) rfl rfl rfl rfl (by rw [hn]; rfl) (by simp) (pin 3) (by simp (config := { maxSteps := 2000000 }) only [go_sem, ↓reduceIte, Int.reduceToNat, Nat.reduceMul, Int.reduceBEq, Int.reduceBNe, Nat.reduceBEq, Nat.reduceAdd, Nat.reduceSub, Nat.reduceLeDiff, Nat.reduceEqDiff, Nat.reduceLT, reduceCtorEq, Nat.le_refl]) (fun el hm y hy => by
        rw [List.mem_singleton.1 hm] at hy
        simp only [List.mem_cons, List.not_mem_nil, or_false] at hy
        rcases hy with rfl | rfl | rfl | rfl <;> rfl) (by simp only [List.length_cons, List.length_nil]; omega) (by simp only [List.length_cons, List.length_nil]; omega) (AWpL.ofM hn rfl ?_))
      simp (config := { maxSteps := 2000000 }) only [go_sem, ↓reduceIte, Int.reduceToNat, Nat.reduceMul, Int.reduceBEq, Int.reduceBNe, Nat.reduceBEq, Nat.reduceAdd, Nat.reduceSub, Nat.reduceLeDiff, Nat.reduceEqDiff, Nat.reduceLT, reduceCtorEq, hap]
      exact weak_to [0, 1, 3] hp hnp rfl (by simp (config := { maxSteps := 2000000 }) only [go_sem, ↓reduceIte, Int.reduceToNat, Nat.reduceMul, Int.reduceBEq, Int.reduceBNe, Nat.reduceBEq, Nat.reduceAdd, Nat.reduceSub, Nat.reduceLeDiff, Nat.reduceEqDiff, Nat.reduceLT, reduceCtorEq, Aw.pos]) (by simp (config := { maxSteps := 2000000 }) only [go_sem, ↓reduceIte, Int.reduceToNat, Nat.reduceMul, Int.reduceBEq, Int.reduceBNe, Nat.reduceBEq, Nat.reduceAdd, Nat.reduceSub, Nat.reduceLeDiff, Nat.reduceEqDiff, Nat.reduceLT, reduceCtorEq, Aw.renR, Aw.pos])
  have hlen : ((r.cond ++ [notN r.cond]).map nc).length = r.cond.length + 1 := by simp
  have htk : ((r.cond ++ [notN r.cond]).map nc).take (r.cond.length + 1) = (r.cond ++ [notN r.cond]).map nc := List.take_of_length_le (by rw [hlen]; exact Nat.le_refl _)
  refine AWp.ofD [] [] hn mixed rfl ?_
  simp (config := { maxSteps := 2000000 }) only [go_sem, ↓reduceIte, Int.reduceToNat, Nat.reduceMul, Int.reduceBEq, Int.reduceBNe, Nat.reduceBEq, Nat.reduceAdd, Nat.reduceSub, Nat.reduceLeDiff, Nat.reduceEqDiff, Nat.reduceLT, reduceCtorEq]
  refine Retn.weak (weak_freeze 2 rfl (pin 2) (by simp (config := { maxSteps := 2000000 }) only [go_sem, ↓reduceIte, Int.reduceToNat, Nat.reduceMul, Int.reduceBEq, Int.reduceBNe, Nat.reduceBEq, Nat.reduceAdd, Nat.reduceSub, Nat.reduceLeDiff, Nat.reduceEqDiff, Nat.reduceLT, reduceCtorEq, hlen, Nat.le_refl])) _ ?_
  simp (config := { maxSteps := 2000000 }) only [go_sem, ↓reduceIte, Int.reduceToNat, Nat.reduceMul, Int.reduceBEq, Int.reduceBNe, Nat.reduceBEq, Nat.reduceAdd, Nat.reduceSub, Nat.reduceLeDiff, Nat.reduceEqDiff, Nat.reduceLT, reduceCtorEq, htk]
  refine Retn.ret (π := [1]) hp hnp ⟨rfl, ?_⟩
  simp (config := { maxSteps := 2000000 }) only [go_sem, ↓reduceIte, Int.reduceToNat, Nat.reduceMul, Int.reduceBEq, Int.reduceBNe, Nat.reduceBEq, Nat.reduceAdd, Nat.reduceSub, Nat.reduceLeDiff, Nat.reduceEqDiff, Nat.reduceLT, reduceCtorEq, Aw.renR, Aw.pos]
  exact ⟨rfl, rfl⟩
set_option maxRecDepth 20000 in
set_option maxHeartbeats 1000000 in
theorem s3 (r : Rul) (na fa) (a : List Sta) (hr : RulW r) (ha : ∀ x ∈ a, x.name.size ≤ 9223372036854775807) :
    Aw.Spec Tryd.prog 3 [] [.agg (rlc r), sts' na fa a] (Gives (· = B true)) := by
  refine Aw.Spec.givesW k3 rfl rfl fun E hn hnp hp => ?_
  unfold a3
  have pin : ∀ r, E.pin r = none := fun r => hp.none hnp (Nat.zero_le _)
  refine AWp.ofD [] [] hn mixed rfl ?_
  simp (config := { maxSteps := 2000000 }) only [go_sem, ↓reduceIte, Int.reduceToNat, Nat.reduceMul, Int.reduceBEq, Int.reduceBNe, Nat.reduceBEq, Nat.reduceAdd, Nat.reduceSub, Nat.reduceLeDiff, Nat.reduceEqDiff, Nat.reduceLT, reduceCtorEq]
  refine AWpL.callA [] (s7 r hr) rfl rfl (by rw [hn]; rfl) rfl (fun r hr => by cases hr) fun rg v hv => ?_
  obtain ⟨rfl, rfl⟩ := hv
  refine ⟨Nat.zero_le _, ?_⟩
  rw [retS_new]
  refine AWpL.ofM hn rfl ?_
  simp (config := { maxSteps := 2000000 }) only [go_sem, ↓reduceIte, Int.reduceToNat, Nat.reduceMul, Int.reduceBEq, Int.reduceBNe, Nat.reduceBEq, Nat.reduceAdd, Nat.reduceSub, Nat.reduceLeDiff, Nat.reduceEqDiff, Nat.reduceLT, reduceCtorEq]
  refine AWpL.weak (weak_freeze 3 rfl (pin 3) (by simp (config := { maxSteps := 2000000 }) only [go_sem, ↓reduceIte, Int.reduceToNat, Nat.reduceMul, Int.reduceBEq, Int.reduceBNe, Nat.reduceBEq, Nat.reduceAdd, Nat.reduceSub, Nat.reduceLeDiff, Nat.reduceEqDiff, Nat.reduceLT, reduceCtorEq, Nat.le_refl])) (AWpL.ofM hn rfl ?_)
  simp (config := { maxSteps := 2000000 }) only [go_sem, ↓reduceIte, Int.reduceToNat, Nat.reduceMul, Int.reduceBEq, Int.reduceBNe, Nat.reduceBEq, Nat.reduceAdd, Nat.reduceSub, Nat.reduceLeDiff, Nat.reduceEqDiff, Nat.reduceLT, reduceCtorEq]
  have hr1 : ∀ x ∈ [r], RulOk x := fun x hx => by rw [List.mem_singleton.1 hx]; exact hr.1
  have hr2 : ∀ x ∈ [negR r], RulOk x := fun x hx => by
    rw [List.mem_singleton.1 hx]
    refine ⟨hr.1.1, fun y hy => ?_⟩
    rcases List.mem_append.1 hy with hy | hy
    · exact hr.1.2 y hy
    · rw [List.mem_singleton.1 hy]; exact Nat.zero_le _
  refine AWpL.calle (s8 none true [r] na fa a r.close r.sw hr1 ha) rfl (by rw [hn]; rfl) (by simp (config := { maxSteps := 2000000 }) only [go_sem, ↓reduceIte, Int.reduceToNat, Nat.reduceMul, Int.reduceBEq, Int.reduceBNe, Nat.reduceBEq, Nat.reduceAdd, Nat.reduceSub, Nat.reduceLeDiff, Nat.reduceEqDiff, Nat.reduceLT, reduceCtorEq]) (AWpL.ofM hn rfl ?_)
  simp (config := { maxSteps := 2000000 }) only [go_sem, ↓reduceIte, Int.reduceToNat, Nat.reduceMul, Int.reduceBEq, Int.reduceBNe, Nat.reduceBEq, Nat.reduceAdd, Nat.reduceSub, Nat.reduceLeDiff, Nat.reduceEqDiff, Nat.reduceLT, reduceCtorEq]
  refine AWpL.weak (weak_freeze 4 rfl (pin 4) (by simp (config := { maxSteps := 2000000 }) only [go_sem, ↓reduceIte, Int.reduceToNat, Nat.reduceMul, Int.reduceBEq, Int.reduceBNe, Nat.reduceBEq, Nat.reduceAdd, Nat.reduceSub, Nat.reduceLeDiff, Nat.reduceEqDiff, Nat.reduceLT, reduceCtorEq, Nat.le_refl])) (AWpL.ofM hn rfl ?_)
  simp (config := { maxSteps := 2000000 }) only [go_sem, ↓reduceIte, Int.reduceToNat, Nat.reduceMul, Int.reduceBEq, Int.reduceBNe, Nat.reduceBEq, Nat.reduceAdd, Nat.reduceSub, Nat.reduceLeDiff, Nat.reduceEqDiff, Nat.reduceLT, reduceCtorEq]
  refine AWpL.calle (s8 none true [negR r] na fa a r.close r.sw hr2 ha) rfl (by rw [hn]; rfl) (by simp (config := { maxSteps := 2000000 }) only [go_sem, ↓reduceIte, Int.reduceToNat, Nat.reduceMul, Int.reduceBEq, Int.reduceBNe, Nat.reduceBEq, Nat.reduceAdd, Nat.reduceSub, Nat.reduceLeDiff, Nat.reduceEqDiff, Nat.reduceLT, reduceCtorEq]) (AWpL.ofM hn rfl ?_)
  simp (config := { maxSteps := 2000000 }) only [go_sem, ↓reduceIte, Int.reduceToNat, Nat.reduceMul, Int.reduceBEq, Int.reduceBNe, Nat.reduceBEq, Nat.reduceAdd, Nat.reduceSub, Nat.reduceLeDiff, Nat.reduceEqDiff, Nat.reduceLT, reduceCtorEq]
  have hk := neg_law r a
  generalize explE [r] a r.sw = e1 at *
  generalize explE [negR r] a r.sw = e2 at *
  generalize permF [r] a r.close r.sw = p1 at *
  generalize permF [negR r] a r.close r.sw = p2 at *
  simp only [Bool.or_eq_true, Bool.or_eq_false_iff, bne_iff_ne, bne_eq_false_iff_eq, ne_eq]
  refine ⟨fun h => ?_, fun h => ?_⟩
  · have h1 := hk.1 h
    (refine AWpL.calle (s9) rfl (by rw [hn]; rfl) (by simp (config := { maxSteps := 2000000 }) only [go_sem, ↓reduceIte, Int.reduceToNat, Nat.reduceMul, Int.reduceBEq, Int.reduceBNe, Nat.reduceBEq, Nat.reduceAdd, Nat.reduceSub, Nat.reduceLeDiff, Nat.reduceEqDiff, Nat.reduceLT, reduceCtorEq]) (AWpL.ofM hn rfl ?_); simp (config := { maxSteps := 2000000 }) only [go_sem, ↓reduceIte, Int.reduceToNat, Nat.reduceMul, Int.reduceBEq, Int.reduceBNe, Nat.reduceBEq, Nat.reduceAdd, Nat.reduceSub, Nat.reduceLeDiff, Nat.reduceEqDiff, Nat.reduceLT, reduceCtorEq])
    simp (config := { maxSteps := 2000000 }) only [go_sem, ↓reduceIte, Int.reduceToNat, Nat.reduceMul, Int.reduceBEq, Int.reduceBNe, Nat.reduceBEq, Nat.reduceAdd, Nat.reduceSub, Nat.reduceLeDiff, Nat.reduceEqDiff, Nat.reduceLT, reduceCtorEq, h1]
    (repeat (refine And.intro (by first | omega | (refine ⟨by omega, by omega⟩) | (refine ⟨by omega, by omega, by omega⟩) | (simp only [List.length_map, List.length_range, List.length_append, List.length_cons, List.length_nil, List.length_replicate, List.length_set]; omega) | (simp; omega) | (intro hgd; cases hgd) | (intro hgd; refine ⟨hgd, ?_⟩; first | omega | (refine ⟨by omega, by omega⟩) | (simp; omega))) ?_))
  · have h1 := hk.2 h.1 h.2
    (refine AWpL.calle (s9) rfl (by rw [hn]; rfl) (by simp (config := { maxSteps := 2000000 }) only [go_sem, ↓reduceIte, Int.reduceToNat, Nat.reduceMul, Int.reduceBEq, Int.reduceBNe, Nat.reduceBEq, Nat.reduceAdd, Nat.reduceSub, Nat.reduceLeDiff, Nat.reduceEqDiff, Nat.reduceLT, reduceCtorEq]) (AWpL.ofM hn rfl ?_); simp (config := { maxSteps := 2000000 }) only [go_sem, ↓reduceIte, Int.reduceToNat, Nat.reduceMul, Int.reduceBEq, Int.reduceBNe, Nat.reduceBEq, Nat.reduceAdd, Nat.reduceSub, Nat.reduceLeDiff, Nat.reduceEqDiff, Nat.reduceLT, reduceCtorEq])
    simp (config := { maxSteps := 2000000 }) only [go_sem, ↓reduceIte, Int.reduceToNat, Nat.reduceMul, Int.reduceBEq, Int.reduceBNe, Nat.reduceBEq, Nat.reduceAdd, Nat.reduceSub, Nat.reduceLeDiff, Nat.reduceEqDiff, Nat.reduceLT, reduceCtorEq, h1]
end Go.Proofs.YtocghkacngoblaaDoor
