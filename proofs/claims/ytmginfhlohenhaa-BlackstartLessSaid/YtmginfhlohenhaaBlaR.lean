/- Black starts: the law of missing switches. -/
import Derived.Test.YtmginfhlohenhaaAwZk
import Derived.Test.YtmginfhlohenhaaBlaQ
set_option linter.unusedVariables false
set_option linter.unusedSimpArgs false
namespace Go.Proofs.Ytmginfhlohenhaa
open Go.Proofs.Ytmginfhlohenhaa.Aw
attribute [local go_sem] Int.natCast_zero Int.natCast_one bne_self_eq_false beq_self_eq_true Bool.not_true Bool.not_false Option.isSome_none Option.isSome_some Aw.bkM_nil Option.getD_some Option.getD_none Nat.sub_zero Int.toNat_zero Aw.frzS Aw.frzT Aw.frzA Aw.frzL Aw.frzR Aw.frzO Aw.frzOL Aw.frzOT Aw.frzOR Aw.killS Aw.mapT Aw.mapR Aw.killM Aw.resAVs Aw.resAV Aw.quietOps Aw.wpP Aw.wpT Aw.wpS Aw.AOp.mild List.getElem?_cons_zero List.getElem?_cons_succ Bool.and_false Bool.and_self Bool.false_and Aw.opOb Aw.gdB Aw.Rnd Aw.subTm List.length_map Int.toNat_natCast and_self Aw.SeqC Aw.stops Aw.Ends Aw.looks Aw.renA Aw.renL Aw.renT Aw.renS Aw.wpO Aw.aop Aw.putTm Aw.St.ev Aw.St.put Aw.St.putO Aw.binAV Aw.intBin Aw.strBin Aw.pickAV Aw.optInt Aw.AV.strip Aw.AV.guard Aw.AV.cells Aw.gdOb Aw.AOp.opds Aw.AOp.still Aw.ptrCells Aw.St.reg Aw.fillAV Aw.fillOb Aw.elsOb Aw.splice Aw.firm Aw.cellish Aw.AV.shut Aw.shutAll Aw.Seq Aw.Blk Aw.retS_nil Aw.mapA Aw.mapL Aw.borA Aw.borOb Aw.allOb Aw.tupOf Aw.params Aw.Opd.of Array.toList Value.cells List.map_cons List.map_nil List.getD_cons_zero List.getD_cons_succ List.getD_nil List.length_cons List.length_nil List.take_succ_cons List.take_zero List.take_nil List.drop_zero List.drop_succ_cons List.drop_nil List.set_cons_zero List.set_cons_succ List.append_nil List.nil_append List.cons_append List.all_cons List.all_nil cond_false cond_true if_true if_false true_and and_true Bool.and_true Bool.true_and Option.map_some Option.map_none false_implies forall_const implies_true forall_eq imp_self Bool.cond_false_right Bool.cond_true_left beq_true beq_false Bool.not_eq_true' Bool.false_eq_true Nat.zero_add Nat.add_zero Aw.eqCells Aw.stopDraw Aw.skipS Aw.exactCap Aw.revealS Aw.srcEls Aw.srcSz
attribute [local go_sem ↓] Aw.look_nil Aw.look_ite Aw.wpL_nil Aw.wpL_op Aw.wpL_gd Aw.wpQ_nil Aw.wpQ_op Aw.wpQ_gd Aw.wpC_draw Aw.wpC_reg Aw.wpC_skip Aw.wpC_ret Aw.wpC_exit Aw.wpC_seq Aw.wpC_block Aw.wpC_loop Aw.wpC_cond Aw.stopAt_nil Aw.stopAt_cons Aw.wpD_skip Aw.wpD_ret Aw.wpD_exit Aw.wpD_region Aw.wpD_draw Aw.wpM_nil Aw.wpM_op Aw.wpM_gd Aw.wpD_seq Aw.wpD_block Aw.wpD_loop Aw.wpD_cond
open Go.RowKit
/- gridhall/gridhallkeep4.cut -/
def a15 : ACode :=
  (.seq (.region false [] [
     ⟨(some 1), none, (.box 29 (.t 0))⟩,
     ⟨(some 2), none, (.alloc 29 (.agg #[(.slice none 0 0), (.slice none 0 0), (.slice none 0 0), (.slice none 0 0), (.slice none 0 0), (.slice none 0 0)]))⟩])
  (.seq (.region false [] [
     ⟨(some 3), none, (.fld 4 (.t 1))⟩,
     ⟨(some 4), none, (.load 1 false (.t 3))⟩,
     ⟨(some 5), none, (.fld 4 (.t 1))⟩,
     ⟨(some 6), none, (.load 1 false (.t 5))⟩,
     ⟨(some 7), none, (.len (.t 6))⟩,
     ⟨(some 8), none, (.mni (.t 7) (.v (.int .i64 4)))⟩,
     ⟨(some 9), none, (.slc 3 (.t 4) none (some (.t 8)) none)⟩,
     ⟨(some 10), none, (.fld 4 (.t 1))⟩,
     ⟨none, none, (.store 1 (.t 10) (.t 9))⟩])
  (.seq (.region false [] [
     ⟨(some 11), none, (.fld 3 (.t 1))⟩,
     ⟨(some 12), none, (.load 1 false (.t 11))⟩,
     ⟨(some 13), none, (.fld 3 (.t 1))⟩,
     ⟨(some 14), none, (.load 1 false (.t 13))⟩,
     ⟨(some 15), none, (.len (.t 14))⟩,
     ⟨(some 16), none, (.mni (.t 15) (.v (.int .i64 4)))⟩,
     ⟨(some 17), none, (.slc 5 (.t 12) none (some (.t 16)) none)⟩,
     ⟨(some 18), none, (.fld 3 (.t 1))⟩,
     ⟨none, none, (.store 1 (.t 18) (.t 17))⟩])
  (.seq (.region false [] [
     ⟨(some 19), none, (.load 6 true (.t 1))⟩,
     ⟨none, none, (.store 6 (.t 2) (.t 19))⟩])
  .ret))))
theorem k15 : FnIs Try.prog 15 20 [.c 2 6 true] a15 := ⟨_, _, Try.func15, rfl, by kernel_rfl, by kernel_rfl, rfl⟩
/- gridhall/gridhallkeep4.BlackstartLess -/
def a4 : ACode :=
  (.seq (.region false [] [
     ⟨(some 3), none, (.box 29 (.t 0))⟩,
     ⟨(some 6), none, (.mov (.v (.bool false)))⟩])
  (.seq (.region false [] [
     ⟨(some 12), none, (.load 6 true (.t 3))⟩,
     ⟨(some 13), none, (.call 15 [(.t 12)])⟩,
     ⟨none, none, (.store 6 (.t 3) (.t 13))⟩])
  (.seq (.region false [] [
     ⟨(some 15), none, (.load 6 true (.t 3))⟩,
     ⟨(some 16), none, (.mov (.t 1))⟩,
     ⟨(some 17), none, (.call 16 [(.t 15), (.t 16)])⟩,
     ⟨(some 14), none, (.mov (.t 17))⟩,
     ⟨(some 18), none, (.ext 0 (.t 14))⟩,
     ⟨(some 19), none, (.ext 1 (.t 14))⟩,
     ⟨(some 7), none, (.mov (.t 18))⟩,
     ⟨(some 8), none, (.mov (.t 19))⟩])
  (.seq (.seq (.region false [] [
     ⟨(some 20), none, (.mov (.t 8))⟩,
     ⟨(some 21), none, (.bin .neq 30 (.t 20) (.v (.int .i64 0)))⟩,
     ⟨(some 22), none, (.mov (.t 21))⟩,
     ⟨(some 23), (some (22, false)), (.mov (.t 7))⟩,
     ⟨(some 24), (some (22, false)), (.len (.t 23))⟩,
     ⟨(some 25), (some (22, false)), (.bin .eql 3 (.t 24) (.v (.int .i64 0)))⟩,
     ⟨(some 26), none, (.pick (.t 22) (.v (.bool true)) (.t 25))⟩])
  (.cond (.t 26)
    (.seq (.region false [] [
       ⟨(some 27), none, (.call 7 [])⟩,
       ⟨(some 6), none, (.mov (.t 27))⟩])
    .ret)
    .skip))
  (.seq (.region false [] [
     ⟨(some 28), none, (.mov (.t 2))⟩,
     ⟨(some 29), none, (.mov (.t 7))⟩,
     ⟨(some 30), none, (.len (.t 29))⟩,
     ⟨(some 31), none, (.bin .sub 3 (.t 30) (.v (.int .i64 1)))⟩,
     ⟨(some 32), none, (.call 8 [(.t 28), (.v (.int .i64 0)), (.t 31)])⟩,
     ⟨(some 2), none, (.mov (.t 32))⟩])
  (.seq (.seq (.region false [] [
     ⟨(some 33), none, (.mov (.t 7))⟩,
     ⟨(some 34), none, (.mov (.t 2))⟩,
     ⟨(some 35), none, (.idx 2 (.t 33) (.t 34))⟩,
     ⟨(some 36), none, (.fld 1 (.t 35))⟩,
     ⟨(some 37), none, (.load 1 false (.t 36))⟩,
     ⟨(some 38), none, (.len (.t 37))⟩,
     ⟨(some 39), none, (.bin .eql 3 (.t 38) (.v (.int .i64 0)))⟩])
  (.cond (.t 39)
    (.seq (.region false [] [
       ⟨(some 40), none, (.call 7 [])⟩,
       ⟨(some 6), none, (.mov (.t 40))⟩])
    .ret)
    .skip))
  (.seq (.region false [] [
     ⟨(some 41), none, (.mov (.t 7))⟩,
     ⟨(some 42), none, (.mov (.t 2))⟩,
     ⟨(some 43), none, (.idx 2 (.t 41) (.t 42))⟩,
     ⟨(some 44), none, (.fld 1 (.t 43))⟩,
     ⟨none, none, (.store 1 (.t 44) (.v (.slice none 0 0)))⟩])
  (.seq (.region false [] [
     ⟨(some 46), none, (.load 6 true (.t 3))⟩,
     ⟨(some 47), none, (.mov (.t 1))⟩,
     ⟨(some 48), none, (.mov (.t 7))⟩,
     ⟨(some 49), none, (.call 17 [(.t 46), (.t 47), (.t 48)])⟩,
     ⟨(some 45), none, (.mov (.t 49))⟩,
     ⟨(some 50), none, (.ext 0 (.t 45))⟩,
     ⟨(some 51), none, (.ext 1 (.t 45))⟩,
     ⟨(some 52), none, (.ext 2 (.t 45))⟩,
     ⟨(some 9), none, (.alloc 29 (.agg #[(.slice none 0 0), (.slice none 0 0), (.slice none 0 0), (.slice none 0 0), (.slice none 0 0), (.slice none 0 0)]))⟩,
     ⟨none, none, (.store 6 (.t 9) (.t 50))⟩,
     ⟨(some 10), none, (.mov (.t 51))⟩,
     ⟨(some 11), none, (.mov (.t 52))⟩])
  (.seq (.region false [] [
     ⟨(some 53), none, (.call 7 [])⟩,
     ⟨(some 54), none, (.mov (.t 53))⟩,
     ⟨(some 55), (some (54, true)), (.mov (.t 11))⟩,
     ⟨(some 56), (some (54, true)), (.bin .eql 30 (.t 55) (.v (.int .i64 15)))⟩,
     ⟨(some 57), none, (.pick (.t 54) (.t 56) (.v (.bool false)))⟩,
     ⟨(some 58), none, (.mov (.t 57))⟩,
     ⟨(some 59), (some (58, true)), (.mov (.t 10))⟩,
     ⟨(some 60), (some (58, true)), (.mov (.t 2))⟩,
     ⟨(some 61), (some (58, true)), (.bin .eql 3 (.t 59) (.t 60))⟩,
     ⟨(some 62), none, (.pick (.t 58) (.t 61) (.v (.bool false)))⟩,
     ⟨(some 6), none, (.mov (.t 62))⟩])
  .ret)))))))))
theorem k4 : FnIs Try.prog 4 63 [.t 6] a4 := ⟨_, _, Try.func4, rfl, by kernel_rfl, by kernel_rfl, rfl⟩

theorem RcList_set {w : World} {ok : Nat → Prop} : ∀ {xs : List AV} {vs : List Value} {i : Nat} {y : AV}, RcList w ok xs vs → (∀ x v, xs[i]? = some x → Rc w ok x v → Rc w ok y v) → RcList w ok (xs.set i y) vs
  | [], vs, i, y, h, _ => h
  | x :: xs, vs, 0, y, h, k => by
    unfold RcList at h
    obtain ⟨v, vs', rfl, h1, h2⟩ := h
    rw [List.set_cons_zero]
    unfold RcList
    exact ⟨_, _, rfl, k x v rfl h1, h2⟩
  | x :: xs, vs, i + 1, y, h, k => by
    unfold RcList at h
    obtain ⟨v, vs', rfl, h1, h2⟩ := h
    rw [List.set_cons_succ]
    unfold RcList
    exact ⟨_, _, rfl, h1, RcList_set h2 fun x v hx => k x v hx⟩
/-- The elements of an array say less. -/
theorem weak_els {E : Env} {s : St} (r : Nat) {e : TypeId} {sz : Nat} {els els' : List (List AV)} (hg : s.reg r = .arr e sz els) (hlen : ∀ el ∈ els', el.length = sz) (hnil : els = [] → els' = []) (hE : ∀ w ok vs, RcList w ok els.flatten vs → RcList w ok els'.flatten vs) : Weak E s ⟨s.tm, s.rg.set r (.arr e sz els')⟩ := fun a w ⟨ρ, ok, hr⟩ => by
  have hgs := reg_some hg (by simp)
  have hrlt := (List.getElem?_eq_some_iff.1 hgs).1
  refine ⟨ρ, ok, ⟨hr.mem.okl, hr.mem.inj, hr.mem.own, fun k g hk => ?_, fun k hk => hr.mem.out k (by simpa using hk)⟩, hr.tm, hr.siz, hr.dfr, hr.kps, hr.bas, hr.ownr, hr.okr, hr.pin⟩
  by_cases e1 : k = r
  · subst e1
    rw [List.getElem?_set] at hk
    simp only [if_true, hrlt] at hk
    obtain rfl := Option.some.inj hk
    rcases hr.mem.reg k _ hgs with ⟨b, d, C, pre, vs, rest, h1, h2, h3, h4, h5, h6⟩ | ⟨h1, h2⟩
    · exact .inl ⟨b, d, C, pre, vs, rest, h1, h2, h3, h4, hlen, hE _ _ _ h6⟩
    · exact .inr ⟨hnil h1, h2⟩
  · rw [List.getElem?_set_ne (Ne.symm e1)] at hk
    exact hr.mem.reg k g hk
theorem rc_ofnil {w : World} {ok : Nat → Prop} {v : Value} (h : Rc w ok (.val (.slice none 0 0)) v) : Rc w ok (ss none false []) v := by
  unfold Rc at h
  subst h
  unfold Rc
  exact ⟨none, 0, rfl, Nat.le_refl _, fun q hq => (by cases hq), fun _ => rfl, fun h => (by cases h), fun a h => (by cases h)⟩
/-- A step without its switches, in memory. -/
theorem flat_nil (l : List Stp) (k : Nat) (hk : k < l.length) (a : ByteArray) : ∀ w ok vs, RcList w ok ((l.map stc).set k [S a, .val (.slice none 0 0)]).flatten vs → RcList w ok ((l.set k (a, [])).map stc).flatten vs := by
  have key : ∀ (l : List Stp) (k : Nat), k < l.length → ((l.set k (a, [])).map stc).flatten = ((l.map stc).set k [S a, .val (.slice none 0 0)]).flatten.set (2 * k + 1) (ss none false []) ∧ ((l.map stc).set k [S a, .val (.slice none 0 0)]).flatten[2 * k + 1]? = some (.val (.slice none 0 0)) := fun l => by
    induction l with
    | nil => intro k h; simp at h
    | cons x l ih =>
      intro k h
      cases k with
      | zero => exact ⟨rfl, rfl⟩
      | succ k =>
        obtain ⟨h1, h2⟩ := ih k (by simpa using h)
        rw [List.map_cons, List.set_cons_succ, List.set_cons_succ, List.map_cons, List.flatten_cons, List.flatten_cons, h1, show 2 * (k + 1) + 1 = (2 * k + 1) + 2 by omega]
        refine ⟨rfl, ?_⟩
        rw [← h2]; rfl
  intro w ok vs h
  obtain ⟨h1, h2⟩ := key l k hk
  rw [h1]
  refine RcList_set h fun x v hx hr => ?_
  rw [h2] at hx
  cases hx
  exact rc_ofnil hr
def shortN (n : Net) : Net := { n with gens := ⟨n.gens.nl, false, n.gens.l.take 4⟩, loads := ⟨n.loads.nl, false, n.loads.l.take 4⟩ }
theorem shortN_ok {n : Net} (hk : NetOk n) : NetOk (shortN n) := ⟨hk.nodes, hk.nlen, hk.sws, hk.brs, fun x hx => hk.gens x (List.mem_of_mem_take hx), fun x hx => hk.loads x (List.mem_of_mem_take hx), hk.stores⟩
theorem s15 (n : Net) : Aw.Spec Try.prog 15 [] [neta n] (fun rg v => rg = [.box 29 (netc (shortN n))] ∧ v = neta (shortN n)) := by
  refine Aw.Spec.regsW k15 rfl rfl fun E hn hnp hp => ?_
  unfold a15
  have e1 : min (n.loads.l.length : Int) 4 = ((min n.loads.l.length 4 : Nat) : Int) := by omega
  have e2 : min (n.gens.l.length : Int) 4 = ((min n.gens.l.length 4 : Nat) : Int) := by omega
  have tk : ∀ {α : Type} (c : α → List AV) (l : List α), (l.map c).take (min l.length 4) = (l.take 4).map c := fun c l => by
    rw [← List.map_take]
    congr 1
    rcases Nat.le_total l.length 4 with h | h
    · rw [Nat.min_eq_left h, List.take_of_length_le (Nat.le_refl _), List.take_of_length_le h]
    · rw [Nat.min_eq_right h]
  refine AWp.ofD [] [] hn mixed rfl ?_
  simp (config := { maxSteps := 2000000 }) only [go_sem, ↓reduceIte, Int.reduceToNat, Nat.reduceMul, Int.reduceBEq, Int.reduceBNe, Nat.reduceBEq, Nat.reduceAdd, Nat.reduceSub, Nat.reduceLeDiff, Nat.reduceEqDiff, Nat.reduceLT, reduceCtorEq, e1, e2, tk]
  refine ⟨by omega, by omega, ?_⟩
  refine Retn.ret (π := [1]) hp hnp ⟨rfl, ?_⟩
  simp (config := { maxSteps := 2000000 }) only [go_sem, ↓reduceIte, Int.reduceToNat, Nat.reduceMul, Int.reduceBEq, Int.reduceBNe, Nat.reduceBEq, Nat.reduceAdd, Nat.reduceSub, Nat.reduceLeDiff, Nat.reduceEqDiff, Nat.reduceLT, reduceCtorEq, Aw.renR, Aw.pos]
  exact ⟨rfl, rfl⟩
theorem plan_zero {n : Net} {l : List ByteArray} (h : planE n l = 0) : checkE n l = 0 ∧ planR n l = some (planS n l) := by
  unfold planE at h
  unfold planS
  split at h
  · rename_i h1; exact absurd h h1
  · rename_i h1
    have h1 : checkE n l = 0 := by simpa using h1
    refine ⟨h1, ?_⟩
    rw [if_neg (by simp [h1])]
    cases hp : planR n l with
    | none => rw [hp] at h; cases h
    | some L => rfl
set_option maxRecDepth 20000 in
set_option maxHeartbeats 4000000 in
theorem s4 (n : Net) (hk : NetOk n) (nl fl) (src : List ByteArray) (k0 : Int) (hsl : src.length ≤ 9223372036854775807) : Aw.Spec Try.prog 4 [] [neta n, ss nl fl src, I k0] (Gives (· = B true)) := by
  refine Aw.Spec.givesW k4 rfl rfl fun E hn hnp hp => ?_
  unfold a4
  have pin : ∀ r, E.pin r = none := fun r => hp.none hnp (Nat.zero_le _)
  refine AWp.ofD [] [] hn mixed rfl ?_
  simp (config := { maxSteps := 2000000 }) only [go_sem, ↓reduceIte, Int.reduceToNat, Nat.reduceMul, Int.reduceBEq, Int.reduceBNe, Nat.reduceBEq, Nat.reduceAdd, Nat.reduceSub, Nat.reduceLeDiff, Nat.reduceEqDiff, Nat.reduceLT, reduceCtorEq]
  refine AWpL.callA [] (s15 n) rfl rfl (by rw [hn]; rfl) rfl (fun r hr => by cases hr) fun rg v hv' => ?_
  obtain ⟨rfl, rfl⟩ := hv'
  refine ⟨Nat.zero_le _, ?_⟩
  have hck := shortN_ok hk
  generalize shortN n = c at *
  rw [retS_new]
  refine AWpL.ofM hn rfl ?_
  simp (config := { maxSteps := 2000000 }) only [go_sem, ↓reduceIte, Int.reduceToNat, Nat.reduceMul, Int.reduceBEq, Int.reduceBNe, Nat.reduceBEq, Nat.reduceAdd, Nat.reduceSub, Nat.reduceLeDiff, Nat.reduceEqDiff, Nat.reduceLT, reduceCtorEq]
  refine AWpL.callA [] (s16 c hck nl fl src hsl) rfl rfl (by rw [hn]; rfl) rfl (fun r hr => by cases hr) fun rg v hv' => ?_
  obtain ⟨rfl, rfl⟩ := hv'
  refine ⟨Nat.zero_le _, ?_⟩
  rw [retS_new]
  refine AWpL.ofM hn rfl ?_
  simp (config := { maxSteps := 2000000 }) only [go_sem, ↓reduceIte, Int.reduceToNat, Nat.reduceMul, Int.reduceBEq, Int.reduceBNe, Nat.reduceBEq, Nat.reduceAdd, Nat.reduceSub, Nat.reduceLeDiff, Nat.reduceEqDiff, Nat.reduceLT, reduceCtorEq]
  refine ⟨fun h => ?_, fun h => ?_⟩
  · (refine AWpL.calle (s7) rfl (by rw [hn]; rfl) (by simp (config := { maxSteps := 2000000 }) only [go_sem, ↓reduceIte, Int.reduceToNat, Nat.reduceMul, Int.reduceBEq, Int.reduceBNe, Nat.reduceBEq, Nat.reduceAdd, Nat.reduceSub, Nat.reduceLeDiff, Nat.reduceEqDiff, Nat.reduceLT, reduceCtorEq]) (AWpL.ofM hn rfl ?_); simp (config := { maxSteps := 2000000 }) only [go_sem, ↓reduceIte, Int.reduceToNat, Nat.reduceMul, Int.reduceBEq, Int.reduceBNe, Nat.reduceBEq, Nat.reduceAdd, Nat.reduceSub, Nat.reduceLeDiff, Nat.reduceEqDiff, Nat.reduceLT, reduceCtorEq])
  rw [Bool.or_eq_false_iff] at h
  have hE : planE c src = 0 := by simpa using h.1
  have hlen : (planS c src).length ≠ 0 := by have := h.2; simpa using this
  obtain ⟨hc0, hpl⟩ := plan_zero hE
  obtain ⟨hv, hgs⟩ := check_gens hc0
  have hsl2 := src_len hc0
  have hpo : planF c.gens.l.length (netO c) src = some (planS c src) := by rw [planF_o]; exact hpl
  have hlo := fun k (hk : k < (planS c src).length) hne => less_ok (netO_ok hck) (netO_v hv) hgs hpo hsl2 hk hne
  obtain ⟨_, _, h3, _⟩ := plan_ok (netO_ok hck) (netO_v hv) hgs hpo hsl2
  have h10 : c.gens.l.length ≤ 10 := hv.nge
  have h3 : (planS c src).length + src.length = c.gens.l.length := h3
  rw [hE]
  generalize planS c src = L at *
  have e1 : IntKind.i64.wrap ((L.length : Int) - 1) = (L.length : Int) - 1 := w64 (by omega) (by omega)
  have hci := cut_range k0 0 ((L.length : Int) - 1) (by omega)
  have hsi := s8 k0 0 ((L.length : Int) - 1) (by decide) (by omega) (by omega)
  obtain ⟨k, hkk⟩ : ∃ k : Nat, cut k0 0 ((L.length : Int) - 1) = k := ⟨(cut k0 0 ((L.length : Int) - 1)).toNat, by omega⟩
  rw [hkk] at hci hsi
  have hk' : k < L.length := by omega
  have e2 := getD_map stc hk'
  simp (config := { maxSteps := 2000000 }) only [go_sem, ↓reduceIte, Int.reduceToNat, Nat.reduceMul, Int.reduceBEq, Int.reduceBNe, Nat.reduceBEq, Nat.reduceAdd, Nat.reduceSub, Nat.reduceLeDiff, Nat.reduceEqDiff, Nat.reduceLT, reduceCtorEq, e1]
  (refine AWpL.calle (hsi) rfl (by rw [hn]; rfl) (by simp (config := { maxSteps := 2000000 }) only [go_sem, ↓reduceIte, Int.reduceToNat, Nat.reduceMul, Int.reduceBEq, Int.reduceBNe, Nat.reduceBEq, Nat.reduceAdd, Nat.reduceSub, Nat.reduceLeDiff, Nat.reduceEqDiff, Nat.reduceLT, reduceCtorEq]) (AWpL.ofM hn rfl ?_); simp (config := { maxSteps := 2000000 }) only [go_sem, ↓reduceIte, Int.reduceToNat, Nat.reduceMul, Int.reduceBEq, Int.reduceBNe, Nat.reduceBEq, Nat.reduceAdd, Nat.reduceSub, Nat.reduceLeDiff, Nat.reduceEqDiff, Nat.reduceLT, reduceCtorEq])
  simp (config := { maxSteps := 2000000 }) only [go_sem, ↓reduceIte, Int.reduceToNat, Nat.reduceMul, Int.reduceBEq, Int.reduceBNe, Nat.reduceBEq, Nat.reduceAdd, Nat.reduceSub, Nat.reduceLeDiff, Nat.reduceEqDiff, Nat.reduceLT, reduceCtorEq, e2]
  refine ⟨by omega, by omega, fun h5 => ?_, fun h5 => ?_⟩
  · (refine AWpL.calle (s7) rfl (by rw [hn]; rfl) (by simp (config := { maxSteps := 2000000 }) only [go_sem, ↓reduceIte, Int.reduceToNat, Nat.reduceMul, Int.reduceBEq, Int.reduceBNe, Nat.reduceBEq, Nat.reduceAdd, Nat.reduceSub, Nat.reduceLeDiff, Nat.reduceEqDiff, Nat.reduceLT, reduceCtorEq]) (AWpL.ofM hn rfl ?_); simp (config := { maxSteps := 2000000 }) only [go_sem, ↓reduceIte, Int.reduceToNat, Nat.reduceMul, Int.reduceBEq, Int.reduceBNe, Nat.reduceBEq, Nat.reduceAdd, Nat.reduceSub, Nat.reduceLeDiff, Nat.reduceEqDiff, Nat.reduceLT, reduceCtorEq])
  have hne : L[k].2 ≠ [] := fun e => by rw [e] at h5; simp at h5
  obtain ⟨v1, v2⟩ := hlo k hk' hne
  refine ⟨by omega, by omega, ?_⟩
  refine AWpL.weak (weak_els 2 (els' := (L.set k (L[k].1, [])).map stc) (by rfl) (fun el h => ?_) (fun h => ?_) (flat_nil L k hk' L[k].1)) ?_
  · obtain ⟨y, _, rfl⟩ := List.mem_map.1 h
    rfl
  · exfalso
    have := congrArg List.length h
    rw [List.length_set, List.length_map] at this
    exact hlen this
  simp (config := { maxSteps := 2000000 }) only [go_sem, ↓reduceIte, Int.reduceToNat, Nat.reduceMul, Int.reduceBEq, Int.reduceBNe, Nat.reduceBEq, Nat.reduceAdd, Nat.reduceSub, Nat.reduceLeDiff, Nat.reduceEqDiff, Nat.reduceLT, reduceCtorEq]
  refine AWpL.weak (weak_freeze 2 rfl (pin 2) (by simp (config := { maxSteps := 2000000 }) only [go_sem, ↓reduceIte, Int.reduceToNat, Nat.reduceMul, Int.reduceBEq, Int.reduceBNe, Nat.reduceBEq, Nat.reduceAdd, Nat.reduceSub, Nat.reduceLeDiff, Nat.reduceEqDiff, Nat.reduceLT, reduceCtorEq, Nat.le_refl, List.length_map, List.length_set])) (AWpL.ofM hn rfl ?_)
  have htk : ((L.set k (L[k].1, [])).map stc).take L.length = (L.set k (L[k].1, [])).map stc := List.take_of_length_le (by rw [List.length_map, List.length_set]; exact Nat.le_refl _)
  simp (config := { maxSteps := 2000000 }) only [go_sem, ↓reduceIte, Int.reduceToNat, Nat.reduceMul, Int.reduceBEq, Int.reduceBNe, Nat.reduceBEq, Nat.reduceAdd, Nat.reduceSub, Nat.reduceLeDiff, Nat.reduceEqDiff, Nat.reduceLT, reduceCtorEq, htk]
  refine AWpL.callA [] (s17 c hck nl fl src none false (L.set k (L[k].1, [])) hc0 (by rw [List.length_set]; omega) v1) rfl rfl (by rw [hn]; rfl) rfl (fun r hr => by cases hr) fun rg v hv' => ?_
  obtain ⟨rfl, rfl⟩ := hv'
  refine ⟨Nat.zero_le _, ?_⟩
  have v2 := v2 0
  rw [Nat.zero_add] at v2
  have cn : cellsN none = nil6 := rfl
  rw [v2, cn, retS_new]
  refine AWpL.ofM hn rfl ?_
  simp (config := { maxSteps := 2000000 }) only [go_sem, ↓reduceIte, Int.reduceToNat, Nat.reduceMul, Int.reduceBEq, Int.reduceBNe, Nat.reduceBEq, Nat.reduceAdd, Nat.reduceSub, Nat.reduceLeDiff, Nat.reduceEqDiff, Nat.reduceLT, reduceCtorEq]
  (refine AWpL.calle (s7) rfl (by rw [hn]; rfl) (by simp (config := { maxSteps := 2000000 }) only [go_sem, ↓reduceIte, Int.reduceToNat, Nat.reduceMul, Int.reduceBEq, Int.reduceBNe, Nat.reduceBEq, Nat.reduceAdd, Nat.reduceSub, Nat.reduceLeDiff, Nat.reduceEqDiff, Nat.reduceLT, reduceCtorEq]) (AWpL.ofM hn rfl ?_); simp (config := { maxSteps := 2000000 }) only [go_sem, ↓reduceIte, Int.reduceToNat, Nat.reduceMul, Int.reduceBEq, Int.reduceBNe, Nat.reduceBEq, Nat.reduceAdd, Nat.reduceSub, Nat.reduceLeDiff, Nat.reduceEqDiff, Nat.reduceLT, reduceCtorEq])
end Go.Proofs.Ytmginfhlohenhaa
