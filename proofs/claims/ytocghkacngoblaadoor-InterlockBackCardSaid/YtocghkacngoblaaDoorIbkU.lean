/- Interlocks: a text of rules. -/
import Derived.Test.YtocghkacngoblaaDoorIbkS
set_option linter.unusedVariables false
set_option linter.unusedSimpArgs false
namespace Go.Proofs.YtocghkacngoblaaDoor
open Go.Proofs.YtocghkacngoblaaDoor.Aw
attribute [local go_sem] Int.natCast_zero Int.natCast_one bne_self_eq_false beq_self_eq_true Bool.not_true Bool.not_false Option.isSome_none Option.isSome_some Aw.bkM_nil Option.getD_some Option.getD_none Nat.sub_zero Int.toNat_zero Aw.frzS Aw.frzT Aw.frzA Aw.frzL Aw.frzR Aw.frzO Aw.frzOL Aw.frzOT Aw.frzOR Aw.killS Aw.mapT Aw.mapR Aw.killM Aw.resAVs Aw.resAV Aw.quietOps Aw.wpP Aw.wpT Aw.wpS Aw.AOp.mild List.getElem?_cons_zero List.getElem?_cons_succ Bool.and_false Bool.and_self Bool.false_and Aw.opOb Aw.gdB Aw.Rnd Aw.subTm List.length_map Int.toNat_natCast and_self Aw.SeqC Aw.stops Aw.Ends Aw.looks Aw.renA Aw.renL Aw.renT Aw.renS Aw.wpO Aw.aop Aw.putTm Aw.St.ev Aw.St.put Aw.St.putO Aw.binAV Aw.intBin Aw.strBin Aw.pickAV Aw.optInt Aw.AV.strip Aw.AV.guard Aw.AV.cells Aw.gdOb Aw.AOp.opds Aw.AOp.still Aw.ptrCells Aw.St.reg Aw.fillAV Aw.fillOb Aw.elsOb Aw.splice Aw.firm Aw.cellish Aw.AV.shut Aw.shutAll Aw.Seq Aw.Blk Aw.retS_nil Aw.mapA Aw.mapL Aw.borA Aw.borOb Aw.allOb Aw.tupOf Aw.params Aw.Opd.of Array.toList Value.cells List.map_cons List.map_nil List.getD_cons_zero List.getD_cons_succ List.getD_nil List.length_cons List.length_nil List.take_succ_cons List.take_zero List.take_nil List.drop_zero List.drop_succ_cons List.drop_nil List.set_cons_zero List.set_cons_succ List.append_nil List.nil_append List.cons_append List.all_cons List.all_nil cond_false cond_true if_true if_false true_and and_true Bool.and_true Bool.true_and Option.map_some Option.map_none false_implies forall_const implies_true forall_eq imp_self Bool.cond_false_right Bool.cond_true_left beq_true beq_false Bool.not_eq_true' Bool.false_eq_true Nat.zero_add Nat.add_zero Aw.eqCells Aw.stopDraw Aw.skipS Aw.exactCap Aw.revealS Aw.srcEls Aw.srcSz
attribute [local go_sem ↓] Aw.look_nil Aw.look_ite Aw.wpL_nil Aw.wpL_op Aw.wpL_gd Aw.wpQ_nil Aw.wpQ_op Aw.wpQ_gd Aw.wpC_draw Aw.wpC_reg Aw.wpC_skip Aw.wpC_ret Aw.wpC_exit Aw.wpC_seq Aw.wpC_block Aw.wpC_loop Aw.wpC_cond Aw.stopAt_nil Aw.stopAt_cons Aw.wpD_skip Aw.wpD_ret Aw.wpD_exit Aw.wpD_region Aw.wpD_draw Aw.wpM_nil Aw.wpM_op Aw.wpM_gd Aw.wpD_seq Aw.wpD_block Aw.wpD_loop Aw.wpD_cond
open Ibk
def LnOk : List ByteArray → List Rul → Prop
  | [], [] => True
  | l :: ls, r :: rs => RuleOk l r ∧ LnOk ls rs
  | _, _ => False
theorem LnOk.len : ∀ {ls rs}, LnOk ls rs → ls.length = rs.length
  | [], [], _ => rfl
  | l :: ls, r :: rs, h => congrArg (· + 1) (LnOk.len h.2)
theorem LnOk.app : ∀ {ls rs l r}, LnOk ls rs → RuleOk l r → LnOk (ls ++ [l]) (rs ++ [r])
  | [], [], _, _, _, k => ⟨k, trivial⟩
  | _ :: ls, _ :: rs, _, _, h, k => ⟨h.1, LnOk.app h.2 k⟩
theorem LnOk.at : ∀ {ls rs} (i : Nat), LnOk ls rs → (h : i < ls.length) → ∃ r, RuleOk ls[i] r
  | l :: ls, r :: rs, 0, h, _ => ⟨r, h.1⟩
  | l :: ls, r :: rs, i + 1, h, hi => LnOk.at i h.2 (Nat.lt_of_succ_lt_succ hi)
  | [], _, i, _, h => absurd h (Nat.not_lt_zero _)
theorem RuleOk.fn {l : ByteArray} {r r' : Rul} (h : RuleOk l r) (k : RuleOk l r') : r = r' := by
  obtain ⟨sw, ws, t, h1, -, -, h2, -, h3⟩ := h
  obtain ⟨sw', ws', t', k1, -, -, k2, -, k3⟩ := k
  rw [h1] at k1
  injection k1 with e1 k1
  injection k1 with e2 k1
  injection k1 with _ k1
  subst e2 k1
  have e := PO.fn h2 k2
  injection e with e _
  subst e
  have e4 : r.close = r'.close := by
    unfold vb at e1
    cases hc : r.close <;> cases hc' : r'.close <;> rw [hc, hc'] at e1 <;> first | rfl | (exact absurd e1 (by decide +kernel))
  rw [h3, k3, e4]
theorem LnOk.fn : ∀ {ls rs rs'}, LnOk ls rs → LnOk ls rs' → rs = rs'
  | [], [], [], _, _ => rfl
  | l :: ls, r :: rs, r' :: rs', h, k => by rw [h.1.fn k.1, LnOk.fn h.2 k.2]
/-- A text is read as these rules. -/
def ParseOk (s : ByteArray) (rs : List Rul) : Prop := s.size ≤ 8192 ∧ ∃ ls, splitS s 10 = ls ++ [nE] ∧ LnOk ls rs ∧ ls.length ≤ 24
theorem snoc_inj {α : Type} {a b : List α} {x y : α} (h : a ++ [x] = b ++ [y]) : a = b ∧ x = y := by
  have := congrArg List.reverse h
  simp only [List.reverse_append, List.reverse_cons, List.reverse_nil, List.nil_append, List.cons_append] at this
  injection this with h1 h2
  exact ⟨List.reverse_inj.1 h2, h1⟩
theorem ParseOk.fn {s : ByteArray} {r r' : List Rul} (h : ParseOk s r) (k : ParseOk s r') : r = r' := by
  obtain ⟨-, ls, h1, h2, -⟩ := h
  obtain ⟨-, ls', k1, k2, -⟩ := k
  rw [h1] at k1
  obtain ⟨rfl, -⟩ := snoc_inj k1
  exact h2.fn k2
def PaP (s : ByteArray) (rg : List Reg) (v : AV) : Prop :=
  (∃ rs, ParseOk s rs ∧ rg = [] ∧ v = .tup [.imm none false 3 (rs.map rlc), I 0, I 0]) ∨
    ((∀ rs, ¬ParseOk s rs) ∧ rg = [] ∧ ∃ k e : Int, e ≠ 0 ∧ v = .tup [.val (.slice none 0 0), I k, I e])
set_option maxRecDepth 100000 in
set_option maxHeartbeats 4000000 in
theorem parse_g (s : ByteArray) (hs9 : s.size ≤ 9223372036854775807) : Aw.Spec Tryd.prog 16 [] [S s] (PaP s) := by
  refine Aw.Spec.regsW k16 rfl rfl fun E hn hnp hp => ?_
  unfold a16
  have pin : ∀ r, E.pin r = none := fun r => hp.none hnp (Nat.zero_le _)
  by_cases hl : s.size ≤ 8192
  · have d0 : decide ((s.size : Int) > 8192) = false := by rw [decide_eq_false_iff_not]; omega
    have hsp := s29 s 10 (by omega)
    have hsz0 := split_size s 10
    have hle0 := split_len s 10
    obtain ⟨w0, l0, hw0⟩ := split_ne s 10
    obtain ⟨ls, x, hw⟩ := last1 (l := splitS s 10) (by rw [hw0]; simp)
    clear hw0
    rw [hw] at hsp hsz0 hle0
    rw [List.length_append, List.length_singleton] at hle0
    refine AWp.ofD [] [] hn mixed rfl ?_
    simp (config := { maxSteps := 2000000 }) only [go_sem, ↓reduceIte, Int.reduceToNat, Nat.reduceMul, Int.reduceBEq, Int.reduceBNe, Nat.reduceBEq, Nat.reduceAdd, Nat.reduceSub, Nat.reduceLeDiff, Nat.reduceEqDiff, Nat.reduceLT, reduceCtorEq, d0]
    refine AWpL.callA [] hsp rfl rfl (by rw [hn]; rfl) rfl (fun r hr => by cases hr) fun rg v hv => ?_
    obtain ⟨rfl, rfl⟩ := hv
    refine ⟨Nat.zero_le _, ?_⟩
    rw [retS_nil]
    refine AWpL.ofM hn rfl ?_
    have d1 : IntKind.i64.wrap (((ls ++ [x]).length : Int) - 1) = ls.length := by rw [List.length_append, List.length_singleton, w64 (by omega) (by omega)]; omega
    have d2 : ((ls ++ [x]).map sc).getD ls.length [] = sc x := by simp
    by_cases hx : x = nE
    · subst hx
      have d3 : (nE.toList == (ByteArray.mk #[]).toList) = true := by decide +kernel
      have d4 : List.take ls.length ((ls ++ [nE]).map sc) = ls.map sc := by rw [List.map_append, List.take_append_of_le_length (by rw [List.length_map]; exact Nat.le_refl _), List.take_of_length_le (by rw [List.length_map]; exact Nat.le_refl _)]
      simp (config := { maxSteps := 2000000 }) only [go_sem, ↓reduceIte, Int.reduceToNat, Nat.reduceMul, Int.reduceBEq, Int.reduceBNe, Nat.reduceBEq, Nat.reduceAdd, Nat.reduceSub, Nat.reduceLeDiff, Nat.reduceEqDiff, Nat.reduceLT, reduceCtorEq, d1, d2, d3, d4]
      refine ⟨⟨by omega, by rw [List.length_append, List.length_singleton]; omega⟩, ⟨by omega, by omega, by rw [List.length_append, List.length_singleton]; omega⟩, ?_⟩
      refine AWp.weak (weak_nil 7 24 3 rfl) ?_
      refine AWp.loop (fun k s1 => ∃ (i : Nat) (rs : List Rul), i + k = ls.length ∧ rs.length = i ∧ i ≤ 24 ∧ LnOk (ls.take i) rs ∧ Weak E s1 ⟨[(7, .hnd 0 0 i i false), (28, .imm none false 1 (ls.map sc)), (29, I ls.length), (30, I i)], [.arr 24 3 (rs.map rlc)]⟩) (n := ls.length)
        ⟨0, [], by omega, rfl, by omega, trivial, weak_to [0] hp hnp rfl (by simp (config := { maxSteps := 2000000 }) only [go_sem, ↓reduceIte, Int.reduceToNat, Nat.reduceMul, Int.reduceBEq, Int.reduceBNe, Nat.reduceBEq, Nat.reduceAdd, Nat.reduceSub, Nat.reduceLeDiff, Nat.reduceEqDiff, Nat.reduceLT, reduceCtorEq, Int.natCast_zero, Aw.pos]) (by simp (config := { maxSteps := 2000000 }) only [go_sem, ↓reduceIte, Int.reduceToNat, Nat.reduceMul, Int.reduceBEq, Int.reduceBNe, Nat.reduceBEq, Nat.reduceAdd, Nat.reduceSub, Nat.reduceLeDiff, Nat.reduceEqDiff, Nat.reduceLT, reduceCtorEq, Aw.renR, Aw.pos])⟩ ?_
      rintro k s1 ⟨i, rs, hik, hri, hi24, hgo, hw1⟩
      refine AWp.weak hw1 (AWp.ofD [] [] hn mixed rfl ?_)
      by_cases hi : i < ls.length
      · have e0 : decide ((i : Int) < (ls.length : Int)) = true := by rw [decide_eq_true_eq]; omega
        have e3 : (ls.map sc).getD i [] = sc ls[i] := getD_map sc hi
        have hsl : ls[i].size ≤ 8192 := Nat.le_trans (hsz0 _ (List.mem_append_left _ (List.getElem_mem hi))) hl
        simp (config := { maxSteps := 2000000 }) only [go_sem, ↓reduceIte, Int.reduceToNat, Nat.reduceMul, Int.reduceBEq, Int.reduceBNe, Nat.reduceBEq, Nat.reduceAdd, Nat.reduceSub, Nat.reduceLeDiff, Nat.reduceEqDiff, Nat.reduceLT, reduceCtorEq, e0, e3]
        (repeat (refine And.intro (by first | omega | (refine ⟨by omega, by omega⟩) | (refine ⟨by omega, by omega, by omega⟩) | (simp only [List.length_map, List.length_range, List.length_append, List.length_cons, List.length_nil, List.length_replicate, List.length_set]; omega) | (simp; omega) | (intro hgd; cases hgd) | (intro hgd; refine ⟨hgd, ?_⟩; first | omega | (refine ⟨by omega, by omega⟩) | (simp; omega))) ?_))
        refine AWpL.callA [] (rule_g ls[i] hsl) rfl rfl (by rw [hn]; rfl) rfl (fun r hr => by cases hr) fun rg v hv => ?_
        rcases hv with ⟨ru, hru, rfl, rfl⟩ | ⟨hno, e, he, rfl, rfl⟩
        · refine ⟨Nat.zero_le _, ?_⟩
          rw [retS_new]
          refine AWpL.ofM hn rfl ?_
          by_cases h24 : i = 24
          · have e1 : ((i : Int) == 24) = true := by rw [beq_iff_eq]; omega
            simp (config := { maxSteps := 2000000 }) only [go_sem, ↓reduceIte, Int.reduceToNat, Nat.reduceMul, Int.reduceBEq, Int.reduceBNe, Nat.reduceBEq, Nat.reduceAdd, Nat.reduceSub, Nat.reduceLeDiff, Nat.reduceEqDiff, Nat.reduceLT, reduceCtorEq, e1]
            refine Retn.ret (π := []) hp hnp ⟨rfl, ?_⟩
            simp (config := { maxSteps := 2000000 }) only [go_sem, ↓reduceIte, Int.reduceToNat, Nat.reduceMul, Int.reduceBEq, Int.reduceBNe, Nat.reduceBEq, Nat.reduceAdd, Nat.reduceSub, Nat.reduceLeDiff, Nat.reduceEqDiff, Nat.reduceLT, reduceCtorEq, Aw.renR, Aw.pos]
            exact .inr ⟨fun rs h => by { obtain ⟨-, ls', h, h1, h2⟩ := h; rw [hw] at h; obtain ⟨h, -⟩ := snoc_inj h; subst h; omega }, rfl, i, 2, by decide, rfl⟩
          · have e1 : ((i : Int) == 24) = false := by rw [beq_eq_false_iff_ne]; omega
            have e2 : IntKind.i64.wrap ((i : Int) + 1) = ((i + 1 : Nat) : Int) := by rw [w64 (by omega) (by omega)]; omega
            simp (config := { maxSteps := 2000000 }) only [go_sem, ↓reduceIte, Int.reduceToNat, Nat.reduceMul, Int.reduceBEq, Int.reduceBNe, Nat.reduceBEq, Nat.reduceAdd, Nat.reduceSub, Nat.reduceLeDiff, Nat.reduceEqDiff, Nat.reduceLT, reduceCtorEq, e1]
            refine AWpL.app (r := 0) (els := rs.map rlc) (ys := [rlc ru]) rfl rfl rfl rfl (by rw [hn]; rfl) (by rw [List.length_map, hri]) (pin 0) (Nat.le_refl 1) (fun el hm y hy => by
              rw [List.mem_singleton.1 hm] at hy
              simp only [List.mem_cons, List.not_mem_nil, or_false] at hy
              rcases hy with rfl | rfl | rfl <;> rfl) (by simp only [List.length_cons, List.length_nil]; omega) (by simp only [List.length_cons, List.length_nil]; omega) (AWpL.ofM hn rfl ?_)
            simp (config := { maxSteps := 2000000 }) only [go_sem, ↓reduceIte, Int.reduceToNat, Nat.reduceMul, Int.reduceBEq, Int.reduceBNe, Nat.reduceBEq, Nat.reduceAdd, Nat.reduceSub, Nat.reduceLeDiff, Nat.reduceEqDiff, Nat.reduceLT, reduceCtorEq, e2]
            have hap : rs.map rlc ++ [rlc ru] = (rs ++ [ru]).map rlc := by rw [List.map_append]; rfl
            refine ⟨k - 1, by omega, i + 1, rs ++ [ru], by omega, by rw [List.length_append, hri]; rfl, by omega, ?_, weak_to [0] hp hnp rfl (by simp (config := { maxSteps := 2000000 }) only [go_sem, ↓reduceIte, Int.reduceToNat, Nat.reduceMul, Int.reduceBEq, Int.reduceBNe, Nat.reduceBEq, Nat.reduceAdd, Nat.reduceSub, Nat.reduceLeDiff, Nat.reduceEqDiff, Nat.reduceLT, reduceCtorEq, Aw.pos]) (by simp (config := { maxSteps := 2000000 }) only [go_sem, ↓reduceIte, Int.reduceToNat, Nat.reduceMul, Int.reduceBEq, Int.reduceBNe, Nat.reduceBEq, Nat.reduceAdd, Nat.reduceSub, Nat.reduceLeDiff, Nat.reduceEqDiff, Nat.reduceLT, reduceCtorEq, hap, Aw.renR, Aw.pos])⟩
            rw [List.take_succ_eq_append_getElem hi]
            exact LnOk.app hgo hru
        · refine ⟨Nat.zero_le _, ?_⟩
          rw [retS_new]
          refine AWpL.ofM hn rfl ?_
          have e1 : (e == 0) = false := by rw [beq_eq_false_iff_ne]; exact he
          have e1' : (e != 0) = true := by rw [bne, e1]; rfl
          simp (config := { maxSteps := 2000000 }) only [go_sem, ↓reduceIte, Int.reduceToNat, Nat.reduceMul, Int.reduceBEq, Int.reduceBNe, Nat.reduceBEq, Nat.reduceAdd, Nat.reduceSub, Nat.reduceLeDiff, Nat.reduceEqDiff, Nat.reduceLT, reduceCtorEq, e1, e1']
          refine Retn.ret (π := []) hp hnp ⟨rfl, ?_⟩
          simp (config := { maxSteps := 2000000 }) only [go_sem, ↓reduceIte, Int.reduceToNat, Nat.reduceMul, Int.reduceBEq, Int.reduceBNe, Nat.reduceBEq, Nat.reduceAdd, Nat.reduceSub, Nat.reduceLeDiff, Nat.reduceEqDiff, Nat.reduceLT, reduceCtorEq, Aw.renR, Aw.pos]
          exact .inr ⟨fun rs h => by { obtain ⟨-, ls', h, h1, h2⟩ := h; rw [hw] at h; obtain ⟨h, -⟩ := snoc_inj h; subst h; obtain ⟨r, hr⟩ := LnOk.at i h1 hi; exact hno r hr }, rfl, i, e, he, rfl⟩
      · have e0 : decide ((i : Int) < (ls.length : Int)) = false := by rw [decide_eq_false_iff_not]; omega
        simp (config := { maxSteps := 2000000 }) only [go_sem, ↓reduceIte, Int.reduceToNat, Nat.reduceMul, Int.reduceBEq, Int.reduceBNe, Nat.reduceBEq, Nat.reduceAdd, Nat.reduceSub, Nat.reduceLeDiff, Nat.reduceEqDiff, Nat.reduceLT, reduceCtorEq, e0]
        refine Retn.weak (weak_freeze 0 rfl (pin 0) (by simp (config := { maxSteps := 2000000 }) only [go_sem, ↓reduceIte, Int.reduceToNat, Nat.reduceMul, Int.reduceBEq, Int.reduceBNe, Nat.reduceBEq, Nat.reduceAdd, Nat.reduceSub, Nat.reduceLeDiff, Nat.reduceEqDiff, Nat.reduceLT, reduceCtorEq, Nat.le_refl, hri])) _ ?_
        have etk : List.take i (rs.map rlc) = rs.map rlc := List.take_of_length_le (by rw [List.length_map, hri]; exact Nat.le_refl _)
        simp (config := { maxSteps := 2000000 }) only [go_sem, ↓reduceIte, Int.reduceToNat, Nat.reduceMul, Int.reduceBEq, Int.reduceBNe, Nat.reduceBEq, Nat.reduceAdd, Nat.reduceSub, Nat.reduceLeDiff, Nat.reduceEqDiff, Nat.reduceLT, reduceCtorEq, etk]
        refine Retn.ret (π := []) hp hnp ⟨rfl, ?_⟩
        simp (config := { maxSteps := 2000000 }) only [go_sem, ↓reduceIte, Int.reduceToNat, Nat.reduceMul, Int.reduceBEq, Int.reduceBNe, Nat.reduceBEq, Nat.reduceAdd, Nat.reduceSub, Nat.reduceLeDiff, Nat.reduceEqDiff, Nat.reduceLT, reduceCtorEq, Aw.renR, Aw.pos]
        exact .inl ⟨rs, ⟨hl, ls, hw, by rw [List.take_of_length_le (by omega)] at hgo; exact hgo, by omega⟩, rfl, rfl⟩
    · have d3 := neq_word hx
      unfold nE at d3
      simp (config := { maxSteps := 2000000 }) only [go_sem, ↓reduceIte, Int.reduceToNat, Nat.reduceMul, Int.reduceBEq, Int.reduceBNe, Nat.reduceBEq, Nat.reduceAdd, Nat.reduceSub, Nat.reduceLeDiff, Nat.reduceEqDiff, Nat.reduceLT, reduceCtorEq, d1, d2, d3]
      refine ⟨⟨by omega, by rw [List.length_append, List.length_singleton]; omega⟩, ?_⟩
      refine Retn.ret (π := []) hp hnp ⟨rfl, ?_⟩
      simp (config := { maxSteps := 2000000 }) only [go_sem, ↓reduceIte, Int.reduceToNat, Nat.reduceMul, Int.reduceBEq, Int.reduceBNe, Nat.reduceBEq, Nat.reduceAdd, Nat.reduceSub, Nat.reduceLeDiff, Nat.reduceEqDiff, Nat.reduceLT, reduceCtorEq, Aw.renR, Aw.pos]
      exact .inr ⟨fun rs h => by { obtain ⟨-, ls', h, -⟩ := h; rw [hw] at h; exact hx (snoc_inj h).2 }, rfl, ls.length, 5, by decide, rfl⟩
  · have d0 : decide ((s.size : Int) > 8192) = true := by rw [decide_eq_true_eq]; omega
    refine AWp.ofD [] [] hn mixed rfl ?_
    simp (config := { maxSteps := 2000000 }) only [go_sem, ↓reduceIte, Int.reduceToNat, Nat.reduceMul, Int.reduceBEq, Int.reduceBNe, Nat.reduceBEq, Nat.reduceAdd, Nat.reduceSub, Nat.reduceLeDiff, Nat.reduceEqDiff, Nat.reduceLT, reduceCtorEq, d0]
    refine Retn.ret (π := []) hp hnp ⟨rfl, ?_⟩
    simp (config := { maxSteps := 2000000 }) only [go_sem, ↓reduceIte, Int.reduceToNat, Nat.reduceMul, Int.reduceBEq, Int.reduceBNe, Nat.reduceBEq, Nat.reduceAdd, Nat.reduceSub, Nat.reduceLeDiff, Nat.reduceEqDiff, Nat.reduceLT, reduceCtorEq, Aw.renR, Aw.pos]
    exact .inr ⟨fun rs h => hl h.1, rfl, 0, 2, by decide, rfl⟩
end Go.Proofs.YtocghkacngoblaaDoor
