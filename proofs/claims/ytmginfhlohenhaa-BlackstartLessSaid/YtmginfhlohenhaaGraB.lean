/- Graphs: components, plain. -/
import Derived.Test.YtmginfhlohenhaaAwZk
import Derived.Test.YtmginfhlohenhaaGraA
set_option linter.unusedVariables false
set_option linter.unusedSimpArgs false
namespace Go.Proofs.Ytmginfhlohenhaa
open Go.Proofs.Ytmginfhlohenhaa.Aw
attribute [local go_sem] Int.natCast_zero Int.natCast_one bne_self_eq_false beq_self_eq_true Bool.not_true Bool.not_false Option.isSome_none Option.isSome_some Aw.bkM_nil Option.getD_some Option.getD_none Nat.sub_zero Int.toNat_zero Aw.frzS Aw.frzT Aw.frzA Aw.frzL Aw.frzR Aw.frzO Aw.frzOL Aw.frzOT Aw.frzOR Aw.killS Aw.mapT Aw.mapR Aw.killM Aw.resAVs Aw.resAV Aw.quietOps Aw.wpP Aw.wpT Aw.wpS Aw.AOp.mild List.getElem?_cons_zero List.getElem?_cons_succ Bool.and_false Bool.and_self Bool.false_and Aw.opOb Aw.gdB Aw.Rnd Aw.subTm List.length_map Int.toNat_natCast and_self Aw.SeqC Aw.stops Aw.Ends Aw.looks Aw.renA Aw.renL Aw.renT Aw.renS Aw.wpO Aw.aop Aw.putTm Aw.St.ev Aw.St.put Aw.St.putO Aw.binAV Aw.intBin Aw.strBin Aw.pickAV Aw.optInt Aw.AV.strip Aw.AV.guard Aw.AV.cells Aw.gdOb Aw.AOp.opds Aw.AOp.still Aw.ptrCells Aw.St.reg Aw.fillAV Aw.fillOb Aw.elsOb Aw.splice Aw.firm Aw.cellish Aw.AV.shut Aw.shutAll Aw.Seq Aw.Blk Aw.retS_nil Aw.mapA Aw.mapL Aw.borA Aw.borOb Aw.allOb Aw.tupOf Aw.params Aw.Opd.of Array.toList Value.cells List.map_cons List.map_nil List.getD_cons_zero List.getD_cons_succ List.getD_nil List.length_cons List.length_nil List.take_succ_cons List.take_zero List.take_nil List.drop_zero List.drop_succ_cons List.drop_nil List.set_cons_zero List.set_cons_succ List.append_nil List.nil_append List.cons_append List.all_cons List.all_nil cond_false cond_true if_true if_false true_and and_true Bool.and_true Bool.true_and Option.map_some Option.map_none false_implies forall_const implies_true forall_eq imp_self Bool.cond_false_right Bool.cond_true_left beq_true beq_false Bool.not_eq_true' Bool.false_eq_true Nat.zero_add Nat.add_zero Aw.eqCells Aw.stopDraw Aw.skipS Aw.exactCap Aw.revealS Aw.srcEls Aw.srcSz
attribute [local go_sem ↓] Aw.look_nil Aw.look_ite Aw.wpL_nil Aw.wpL_op Aw.wpL_gd Aw.wpQ_nil Aw.wpQ_op Aw.wpQ_gd Aw.wpC_draw Aw.wpC_reg Aw.wpC_skip Aw.wpC_ret Aw.wpC_exit Aw.wpC_seq Aw.wpC_block Aw.wpC_loop Aw.wpC_cond Aw.stopAt_nil Aw.stopAt_cons Aw.wpD_skip Aw.wpD_ret Aw.wpD_exit Aw.wpD_region Aw.wpD_draw Aw.wpM_nil Aw.wpM_op Aw.wpM_gd Aw.wpD_seq Aw.wpD_block Aw.wpD_loop Aw.wpD_cond
/-- Values that stay as they are whatever happens to regions. -/
def leafA : AV → Bool
  | .any | .val _ | .imm .. | .pim _ => true
  | _ => false
theorem mapL_leaf {m : Nat → Option Nat} : ∀ {xs : List AV}, xs.all leafA = true → mapL m xs = xs
  | [], _ => rfl
  | x :: xs, h => by
    rw [List.all_cons, Bool.and_eq_true] at h
    have h1 : mapA m x = x := by cases x <;> first | rfl | (have := h.1; simp [leafA] at this)
    show mapA m x :: mapL m xs = _
    rw [h1, mapL_leaf h.2]
theorem renL_leaf {π : List Nat} : ∀ {xs : List AV}, xs.all leafA = true → renL π xs = xs
  | [], _ => rfl
  | x :: xs, h => by
    rw [List.all_cons, Bool.and_eq_true] at h
    have h1 : renA π x = x := by cases x <;> first | rfl | (have := h.1; simp [leafA] at this)
    show renA π x :: renL π xs = _
    rw [h1, renL_leaf h.2]
theorem frzL_leaf {r sz : Nat} {els : List (List AV)} : ∀ {xs : List AV}, xs.all leafA = true → frzL r sz els xs = xs
  | [], _ => rfl
  | x :: xs, h => by
    rw [List.all_cons, Bool.and_eq_true] at h
    have h1 : frzA r sz els x = x := by cases x <;> first | rfl | (have := h.1; simp [leafA] at this)
    show frzA r sz els x :: frzL r sz els xs = _
    rw [h1, frzL_leaf h.2]
theorem frzOL_leaf {r len : Nat} : ∀ {xs : List AV}, xs.all leafA = true → frzOL r len xs = True
  | [], _ => rfl
  | x :: xs, h => by
    rw [List.all_cons, Bool.and_eq_true] at h
    have h1 : frzO r len x = True := by cases x <;> first | rfl | (have := h.1; simp [leafA] at this)
    show (frzO r len x ∧ frzOL r len xs) = _
    rw [h1, frzOL_leaf h.2]
    exact eq_true ⟨trivial, trivial⟩
abbrev pc2 (x : Nat × Nat) : List AV := [I x.1, I x.2]
/-- Is one end in the component and the other one not? -/
def touch (out : List Int) (m : Int) (x : Nat × Nat) : Bool := (out.getD x.1 0 == m) != (out.getD x.2 0 == m)
def stepP (l : List (Nat × Nat)) (u : Nat → Bool) (m : Int) (st : List Int × Bool) (i : Nat) : List Int × Bool :=
  if (touch st.1 m (l.getD i (0, 0)) && u i) = true then ((st.1.set (l.getD i (0, 0)).1 m).set (l.getD i (0, 0)).2 m, true) else st
def passP (l : List (Nat × Nat)) (u : Nat → Bool) (m : Int) (out : List Int) (i : Nat) : List Int × Bool := (List.range i).foldl (stepP l u m) (out, false)
theorem passP_succ (l : List (Nat × Nat)) (u : Nat → Bool) (m : Int) (out : List Int) (i : Nat) : passP l u m out (i + 1) = stepP l u m (passP l u m out i) i := by
  unfold passP
  rw [List.range_succ, List.foldl_append]; rfl
def growP (l : List (Nat × Nat)) (u : Nat → Bool) (m : Int) : Nat → List Int → List Int
  | 0, out => out
  | f + 1, out => if (passP l u m out l.length).2 = true then growP l u m f (passP l u m out l.length).1 else (passP l u m out l.length).1
/-- One node. -/
def nodeP (n : Nat) (l : List (Nat × Nat)) (u : Nat → Bool) (st : List Int × Int) (s : Nat) : List Int × Int :=
  if st.1.getD s 0 ≥ 0 then st else (growP l u st.2 (n + 1) (st.1.set s st.2), st.2 + 1)
def partsN (n : Nat) (l : List (Nat × Nat)) (u : Nat → Bool) (i : Nat) : List Int × Int := (List.range i).foldl (nodeP n l u) (List.replicate n (-1), 0)
theorem partsN_succ (n : Nat) (l : List (Nat × Nat)) (u : Nat → Bool) (i : Nat) : partsN n l u (i + 1) = nodeP n l u (partsN n l u i) i := by
  unfold partsN
  rw [List.range_succ, List.foldl_append]; rfl
def partsF (n : Nat) (l : List (Nat × Nat)) (u : Nat → Bool) : List Int := (partsN n l u n).1
theorem getDI_set {far : List Int} {m x : Nat} {v : Int} (hm : m < far.length) : (far.set m v).getD x 0 = if x = m then v else far.getD x 0 := by
  rw [List.getD_eq_getElem?_getD, List.getD_eq_getElem?_getD, List.getElem?_set]
  by_cases e : m = x
  · subst e; simp [hm]
  · rw [if_neg e, if_neg (Ne.symm e)]
/-- How many are not in the component. -/
def others (m : Int) (out : List Int) : Nat := out.countP fun x => x != m
theorem others_set {m : Int} {out : List Int} {i : Nat} (hi : i < out.length) : others m (out.set i m) + (if out.getD i 0 = m then 0 else 1) = others m out := by
  unfold others
  rw [List.countP_set hi]
  have h1 : out.getD i 0 = out[i] := by rw [List.getD_eq_getElem?_getD, List.getElem?_eq_getElem hi]; rfl
  rw [h1]
  have h2 : (m != m) = false := by simp
  by_cases h : out[i] = m
  · have h3 : (out[i] != m) = false := by simp [h]
    rw [h2, h3, if_pos h]
    simp
  · have h3 : (out[i] != m) = true := by simp [h]
    have h4 : 0 < out.countP fun x => x != m := List.countP_pos_iff.2 ⟨out[i], List.getElem_mem hi, h3⟩
    rw [h2, h3, if_neg h]
    simp
    omega
/-- Both ends of all edges are nodes. -/
def EdgesIn (n : Nat) (l : List (Nat × Nat)) : Prop := ∀ i, i < l.length → (l.getD i (0, 0)).1 < n ∧ (l.getD i (0, 0)).2 < n
theorem stepP_len (l : List (Nat × Nat)) (u : Nat → Bool) (m : Int) (st : List Int × Bool) (i : Nat) : (stepP l u m st i).1.length = st.1.length := by
  unfold stepP
  split
  · simp
  · rfl
theorem stepP_others {n : Nat} {l : List (Nat × Nat)} {u : Nat → Bool} {m : Int} {st : List Int × Bool} {i : Nat} (hl : EdgesIn n l) (hi : i < l.length) (hn : st.1.length = n) :
    others m (stepP l u m st i).1 ≤ others m st.1 ∧ ((stepP l u m st i).2 = true → st.2 = true ∨ others m (stepP l u m st i).1 < others m st.1) := by
  obtain ⟨h1, h2⟩ := hl i hi
  unfold stepP
  generalize l.getD i (0, 0) = x at *
  split
  · rename_i ht
    have ht : touch st.1 m x = true := by
      rw [Bool.and_eq_true] at ht; exact ht.1
    unfold touch at ht
    have a1 := others_set (m := m) (out := st.1) (i := x.1) (by omega)
    have a2 := others_set (m := m) (out := st.1.set x.1 m) (i := x.2) (by rw [List.length_set]; omega)
    rw [getDI_set (by omega)] at a2
    have key : others m ((st.1.set x.1 m).set x.2 m) < others m st.1 := by
      by_cases e1 : st.1.getD x.1 0 = m
      · by_cases e2 : st.1.getD x.2 0 = m
        · rw [e1, e2] at ht; simp at ht
        · rw [if_pos e1] at a1
          rw [if_neg (by split <;> first | (rename_i h; rw [h] at e2; exact absurd e1 e2) | exact e2)] at a2
          omega
      · rw [if_neg e1] at a1
        omega
    exact ⟨Nat.le_of_lt key, fun _ => .inr key⟩
  · exact ⟨Nat.le_refl _, fun h => .inl h⟩
theorem passP_ok {n : Nat} {l : List (Nat × Nat)} {u : Nat → Bool} {m : Int} {out : List Int} (hl : EdgesIn n l) (hn : out.length = n) : ∀ i, i ≤ l.length →
    (passP l u m out i).1.length = n ∧ others m (passP l u m out i).1 ≤ others m out ∧ ((passP l u m out i).2 = true → others m (passP l u m out i).1 < others m out)
  | 0, _ => ⟨hn, Nat.le_refl _, fun h => by cases h⟩
  | i + 1, hi => by
    obtain ⟨h1, h2, h3⟩ := passP_ok hl hn i (by omega)
    rw [passP_succ]
    obtain ⟨h4, h5⟩ := stepP_others (u := u) (m := m) (st := passP l u m out i) hl (Nat.lt_of_succ_le hi) h1
    refine ⟨by rw [stepP_len]; exact h1, by omega, fun h => ?_⟩
    rcases h5 h with h | h
    · have := h3 h; omega
    · omega
theorem others_le (m : Int) (out : List Int) : others m out ≤ out.length := List.countP_le_length
end Go.Proofs.Ytmginfhlohenhaa
