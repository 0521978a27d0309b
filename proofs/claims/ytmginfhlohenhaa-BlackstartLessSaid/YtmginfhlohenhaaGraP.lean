/- Graphs: what the components are. -/
import Derived.Test.YtmginfhlohenhaaAwZk
import Derived.Test.YtmginfhlohenhaaGraB
set_option linter.unusedVariables false
set_option linter.unusedSimpArgs false
namespace Go.Proofs.Ytmginfhlohenhaa
open Go.Proofs.Ytmginfhlohenhaa.Aw
attribute [local go_sem] Int.natCast_zero Int.natCast_one bne_self_eq_false beq_self_eq_true Bool.not_true Bool.not_false Option.isSome_none Option.isSome_some Aw.bkM_nil Option.getD_some Option.getD_none Nat.sub_zero Int.toNat_zero Aw.frzS Aw.frzT Aw.frzA Aw.frzL Aw.frzR Aw.frzO Aw.frzOL Aw.frzOT Aw.frzOR Aw.killS Aw.mapT Aw.mapR Aw.killM Aw.resAVs Aw.resAV Aw.quietOps Aw.wpP Aw.wpT Aw.wpS Aw.AOp.mild List.getElem?_cons_zero List.getElem?_cons_succ Bool.and_false Bool.and_self Bool.false_and Aw.opOb Aw.gdB Aw.Rnd Aw.subTm List.length_map Int.toNat_natCast and_self Aw.SeqC Aw.stops Aw.Ends Aw.looks Aw.renA Aw.renL Aw.renT Aw.renS Aw.wpO Aw.aop Aw.putTm Aw.St.ev Aw.St.put Aw.St.putO Aw.binAV Aw.intBin Aw.strBin Aw.pickAV Aw.optInt Aw.AV.strip Aw.AV.guard Aw.AV.cells Aw.gdOb Aw.AOp.opds Aw.AOp.still Aw.ptrCells Aw.St.reg Aw.fillAV Aw.fillOb Aw.elsOb Aw.splice Aw.firm Aw.cellish Aw.AV.shut Aw.shutAll Aw.Seq Aw.Blk Aw.retS_nil Aw.mapA Aw.mapL Aw.borA Aw.borOb Aw.allOb Aw.tupOf Aw.params Aw.Opd.of Array.toList Value.cells List.map_cons List.map_nil List.getD_cons_zero List.getD_cons_succ List.getD_nil List.length_cons List.length_nil List.take_succ_cons List.take_zero List.take_nil List.drop_zero List.drop_succ_cons List.drop_nil List.set_cons_zero List.set_cons_succ List.append_nil List.nil_append List.cons_append List.all_cons List.all_nil cond_false cond_true if_true if_false true_and and_true Bool.and_true Bool.true_and Option.map_some Option.map_none false_implies forall_const implies_true forall_eq imp_self Bool.cond_false_right Bool.cond_true_left beq_true beq_false Bool.not_eq_true' Bool.false_eq_true Nat.zero_add Nat.add_zero Aw.eqCells Aw.stopDraw Aw.skipS Aw.exactCap Aw.revealS Aw.srcEls Aw.srcSz
attribute [local go_sem ↓] Aw.look_nil Aw.look_ite Aw.wpL_nil Aw.wpL_op Aw.wpL_gd Aw.wpQ_nil Aw.wpQ_op Aw.wpQ_gd Aw.wpC_draw Aw.wpC_reg Aw.wpC_skip Aw.wpC_ret Aw.wpC_exit Aw.wpC_seq Aw.wpC_block Aw.wpC_loop Aw.wpC_cond Aw.stopAt_nil Aw.stopAt_cons Aw.wpD_skip Aw.wpD_ret Aw.wpD_exit Aw.wpD_region Aw.wpD_draw Aw.wpM_nil Aw.wpM_op Aw.wpM_gd Aw.wpD_seq Aw.wpD_block Aw.wpD_loop Aw.wpD_cond
/-- A labelling that is the same at both ends of each edge that is used. -/
def Even (l : List (Nat × Nat)) (u : Nat → Bool) (g : Nat → Int) : Prop := ∀ i, i < l.length → u i = true → g (l.getD i (0, 0)).1 = g (l.getD i (0, 0)).2
structure GrowI (n : Nat) (l : List (Nat × Nat)) (u : Nat → Bool) (out0 : List Int) (s : Nat) (m : Int) (out : List Int) : Prop where
  len : out.length = n
  two : ∀ x, x < n → (out.getD x 0 = m ∧ out0.getD x 0 = -1) ∨ (out.getD x 0 ≠ m ∧ out.getD x 0 = out0.getD x 0)
  own : out.getD s 0 = m
  fine : ∀ g, Even l u g → ∀ x, x < n → out.getD x 0 = m → g x = g s
theorem GrowI.step {n : Nat} {l : List (Nat × Nat)} {u : Nat → Bool} {out0 : List Int} {s : Nat} {m : Int} {st : List Int × Bool} {i : Nat} (h0 : Even l u fun x => out0.getD x 0) (hl : EdgesIn n l) (hi : i < l.length) (hm : 0 ≤ m) (h : GrowI n l u out0 s m st.1) :
    GrowI n l u out0 s m (stepP l u m st i).1 := by
  unfold stepP
  split
  · rename_i ht
    rw [Bool.and_eq_true] at ht
    obtain ⟨ht, hu⟩ := ht
    obtain ⟨h1, h2⟩ := hl i hi
    have he := h0 i hi hu
    have hfe : ∀ g, Even l u g → g (l.getD i (0, 0)).1 = g (l.getD i (0, 0)).2 := fun g hg => hg i hi hu
    dsimp only at he
    generalize l.getD i (0, 0) = x at *
    have hlen := h.len
    have hg : ∀ y, ((st.1.set x.1 m).set x.2 m).getD y 0 = if y = x.2 then m else if y = x.1 then m else st.1.getD y 0 := fun y => by
      rw [getDI_set (by rw [List.length_set]; omega), getDI_set (by omega)]
    have htt : (st.1.getD x.1 0 = m ∧ st.1.getD x.2 0 ≠ m) ∨ (st.1.getD x.1 0 ≠ m ∧ st.1.getD x.2 0 = m) := by
      unfold touch at ht
      by_cases e1 : st.1.getD x.1 0 = m <;> by_cases e2 : st.1.getD x.2 0 = m
      · rw [e1, e2] at ht; simp at ht
      · exact .inl ⟨e1, e2⟩
      · exact .inr ⟨e1, e2⟩
      · have f1 : (st.1.getD x.1 0 == m) = false := by simpa using e1
        have f2 : (st.1.getD x.2 0 == m) = false := by simpa using e2
        rw [f1, f2] at ht; simp at ht
    have hneg : out0.getD x.1 0 = -1 ∧ out0.getD x.2 0 = -1 := by
      rcases htt with ⟨e1, e2⟩ | ⟨e1, e2⟩
      · rcases h.two x.1 h1 with g | g
        · exact ⟨g.2, by rw [← he]; exact g.2⟩
        · exact absurd e1 g.1
      · rcases h.two x.2 h2 with g | g
        · exact ⟨by rw [he]; exact g.2, g.2⟩
        · exact absurd e2 g.1
    refine ⟨by simp [hlen], fun y hy => ?_, ?_, fun g hG y hy hym => ?_⟩
    · rw [hg]
      split
      · rename_i e; subst e; exact .inl ⟨rfl, hneg.2⟩
      · split
        · rename_i e; subst e; exact .inl ⟨rfl, hneg.1⟩
        · exact h.two y hy
    · rw [hg]
      split
      · rfl
      · split
        · rfl
        · exact h.own
    · have hgx := hfe g hG
      have hboth : g x.1 = g s ∧ g x.2 = g s := by
        rcases htt with ⟨e1, e2⟩ | ⟨e1, e2⟩
        · have := h.fine g hG x.1 h1 e1
          exact ⟨this, by rw [← hgx]; exact this⟩
        · have := h.fine g hG x.2 h2 e2
          exact ⟨by rw [hgx]; exact this, this⟩
      rw [hg] at hym
      split at hym
      · rename_i e; rw [e]; exact hboth.2
      · split at hym
        · rename_i e; rw [e]; exact hboth.1
        · exact h.fine g hG y hy hym
  · exact h
theorem GrowI.pass {n : Nat} {l : List (Nat × Nat)} {u : Nat → Bool} {out0 out : List Int} {s : Nat} {m : Int} (h0 : Even l u fun x => out0.getD x 0) (hl : EdgesIn n l) (hm : 0 ≤ m) (h : GrowI n l u out0 s m out) :
    ∀ i, i ≤ l.length → GrowI n l u out0 s m (passP l u m out i).1
  | 0, _ => h
  | i + 1, hi => by
    rw [passP_succ]
    exact (GrowI.pass h0 hl hm h i (by omega)).step h0 hl (by omega) hm
theorem passP_still {l : List (Nat × Nat)} {u : Nat → Bool} {m : Int} {out : List Int} : ∀ i, (passP l u m out i).2 = false → (passP l u m out i).1 = out ∧ ∀ j, j < i → u j = true → touch out m (l.getD j (0, 0)) = false
  | 0, _ => ⟨rfl, fun j hj => by omega⟩
  | i + 1, h => by
    rw [passP_succ] at h ⊢
    unfold stepP at h ⊢
    split at h
    · cases h
    · rename_i ht
      rw [if_neg ht]
      obtain ⟨h1, h2⟩ := passP_still i h
      refine ⟨h1, fun j hj hu => ?_⟩
      rcases Nat.lt_or_eq_of_le (Nat.le_of_lt_succ hj) with hj | rfl
      · exact h2 j hj hu
      · rw [h1, hu, Bool.and_true] at ht
        simpa using ht
theorem GrowI.grow {n : Nat} {l : List (Nat × Nat)} {u : Nat → Bool} {out0 : List Int} {s : Nat} {m : Int} (h0 : Even l u fun x => out0.getD x 0) (hl : EdgesIn n l) (hm : 0 ≤ m) : ∀ (f : Nat) {out : List Int}, GrowI n l u out0 s m out → others m out < f →
    GrowI n l u out0 s m (growP l u m f out) ∧ ∀ j, j < l.length → u j = true → touch (growP l u m f out) m (l.getD j (0, 0)) = false
  | 0, out, h, hf => by omega
  | f + 1, out, h, hf => by
    unfold growP
    have h1 := h.pass h0 hl hm l.length (Nat.le_refl _)
    obtain ⟨q1, q2, q3⟩ := passP_ok (u := u) (m := m) hl h.len l.length (Nat.le_refl _)
    split
    · rename_i hr
      have := q3 hr
      exact GrowI.grow h0 hl hm f h1 (by omega)
    · rename_i hr
      obtain ⟨g1, g2⟩ := passP_still (l := l) (u := u) (m := m) (out := out) l.length (by simpa using hr)
      refine ⟨h1, fun j hj hu => ?_⟩
      rw [g1]
      exact g2 j hj hu
/-- After i nodes. -/
structure PartsI (n : Nat) (l : List (Nat × Nat)) (u : Nat → Bool) (i : Nat) (out : List Int) (many : Int) : Prop where
  len : out.length = n
  rng : ∀ x, x < n → out.getD x 0 = -1 ∨ (0 ≤ out.getD x 0 ∧ out.getD x 0 < many)
  don : ∀ x, x < i → 0 ≤ out.getD x 0
  sur : ∀ j : Int, 0 ≤ j → j < many → ∃ x, x < n ∧ out.getD x 0 = j
  edge : Even l u fun x => out.getD x 0
  fine : ∀ g, Even l u g → ∀ x y, x < n → y < n → 0 ≤ out.getD x 0 → out.getD x 0 = out.getD y 0 → g x = g y
  le : 0 ≤ many ∧ many ≤ i
theorem PartsI.step {n : Nat} {l : List (Nat × Nat)} {u : Nat → Bool} {i : Nat} {st : List Int × Int} (hl : EdgesIn n l) (hi : i < n) (h : PartsI n l u i st.1 st.2) : PartsI n l u (i + 1) (nodeP n l u st i).1 (nodeP n l u st i).2 := by
  unfold nodeP
  split
  · rename_i hge
    refine { h with don := fun x hx => ?_, le := ⟨h.le.1, by have := h.le.2; omega⟩ }
    rcases Nat.lt_or_eq_of_le (Nat.le_of_lt_succ hx) with hx | rfl
    · exact h.don x hx
    · exact hge
  · rename_i hlt
    have hneg : st.1.getD i 0 = -1 := by
      rcases h.rng i hi with g | g
      · exact g
      · exact absurd g.1 hlt
    have hlen := h.len
    have hg : ∀ y, (st.1.set i st.2).getD y 0 = if y = i then st.2 else st.1.getD y 0 := fun y => getDI_set (by omega)
    have hne : ∀ x, x < n → st.1.getD x 0 ≠ st.2 := fun x hx => by
      have := h.le.1
      rcases h.rng x hx with g | g <;> omega
    have hI : GrowI n l u st.1 i st.2 (st.1.set i st.2) := by
      refine ⟨by simp [hlen], fun x hx => ?_, by rw [hg, if_pos rfl], fun g hG x hx hxm => ?_⟩
      · rw [hg]
        by_cases e : x = i
        · subst e; rw [if_pos rfl]; exact .inl ⟨rfl, hneg⟩
        · rw [if_neg e]; exact .inr ⟨hne x hx, rfl⟩
      · rw [hg] at hxm
        by_cases e : x = i
        · rw [e]
        · rw [if_neg e] at hxm
          exact absurd hxm (hne x hx)
    have ho := others_le st.2 (st.1.set i st.2)
    rw [List.length_set] at ho
    obtain ⟨k1, k2⟩ := hI.grow h.edge hl h.le.1 (n + 1) (by omega)
    dsimp only
    generalize growP l u st.2 (n + 1) (st.1.set i st.2) = out at *
    have hle := h.le
    refine ⟨k1.len, fun x hx => ?_, fun x hx => ?_, fun j hj0 hjm => ?_, fun j hj hu => ?_, fun g hG x y hx hy h0 hxy => ?_, by omega⟩
    · rcases k1.two x hx with g | g
      · right; rw [g.1]; omega
      · rw [g.2]
        rcases h.rng x hx with g2 | g2
        · exact .inl g2
        · right; omega
    · rcases Nat.lt_or_eq_of_le (Nat.le_of_lt_succ hx) with hx | rfl
      · rcases k1.two x (by omega) with g | g
        · rw [g.1]; exact hle.1
        · rw [g.2]; exact h.don x hx
      · rw [k1.own]; exact hle.1
    · by_cases e : j = st.2
      · exact ⟨i, hi, by rw [k1.own, e]⟩
      · obtain ⟨x, hx, hxj⟩ := h.sur j hj0 (by omega)
        refine ⟨x, hx, ?_⟩
        rcases k1.two x hx with g | g
        · rw [g.2] at hxj; omega
        · rw [g.2]; exact hxj
    · have ht := k2 j hj hu
      have he := h.edge j hj hu
      obtain ⟨h1, h2⟩ := hl j hj
      dsimp only at he ⊢
      generalize l.getD j (0, 0) = x at *
      unfold touch at ht
      rcases k1.two x.1 h1 with g | g <;> rcases k1.two x.2 h2 with g' | g'
      · rw [g.1, g'.1]
      · have f2 : (out.getD x.2 0 == st.2) = false := by simpa using g'.1
        rw [g.1, f2] at ht; simp at ht
      · have f2 : (out.getD x.1 0 == st.2) = false := by simpa using g.1
        rw [g'.1, f2] at ht; simp at ht
      · rw [g.2, g'.2]; exact he
    · rcases k1.two x hx with e | e <;> rcases k1.two y hy with e' | e'
      · rw [k1.fine g hG x hx e.1, k1.fine g hG y hy e'.1]
      · exact absurd (by rw [← hxy]; exact e.1) e'.1
      · exact absurd (by rw [hxy]; exact e'.1) e.1
      · rw [e.2] at h0 hxy
        rw [e'.2] at hxy
        exact h.fine g hG x y hx hy h0 hxy
theorem partsN_ok {n : Nat} {l : List (Nat × Nat)} {u : Nat → Bool} (hl : EdgesIn n l) : ∀ i, i ≤ n → PartsI n l u i (partsN n l u i).1 (partsN n l u i).2
  | 0, _ => by
    have hg : ∀ x, x < n → (List.replicate n (-1 : Int)).getD x 0 = -1 := fun x hx => by
      rw [List.getD_eq_getElem?_getD, List.getElem?_replicate, if_pos hx]; rfl
    refine ⟨List.length_replicate, fun x hx => .inl (hg x hx), fun x hx => by omega, fun j h0 h1 => ?_, fun j hj hu => ?_, fun g hG x y hx hy h0 => ?_, Int.le_refl 0, Int.le_refl 0⟩
    · have : (partsN n l u 0).2 = 0 := rfl
      omega
    · obtain ⟨h1, h2⟩ := hl j hj
      show (List.replicate n (-1 : Int)).getD _ 0 = (List.replicate n (-1 : Int)).getD _ 0
      rw [hg _ h1, hg _ h2]
    · have := hg x hx
      change 0 ≤ (List.replicate n (-1 : Int)).getD x 0 at h0
      omega
  | i + 1, hi => by
    rw [partsN_succ]
    exact (partsN_ok hl i (by omega)).step hl (by omega)
/-- What Parts returns. -/
structure PartsO (n : Nat) (l : List (Nat × Nat)) (u : Nat → Bool) (out : List Int) (many : Int) : Prop where
  len : out.length = n
  rng : ∀ x, x < n → 0 ≤ out.getD x 0 ∧ out.getD x 0 < many
  sur : ∀ j : Int, 0 ≤ j → j < many → ∃ x, x < n ∧ out.getD x 0 = j
  edge : Even l u fun x => out.getD x 0
  fine : ∀ g, Even l u g → ∀ x y, x < n → y < n → out.getD x 0 = out.getD y 0 → g x = g y
  le : 0 ≤ many ∧ many ≤ n
theorem partsF_ok {n : Nat} {l : List (Nat × Nat)} {u : Nat → Bool} (hl : EdgesIn n l) : PartsO n l u (partsF n l u) (partsN n l u n).2 := by
  have h := partsN_ok (u := u) hl n (Nat.le_refl _)
  refine ⟨h.len, fun x hx => ?_, h.sur, h.edge, fun g hG x y hx hy hxy => h.fine g hG x y hx hy (h.don x hx) hxy, h.le⟩
  rcases h.rng x hx with g | g
  · have := h.don x hx; omega
  · exact g
/-- Count counts them. -/
theorem countF_le {l : List Int} {m : Int} (h0 : 0 ≤ m) (h : ∀ x ∈ l, x < m) : countF l ≤ m := by
  unfold countF
  suffices ∀ (l : List Int) (n : Int), n ≤ m → (∀ x ∈ l, x < m) → l.foldl (fun n p => max n (p + 1)) n ≤ m from this l 0 h0 h
  intro l
  induction l with
  | nil => intro n hn _; exact hn
  | cons x l ih =>
    intro n hn hx
    have := hx x List.mem_cons_self
    exact ih _ (by show max n (x + 1) ≤ m; omega) fun y hy => hx y (List.mem_cons_of_mem _ hy)
theorem countF_ge {l : List Int} : ∀ x ∈ l, x < countF l := by
  unfold countF
  suffices ∀ (l : List Int) (n : Int), n ≤ l.foldl (fun n p => max n (p + 1)) n ∧ ∀ x ∈ l, x < l.foldl (fun n p => max n (p + 1)) n from (this l 0).2
  intro l
  induction l with
  | nil => intro n; exact ⟨Int.le_refl _, fun x hx => by cases hx⟩
  | cons x l ih =>
    intro n
    obtain ⟨h1, h2⟩ := ih (max n (x + 1))
    refine ⟨?_, fun y hy => ?_⟩
    · show n ≤ List.foldl _ (max n (x + 1)) l
      omega
    · rcases List.mem_cons.1 hy with rfl | hy
      · show y < List.foldl _ (max n (y + 1)) l
        omega
      · exact h2 y hy
theorem PartsO.count {n : Nat} {l : List (Nat × Nat)} {u : Nat → Bool} {out : List Int} {many : Int} (h : PartsO n l u out many) : countF out = many := by
  have h1 : countF out ≤ many := countF_le h.le.1 fun x hx => by
    obtain ⟨i, hi, rfl⟩ := List.mem_iff_getElem.1 hx
    have := (h.rng i (by have := h.len; omega)).2
    rwa [List.getD_eq_getElem?_getD, List.getElem?_eq_getElem hi] at this
  by_cases h0 : many = 0
  · have := countF_nn out; omega
  · have hle := h.le
    obtain ⟨x, hx, hxm⟩ := h.sur (many - 1) (by omega) (by omega)
    have hx2 : x < out.length := by have := h.len; omega
    have := countF_ge (l := out) out[x] (List.getElem_mem hx2)
    rw [List.getD_eq_getElem?_getD, List.getElem?_eq_getElem hx2] at hxm
    change out[x] = _ at hxm
    omega
end Go.Proofs.Ytmginfhlohenhaa
