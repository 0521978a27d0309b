/- Graphs: shortest ways. -/
import Derived.Test.YtmginfhlohenhaaAwZk
import Derived.Test.YtmginfhlohenhaaGraP
set_option linter.unusedVariables false
set_option linter.unusedSimpArgs false
namespace Go.Proofs.Ytmginfhlohenhaa
open Go.Proofs.Ytmginfhlohenhaa.Aw
attribute [local go_sem] Int.natCast_zero Int.natCast_one bne_self_eq_false beq_self_eq_true Bool.not_true Bool.not_false Option.isSome_none Option.isSome_some Aw.bkM_nil Option.getD_some Option.getD_none Nat.sub_zero Int.toNat_zero Aw.frzS Aw.frzT Aw.frzA Aw.frzL Aw.frzR Aw.frzO Aw.frzOL Aw.frzOT Aw.frzOR Aw.killS Aw.mapT Aw.mapR Aw.killM Aw.resAVs Aw.resAV Aw.quietOps Aw.wpP Aw.wpT Aw.wpS Aw.AOp.mild List.getElem?_cons_zero List.getElem?_cons_succ Bool.and_false Bool.and_self Bool.false_and Aw.opOb Aw.gdB Aw.Rnd Aw.subTm List.length_map Int.toNat_natCast and_self Aw.SeqC Aw.stops Aw.Ends Aw.looks Aw.renA Aw.renL Aw.renT Aw.renS Aw.wpO Aw.aop Aw.putTm Aw.St.ev Aw.St.put Aw.St.putO Aw.binAV Aw.intBin Aw.strBin Aw.pickAV Aw.optInt Aw.AV.strip Aw.AV.guard Aw.AV.cells Aw.gdOb Aw.AOp.opds Aw.AOp.still Aw.ptrCells Aw.St.reg Aw.fillAV Aw.fillOb Aw.elsOb Aw.splice Aw.firm Aw.cellish Aw.AV.shut Aw.shutAll Aw.Seq Aw.Blk Aw.retS_nil Aw.mapA Aw.mapL Aw.borA Aw.borOb Aw.allOb Aw.tupOf Aw.params Aw.Opd.of Array.toList Value.cells List.map_cons List.map_nil List.getD_cons_zero List.getD_cons_succ List.getD_nil List.length_cons List.length_nil List.take_succ_cons List.take_zero List.take_nil List.drop_zero List.drop_succ_cons List.drop_nil List.set_cons_zero List.set_cons_succ List.append_nil List.nil_append List.cons_append List.all_cons List.all_nil cond_false cond_true if_true if_false true_and and_true Bool.and_true Bool.true_and Option.map_some Option.map_none false_implies forall_const implies_true forall_eq imp_self Bool.cond_false_right Bool.cond_true_left beq_true beq_false Bool.not_eq_true' Bool.false_eq_true Nat.zero_add Nat.add_zero Aw.eqCells Aw.stopDraw Aw.skipS Aw.exactCap Aw.revealS Aw.srcEls Aw.srcSz
attribute [local go_sem ↓] Aw.look_nil Aw.look_ite Aw.wpL_nil Aw.wpL_op Aw.wpL_gd Aw.wpQ_nil Aw.wpQ_op Aw.wpQ_gd Aw.wpC_draw Aw.wpC_reg Aw.wpC_skip Aw.wpC_ret Aw.wpC_exit Aw.wpC_seq Aw.wpC_block Aw.wpC_loop Aw.wpC_cond Aw.stopAt_nil Aw.stopAt_cons Aw.wpD_skip Aw.wpD_ret Aw.wpD_exit Aw.wpD_region Aw.wpD_draw Aw.wpM_nil Aw.wpM_op Aw.wpM_gd Aw.wpD_seq Aw.wpD_block Aw.wpD_loop Aw.wpD_cond
abbrev lab (far : List Int) (v : Nat) : Int := far.getD v 0
abbrev edg (l : List (Nat × Nat)) (i : Nat) : Nat × Nat := l.getD i (0, 0)
def relax1 (d : Int) (st : List Int × Bool) (y : Nat × Nat) : List Int × Bool := if lab st.1 y.1 = d ∧ lab st.1 y.2 < 0 then (st.1.set y.2 (d + 1), true) else st
def relax (d : Int) (st : List Int × Bool) (x : Nat × Nat) : List Int × Bool := relax1 d (relax1 d st x) (x.2, x.1)
def passW (l : List (Nat × Nat)) (d : Int) (far : List Int) (i : Nat) : List Int × Bool := (List.range i).foldl (fun st k => relax d st (edg l k)) (far, false)
theorem passW_succ (l : List (Nat × Nat)) (d : Int) (far : List Int) (i : Nat) : passW l d far (i + 1) = relax d (passW l d far i) (edg l i) := by
  unfold passW
  rw [List.range_succ, List.foldl_append]; rfl
def growW (l : List (Nat × Nat)) (v : Nat) : Nat → Int → List Int → Option (List Int)
  | 0, _, _ => none
  | f + 1, d, far => if 0 ≤ lab far v then some far else if (passW l d far l.length).2 = false ∧ lab (passW l d far l.length).1 v < 0 then none else growW l v f (d + 1) (passW l d far l.length).1
def startW (N to : Nat) : List Int := (List.replicate N (-1)).set to 0
def onW (far : List Int) (v : Nat) (x : Nat × Nat) : Bool := (x.1 == v || x.2 == v) && lab far (x.1 + x.2 - v) == lab far v - 1
/-- The first edge that leads on, from place i on. -/
def stepX (l : List (Nat × Nat)) (far : List Int) (v : Nat) : Nat → List (Nat × Nat) → Option Nat
  | _, [] => none
  | k, x :: r => if onW far v x = true then some k else stepX l far v (k + 1) r
def pathW (l : List (Nat × Nat)) (far : List Int) (to : Nat) : Nat → Nat → List Nat
  | 0, _ => []
  | f + 1, v => if v = to then [] else match stepX l far v 0 l with
    | none => []
    | some i => i :: pathW l far to f ((edg l i).1 + (edg l i).2 - v)
def wayF (N : Nat) (l : List (Nat × Nat)) (v to : Nat) : Option (List Nat) := (growW l v (N + 1) 0 (startW N to)).map fun far => pathW l far to (N + 1) v
def negs (far : List Int) : Nat := far.countP fun x => decide (x < 0)
theorem lab_set {far : List Int} {m x : Nat} {v : Int} (hm : m < far.length) : lab (far.set m v) x = if x = m then v else lab far x := getDI_set hm
theorem negs_set : ∀ {far : List Int} {i : Nat} {v : Int}, i < far.length → lab far i < 0 → 0 ≤ v → negs (far.set i v) < negs far
  | x :: far, 0, v, hi, h, hv => by
    unfold negs
    rw [List.set_cons_zero, List.countP_cons, List.countP_cons]
    have h' : x < 0 := h
    simp [h', Int.not_lt.2 hv]
  | x :: far, i + 1, v, hi, h, hv => by
    have ih := negs_set (far := far) (i := i) (v := v) (by simpa using hi) (by simpa [lab] using h) hv
    unfold negs at *
    rw [List.set_cons_succ, List.countP_cons, List.countP_cons]
    omega
/-- Labels up to d. -/
structure LabI (N : Nat) (l : List (Nat × Nat)) (to : Nat) (d : Int) (far : List Int) : Prop where
  len : far.length = N
  d0 : 0 ≤ d
  rng : ∀ v, v < N → lab far v = -1 ∨ (0 ≤ lab far v ∧ lab far v ≤ d)
  zero : ∀ v, v < N → (lab far v = 0 ↔ v = to)
  back : ∀ v, v < N → 0 < lab far v → ∃ i, i < l.length ∧ ((edg l i).1 = v ∧ lab far (edg l i).2 = lab far v - 1 ∨ (edg l i).2 = v ∧ lab far (edg l i).1 = lab far v - 1)
  nbr : ∀ i, i < l.length → (0 ≤ lab far (edg l i).1 → lab far (edg l i).1 < d → 0 ≤ lab far (edg l i).2 ∧ lab far (edg l i).2 ≤ lab far (edg l i).1 + 1) ∧
    (0 ≤ lab far (edg l i).2 → lab far (edg l i).2 < d → 0 ≤ lab far (edg l i).1 ∧ lab far (edg l i).1 ≤ lab far (edg l i).2 + 1)
theorem start_lab {N to : Nat} {l : List (Nat × Nat)} (hto : to < N) : LabI N l to 0 (startW N to) := by
  have hg : ∀ v, v < N → lab (startW N to) v = if v = to then 0 else -1 := fun v hv => by
    unfold startW
    rw [lab_set (by simpa using hto)]
    split
    · rfl
    · rw [lab, List.getD_eq_getElem?_getD, List.getElem?_replicate, if_pos hv]; rfl
  refine ⟨by unfold startW; simp, Int.le_refl 0, fun v hv => ?_, fun v hv => ?_, fun v hv h => ?_, fun i hi => ⟨fun h1 h2 => by omega, fun h1 h2 => by omega⟩⟩
  · rw [hg v hv]; split
    · right; omega
    · left; rfl
  · rw [hg v hv]; split
    · rename_i h; exact ⟨fun _ => h, fun _ => rfl⟩
    · rename_i h; exact ⟨fun h1 => by omega, fun h1 => absurd h1 h⟩
  · rw [hg v hv] at h; split at h <;> omega
/-- While a pass goes on. -/
structure PassI (N : Nat) (l : List (Nat × Nat)) (d : Int) (far0 : List Int) (st : List Int × Bool) : Prop where
  len : st.1.length = N
  keep : ∀ v, v < N → lab far0 v ≠ -1 → lab st.1 v = lab far0 v
  new : ∀ v, v < N → lab far0 v = -1 → lab st.1 v = -1 ∨ (lab st.1 v = d + 1 ∧ ∃ i, i < l.length ∧ ((edg l i).1 = v ∧ lab far0 (edg l i).2 = d ∨ (edg l i).2 = v ∧ lab far0 (edg l i).1 = d))
  grow : (st.2 = true → negs st.1 < negs far0) ∧ (st.2 = false → st.1 = far0)
theorem relax1_ok {N : Nat} {l : List (Nat × Nat)} {to : Nat} {d : Int} {far0 : List Int} {st : List Int × Bool} {k : Nat} {a b : Nat} (h0 : LabI N l to d far0) (h : PassI N l d far0 st) (ha : a < N) (hb : b < N) (hk : k < l.length) (he : edg l k = (a, b) ∨ edg l k = (b, a)) :
    PassI N l d far0 (relax1 d st (a, b)) ∧ (lab far0 a = d → 0 ≤ lab (relax1 d st (a, b)).1 b) ∧ (∀ v, v < N → 0 ≤ lab st.1 v → 0 ≤ lab (relax1 d st (a, b)).1 v) ∧ (negs (relax1 d st (a, b)).1 ≤ negs st.1) := by
  have hd := h0.d0
  have hst : lab st.1 a = d ↔ lab far0 a = d := by
    by_cases h1 : lab far0 a = -1
    · rcases h.new a ha h1 with h2 | ⟨h2, _⟩
      · rw [h2, h1]
      · rw [h2, h1]; omega
    · rw [h.keep a ha h1]
  unfold relax1
  dsimp only
  split
  · rename_i hc
    obtain ⟨h1, h2⟩ := hc
    have hlen := h.len
    have hb2 : b < st.1.length := by omega
    have hneg := negs_set (v := d + 1) hb2 h2 (by omega)
    have hb0 : lab far0 b = -1 := by
      rcases h0.rng b hb with h3 | h3
      · exact h3
      · rw [h.keep b hb (by omega)] at h2; omega
    have hle : negs st.1 ≤ negs far0 := by
      cases hs : st.2 with
      | true => exact Nat.le_of_lt (h.grow.1 hs)
      | false => rw [h.grow.2 hs]; exact Nat.le_refl _
    refine ⟨⟨by rw [List.length_set]; exact h.len, fun v hv h3 => ?_, fun v hv h3 => ?_, ⟨fun _ => Nat.lt_of_lt_of_le hneg hle, fun h => by cases h⟩⟩, fun _ => ?_, fun v hv h3 => ?_, Nat.le_of_lt hneg⟩
    · rw [lab_set hb2, if_neg (fun e => h3 (by rw [e]; exact hb0))]; exact h.keep v hv h3
    · rw [lab_set hb2]
      by_cases e : v = b
      · rw [if_pos e]
        right
        refine ⟨rfl, k, hk, ?_⟩
        subst e
        rcases he with he | he <;> rw [he]
        · right; exact ⟨rfl, hst.1 h1⟩
        · left; exact ⟨rfl, hst.1 h1⟩
      · rw [if_neg e]; exact h.new v hv h3
    · rw [lab_set hb2, if_pos rfl]; omega
    · rw [lab_set hb2]; split
      · omega
      · exact h3
  · rename_i hc
    refine ⟨h, fun h1 => ?_, fun v _ h3 => h3, Nat.le_refl _⟩
    have h2 := hst.2 h1
    rcases Int.lt_or_le (lab st.1 b) 0 with h3 | h3
    · exact absurd ⟨h2, h3⟩ hc
    · exact h3
theorem passW_ok {N : Nat} {l : List (Nat × Nat)} {to : Nat} {d : Int} {far0 : List Int} (hl : EdgesIn N l) (h0 : LabI N l to d far0) : ∀ i, i ≤ l.length →
    PassI N l d far0 (passW l d far0 i) ∧ ∀ k, k < i → (lab far0 (edg l k).1 = d → 0 ≤ lab (passW l d far0 i).1 (edg l k).2) ∧ (lab far0 (edg l k).2 = d → 0 ≤ lab (passW l d far0 i).1 (edg l k).1)
  | 0, _ => ⟨⟨h0.len, fun _ _ _ => rfl, fun v hv h => .inl h, ⟨fun h => (by cases h), fun _ => rfl⟩⟩, fun k hk => by omega⟩
  | i + 1, hi => by
    obtain ⟨h1, h2⟩ := passW_ok hl h0 i (by omega)
    rw [passW_succ]
    generalize passW l d far0 i = st at *
    obtain ⟨ha, hb⟩ := hl i (by omega)
    obtain ⟨g1, g2, g3, _⟩ := relax1_ok (k := i) h0 h1 ha hb (by omega) (.inl rfl)
    obtain ⟨k1, k2, k3, _⟩ := relax1_ok (k := i) h0 g1 hb ha (by omega) (.inr rfl)
    refine ⟨k1, fun k hk => ?_⟩
    rcases Nat.lt_or_eq_of_le (Nat.le_of_lt_succ hk) with hk | rfl
    · obtain ⟨e1, e2⟩ := h2 k hk
      obtain ⟨ka, kb⟩ := hl k (by omega)
      exact ⟨fun h => k3 _ kb (g3 _ kb (e1 h)), fun h => k3 _ ka (g3 _ ka (e2 h))⟩
    · exact ⟨fun h => k3 _ hb (g2 h), k2⟩
theorem lab_next {N : Nat} {l : List (Nat × Nat)} {to : Nat} {d : Int} {far0 : List Int} (hl : EdgesIn N l) (h0 : LabI N l to d far0) : LabI N l to (d + 1) (passW l d far0 l.length).1 := by
  obtain ⟨h1, h2⟩ := passW_ok hl h0 l.length (Nat.le_refl _)
  generalize passW l d far0 l.length = st at *
  have hd := h0.d0
  have hl : ∀ i, i < l.length → (edg l i).1 < N ∧ (edg l i).2 < N := hl
  have old : ∀ v, v < N → lab st.1 v ≤ d → 0 ≤ lab st.1 v → lab st.1 v = lab far0 v := fun v hv h3 h4 => by
    by_cases h5 : lab far0 v = -1
    · rcases h1.new v hv h5 with h6 | ⟨h6, _⟩ <;> omega
    · exact h1.keep v hv h5
  have key : ∀ a b, a < N → b < N → (lab far0 a < d → 0 ≤ lab far0 a → 0 ≤ lab far0 b ∧ lab far0 b ≤ lab far0 a + 1) → (lab far0 a = d → 0 ≤ lab st.1 b) → 0 ≤ lab st.1 a → lab st.1 a < d + 1 → 0 ≤ lab st.1 b ∧ lab st.1 b ≤ lab st.1 a + 1 := fun a b ha hb h3 h4 h5 h6 => by
    have e := old a ha (by omega) h5
    rcases Int.lt_or_le (lab far0 a) d with h7 | h7
    · have h8 := h3 h7 (by omega)
      rw [h1.keep b hb (by omega), e]; exact h8
    · have h8 := h4 (by omega)
      refine ⟨h8, ?_⟩
      by_cases h9 : lab far0 b = -1
      · rcases h1.new b hb h9 with h10 | ⟨h10, _⟩ <;> omega
      · have := h0.rng b hb
        rw [h1.keep b hb h9]; omega
  refine ⟨h1.len, by omega, fun v hv => ?_, fun v hv => ?_, fun v hv h3 => ?_, fun i hi => ?_⟩
  · by_cases h3 : lab far0 v = -1
    · rcases h1.new v hv h3 with h4 | ⟨h4, _⟩
      · exact .inl h4
      · right; omega
    · rw [h1.keep v hv h3]
      rcases h0.rng v hv with h4 | h4
      · exact .inl h4
      · right; omega
  · by_cases h3 : lab far0 v = -1
    · have h4 := (h0.zero v hv)
      rcases h1.new v hv h3 with h5 | ⟨h5, _⟩
      · rw [h5]; exact ⟨fun h => by omega, fun h => by have := h4.2 h; omega⟩
      · rw [h5]; exact ⟨fun h => by omega, fun h => by have := h4.2 h; omega⟩
    · rw [h1.keep v hv h3]; exact h0.zero v hv
  · by_cases h4 : lab far0 v = -1
    · rcases h1.new v hv h4 with h5 | ⟨h5, i, hi, h6⟩
      · omega
      · refine ⟨i, hi, ?_⟩
        obtain ⟨ia, ib⟩ := hl i hi
        rcases h6 with ⟨h6, h7⟩ | ⟨h6, h7⟩
        · left; refine ⟨h6, ?_⟩; rw [h1.keep _ ib (by omega)]; omega
        · right; refine ⟨h6, ?_⟩; rw [h1.keep _ ia (by omega)]; omega
    · rw [h1.keep v hv h4] at h3 ⊢
      obtain ⟨i, hi, h6⟩ := h0.back v hv h3
      obtain ⟨ia, ib⟩ := hl i hi
      refine ⟨i, hi, ?_⟩
      rcases h6 with ⟨h6, h7⟩ | ⟨h6, h7⟩
      · left; refine ⟨h6, ?_⟩; rw [h1.keep _ ib (by omega)]; exact h7
      · right; refine ⟨h6, ?_⟩; rw [h1.keep _ ia (by omega)]; exact h7
  · obtain ⟨ia, ib⟩ := hl i hi
    obtain ⟨n1, n2⟩ := h0.nbr i hi
    obtain ⟨d1, d2⟩ := h2 i hi
    exact ⟨key _ _ ia ib (fun h3 h4 => n1 h4 h3) d1, key _ _ ib ia (fun h3 h4 => n2 h4 h3) d2⟩
/-- No label reaches it, and all edges of labelled nodes have been followed. -/
structure Closed (N : Nat) (l : List (Nat × Nat)) (to v : Nat) (far : List Int) : Prop where
  to : 0 ≤ lab far to
  not : lab far v < 0
  all : ∀ i, i < l.length → (0 ≤ lab far (edg l i).1 ↔ 0 ≤ lab far (edg l i).2)
theorem closed_of {N : Nat} {l : List (Nat × Nat)} {to v : Nat} {d : Int} {far : List Int} (hl : EdgesIn N l) (hto : to < N) (h : LabI N l to d far) (h1 : (passW l d far l.length).2 = false) (h2 : lab (passW l d far l.length).1 v < 0) : Closed N l to v far := by
  obtain ⟨g1, g2⟩ := passW_ok hl h l.length (Nat.le_refl _)
  rw [g1.grow.2 h1] at h2 g2
  have key : ∀ a b, a < N → (lab far a < d → 0 ≤ lab far a → 0 ≤ lab far b) → (lab far a = d → 0 ≤ lab far b) → 0 ≤ lab far a → 0 ≤ lab far b := fun a b ha h3 h4 h5 => by
    rcases Int.lt_or_le (lab far a) d with h6 | h6
    · exact h3 h6 h5
    · rcases h.rng a ha with h7 | h7
      · omega
      · exact h4 (by omega)
  refine ⟨by rw [(h.zero to hto).2 rfl]; exact Int.le_refl 0, h2, fun i hi => ?_⟩
  obtain ⟨ia, ib⟩ := hl i hi
  obtain ⟨n1, n2⟩ := h.nbr i hi
  obtain ⟨d1, d2⟩ := g2 i hi
  exact ⟨key _ _ ia (fun h3 h4 => (n1 h4 h3).1) d1, key _ _ ib (fun h3 h4 => (n2 h4 h3).1) d2⟩
theorem growW_ok {N : Nat} {l : List (Nat × Nat)} {to v : Nat} (hl : EdgesIn N l) (hto : to < N) : ∀ (f : Nat) (d : Int) (far : List Int), LabI N l to d far → negs far < f →
    match growW l v f d far with
    | some far' => 0 ≤ lab far' v ∧ ∃ d', LabI N l to d' far' ∧ d' + 1 ≤ d + f
    | none => ∃ far', Closed N l to v far'
  | 0, d, far, _, hf => by omega
  | f + 1, d, far, h, hf => by
    unfold growW
    by_cases h1 : 0 ≤ lab far v
    · rw [if_pos h1]; exact ⟨h1, d, h, by omega⟩
    rw [if_neg h1]
    by_cases h2 : (passW l d far l.length).2 = false ∧ lab (passW l d far l.length).1 v < 0
    · rw [if_pos h2]; exact ⟨far, closed_of hl hto h h2.1 h2.2⟩
    rw [if_neg h2]
    have h3 := lab_next hl h
    have h4 := (passW_ok hl h l.length (Nat.le_refl _)).1
    have hng : negs (passW l d far l.length).1 < f := by
      cases hg : (passW l d far l.length).2 with
      | true => have := h4.grow.1 hg; omega
      | false =>
        rw [h4.grow.2 hg] at h2
        exact absurd ⟨hg, by omega⟩ h2
    have ih := growW_ok (v := v) hl hto f (d + 1) _ h3 hng
    cases hr : growW l v f (d + 1) (passW l d far l.length).1 with
    | none => rw [hr] at ih; exact ih
    | some far' =>
      rw [hr] at ih
      obtain ⟨g1, d', g2, g3⟩ := ih
      exact ⟨g1, d', g2, by omega⟩
/-- A way along which the labels fall. -/
def PathP (l : List (Nat × Nat)) (far : List Int) (to : Nat) : Nat → List Nat → Prop
  | v, [] => v = to
  | v, i :: r => i < l.length ∧ ∃ u, (edg l i = (v, u) ∨ edg l i = (u, v)) ∧ lab far u = lab far v - 1 ∧ PathP l far to u r
theorem stepX_ok {l : List (Nat × Nat)} {far : List Int} {v : Nat} : ∀ {r : List (Nat × Nat)} {k : Nat}, (∃ i, i < r.length ∧ onW far v (edg r i) = true) → ∃ i, i < r.length ∧ stepX l far v k r = some (k + i) ∧ onW far v (edg r i) = true ∧ ∀ j, j < i → onW far v (edg r j) = false
  | [], k, h => by obtain ⟨i, hi, _⟩ := h; simp at hi
  | x :: r, k, h => by
    unfold stepX
    by_cases hx : onW far v x = true
    · rw [if_pos hx]; exact ⟨0, by simp, rfl, hx, fun j hj => by omega⟩
    · rw [if_neg hx]
      obtain ⟨i, hi, h1⟩ := h
      cases i with
      | zero => exact absurd h1 hx
      | succ i =>
        obtain ⟨j, hj, h2, h3, h4⟩ := stepX_ok (l := l) (r := r) (k := k + 1) ⟨i, by simpa using hi, by simpa [edg] using h1⟩
        refine ⟨j + 1, by simpa using hj, by rw [h2]; congr 1; omega, by simpa [edg] using h3, fun m hm => ?_⟩
        cases m with
        | zero => simpa [edg] using hx
        | succ m => simpa [edg] using h4 m (by omega)
theorem onW_iff {l : List (Nat × Nat)} {far : List Int} {v i : Nat} (h : onW far v (edg l i) = true) : ∃ u, (edg l i = (v, u) ∨ edg l i = (u, v)) ∧ lab far u = lab far v - 1 ∧ (edg l i).1 + (edg l i).2 - v = u := by
  unfold onW at h
  simp only [Bool.and_eq_true, Bool.or_eq_true, beq_iff_eq] at h
  obtain ⟨h1, h2⟩ := h
  generalize edg l i = x at *
  obtain ⟨a, b⟩ := x
  dsimp only at *
  rcases h1 with rfl | rfl
  · exact ⟨b, .inl rfl, by rw [← h2]; congr 1; omega, by omega⟩
  · exact ⟨a, .inr rfl, by rw [← h2]; congr 1; omega, by omega⟩
theorem back_on {N : Nat} {l : List (Nat × Nat)} {to : Nat} {d : Int} {far : List Int} (h : LabI N l to d far) {v : Nat} (hv : v < N) (h1 : 0 < lab far v) : ∃ i, i < l.length ∧ onW far v (edg l i) = true := by
  obtain ⟨i, hi, h2⟩ := h.back v hv h1
  refine ⟨i, hi, ?_⟩
  unfold onW
  generalize edg l i = x at *
  obtain ⟨a, b⟩ := x
  dsimp only at *
  simp only [Bool.and_eq_true, Bool.or_eq_true, beq_iff_eq]
  rcases h2 with ⟨rfl, h2⟩ | ⟨rfl, h2⟩
  · exact ⟨.inl rfl, by rw [← h2]; congr 1; omega⟩
  · exact ⟨.inr rfl, by rw [← h2]; congr 1; omega⟩
theorem pathW_ok {N : Nat} {l : List (Nat × Nat)} {to : Nat} {d : Int} {far : List Int} (hl : EdgesIn N l) (h : LabI N l to d far) : ∀ (f v : Nat), v < N → 0 ≤ lab far v → lab far v < f → PathP l far to v (pathW l far to f v) ∧ ((pathW l far to f v).length : Int) = lab far v
  | 0, v, _, h1, h2 => by omega
  | f + 1, v, hv, h1, h2 => by
    unfold pathW
    by_cases e : v = to
    · rw [if_pos e]; exact ⟨e, by rw [(h.zero v hv).2 e]; rfl⟩
    rw [if_neg e]
    have h3 : 0 < lab far v := by
      have := (h.zero v hv)
      rcases Int.lt_or_eq_of_le h1 with h4 | h4
      · exact h4
      · exact absurd (this.1 h4.symm) e
    obtain ⟨i, hi, h4, h5, h6⟩ := stepX_ok (l := l) (k := 0) (back_on h hv h3)
    rw [h4, Nat.zero_add]
    obtain ⟨u, hu1, hu2, hu3⟩ := onW_iff h5
    dsimp only
    rw [hu3]
    have hun : u < N := by
      obtain ⟨ia, ib⟩ := hl i hi
      rcases hu1 with hu1 | hu1
      · rw [show l.getD i (0, 0) = (v, u) from hu1] at ib; exact ib
      · rw [show l.getD i (0, 0) = (u, v) from hu1] at ia; exact ia
    obtain ⟨p1, p2⟩ := pathW_ok hl h f u hun (by omega) (by omega)
    exact ⟨⟨hi, u, hu1, hu2, p1⟩, by rw [List.length_cons]; omega⟩
/-- What a way is. -/
theorem wayF_ok {N : Nat} {l : List (Nat × Nat)} {v to : Nat} (hl : EdgesIn N l) (hv : v < N) (hto : to < N) :
    match wayF N l v to with
    | some p => ∃ far d, LabI N l to d far ∧ PathP l far to v p ∧ (p.length : Int) = lab far v ∧ d ≤ N
    | none => ∃ far, Closed N l to v far := by
  have hn : negs (startW N to) < N + 1 := Nat.lt_succ_of_le (Nat.le_trans List.countP_le_length (by unfold startW; simp))
  have h := growW_ok (v := v) hl hto (N + 1) 0 _ (start_lab (l := l) hto) hn
  unfold wayF
  cases hg : growW l v (N + 1) 0 (startW N to) with
  | none => rw [hg] at h; exact h
  | some far =>
    rw [hg] at h
    obtain ⟨h1, d, h2, h3⟩ := h
    have h3 : d ≤ N := by omega
    have hlt : lab far v < N + 1 := by
      have := h2.rng v hv
      omega
    obtain ⟨p1, p2⟩ := pathW_ok hl h2 (N + 1) v hv h1 (by omega)
    exact ⟨far, d, h2, p1, p2, h3⟩
end Go.Proofs.Ytmginfhlohenhaa
