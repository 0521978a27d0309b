/- Of stages: what the laws say, in numbers and lists. -/
import Derived.Test.YtdcnllgnblgfaaaShedP
set_option linter.unusedVariables false
set_option linter.unusedSimpArgs false
namespace Go.Proofs.Ytdcnllgnblgfaaa
open Go.Proofs.Ytdcnllgnblgfaaa.Aw
attribute [local go_sem] Int.natCast_zero Int.natCast_one bne_self_eq_false beq_self_eq_true Bool.not_true Bool.not_false Option.isSome_none Option.isSome_some Aw.bkM_nil Option.getD_some Option.getD_none Nat.sub_zero Int.toNat_zero Aw.frzS Aw.frzT Aw.frzA Aw.frzL Aw.frzR Aw.frzO Aw.frzOL Aw.frzOT Aw.frzOR Aw.killS Aw.mapT Aw.mapR Aw.killM Aw.resAVs Aw.resAV Aw.quietOps Aw.wpP Aw.wpT Aw.wpS Aw.AOp.mild List.getElem?_cons_zero List.getElem?_cons_succ Bool.and_false Bool.and_self Bool.false_and Aw.opOb Aw.gdB Aw.Rnd Aw.subTm List.length_map Int.toNat_natCast and_self Aw.SeqC Aw.stops Aw.Ends Aw.looks Aw.renA Aw.renL Aw.renT Aw.renS Aw.wpO Aw.aop Aw.putTm Aw.St.ev Aw.St.put Aw.St.putO Aw.binAV Aw.intBin Aw.strBin Aw.pickAV Aw.optInt Aw.AV.strip Aw.AV.guard Aw.AV.cells Aw.gdOb Aw.AOp.opds Aw.AOp.still Aw.ptrCells Aw.St.reg Aw.fillAV Aw.fillOb Aw.elsOb Aw.splice Aw.firm Aw.cellish Aw.AV.shut Aw.shutAll Aw.Seq Aw.Blk Aw.retS_nil Aw.mapA Aw.mapL Aw.borA Aw.borOb Aw.allOb Aw.tupOf Aw.params Aw.Opd.of Array.toList Value.cells List.map_cons List.map_nil List.getD_cons_zero List.getD_cons_succ List.getD_nil List.length_cons List.length_nil List.take_succ_cons List.take_zero List.take_nil List.drop_zero List.drop_succ_cons List.drop_nil List.set_cons_zero List.set_cons_succ List.append_nil List.nil_append List.cons_append List.all_cons List.all_nil cond_false cond_true if_true if_false true_and and_true Bool.and_true Bool.true_and Option.map_some Option.map_none false_implies forall_const implies_true forall_eq imp_self Bool.cond_false_right Bool.cond_true_left beq_true beq_false Bool.not_eq_true' Bool.false_eq_true Nat.zero_add Nat.add_zero Aw.eqCells Aw.exactCap Aw.overEls Aw.revealS Aw.srcEls Aw.srcSz
attribute [local go_sem ↓] Aw.look_nil Aw.look_ite Aw.wpL_nil Aw.wpL_op Aw.wpL_gd Aw.wpQ_nil Aw.wpQ_op Aw.wpQ_gd Aw.wpC_draw Aw.wpC_reg Aw.wpC_skip Aw.wpC_ret Aw.wpC_exit Aw.wpC_seq Aw.wpC_block Aw.wpC_loop Aw.wpC_cond Aw.stopAt_nil Aw.stopAt_cons Aw.wpD_skip Aw.wpD_ret Aw.wpD_exit Aw.wpD_region Aw.wpD_draw Aw.wpM_nil Aw.wpM_op Aw.wpM_gd Aw.wpD_seq Aw.wpD_block Aw.wpD_loop Aw.wpD_cond
/-- A lower stage is never ahead of a higher one that waits no longer. -/
def Ahead (st : List Stage) (x : Sh) : Prop :=
  ∀ t s, t < s → s < st.length → (nth st t).wait ≤ (nth st s).wait → min (x.lo s) (nth st t).wait ≤ x.lo t ∧ (x.ac s = true → x.ac t = true)
theorem Ahead.zero {st : List Stage} (h : ShedOk st) : Ahead st sh0 := fun t s hts hs hw => by
  have := h.range _ (nth_mem (l := st) (k := t) (by omega))
  simp only [sh0]; exact ⟨by omega, fun h => h⟩
theorem Ahead.step {st : List Stage} (hs : ShedOk st) {x : Sh} (hi : ShInv st x) (h : Ahead st x) (f : Int) : Ahead st (shStep st f x) := fun t s hts hsl hw => by
  obtain ⟨h1, h2⟩ := h t s hts hsl hw
  have b1 := hi.low t (by omega)
  have b2 := hi.low s hsl
  have r1 := hs.range _ (nth_mem (l := st) (k := t) (by omega))
  have r2 := hs.range _ (nth_mem hsl)
  have hd := hs.desc t s hts hsl
  have hi' := hi.step hs f
  have key : min ((shStep st f x).lo s) (nth st t).wait ≤ (shStep st f x).lo t := by
    simp only [shStep, nlo]
    repeat' split
    all_goals omega
  refine ⟨key, fun ha => ?_⟩
  have hb := hi'.low t (by omega)
  by_cases hold : x.ac s = true
  · simp only [shStep, h2 hold, Bool.true_or]
  · have hact : actB f (nth st s) (x.lo s) (x.ac s) = true := by
      simp only [shStep, Bool.or_eq_true] at ha
      rcases ha with ha | ha
      · exact absurd ha hold
      · exact ha
    unfold actB at hact
    simp only [Bool.and_eq_true, beq_iff_eq] at hact
    have e1 : (shStep st f x).lo s = (nth st s).wait := hact.1
    rw [e1] at key
    exact hi'.full t (by omega) (by omega)
theorem load_of {st : List Stage} (hs : ShedOk st) {x : Sh} (hi : ShInv st x) {k : Nat} (hk : k < st.length) {b : ByteArray} (hb : b ∈ (nth st k).loads) : b ∈ loadsOf st x.ord ↔ k ∈ x.ord := by
  unfold loadsOf
  rw [List.mem_flatMap]
  constructor
  · rintro ⟨j, hj, hbj⟩
    have hjl := hi.inr j hj
    have hn := hs.names
    rw [List.flatMap_def] at hn
    unfold List.Nodup at hn
    rw [List.pairwise_flatten] at hn
    have hp := List.pairwise_iff_getElem.1 hn.2
    have hget : ∀ i (h : i < st.length), (st.map Stage.loads)[i]'(by simpa using h) = (nth st i).loads := fun i h => by
      unfold nth
      rw [List.getElem_map, List.getD_eq_getElem?_getD, List.getElem?_eq_getElem h]; rfl
    rcases Nat.lt_trichotomy j k with h | h | h
    · have := hp j k (by simpa using hjl) (by simpa using hk) h b (by rw [hget j hjl]; exact hbj) b (by rw [hget k hk]; exact hb)
      exact absurd rfl this
    · exact h ▸ hj
    · have := hp k j (by simpa using hk) (by simpa using hjl) h b (by rw [hget k hk]; exact hb) b (by rw [hget j hjl]; exact hbj)
      exact absurd rfl this
  · intro h; exact ⟨k, h, hb⟩
theorem ahead_loads {st : List Stage} (hs : ShedOk st) {x : Sh} (hi : ShInv st x) (h : Ahead st x) {t s : Nat} (hts : t < s) (hsl : s < st.length) (hw : (nth st t).wait ≤ (nth st s).wait) {a b : ByteArray} (ha : a ∈ (nth st s).loads) (hb : b ∈ (nth st t).loads)
    (hoff : a ∈ loadsOf st x.ord) : b ∈ loadsOf st x.ord := by
  rw [load_of hs hi hsl ha] at hoff
  rw [load_of hs hi (by omega) hb]
  exact (hi.acted t (by omega)).1 ((h t s hts hsl hw).2 ((hi.acted s hsl).2 hoff))

/-- Nothing was ever too low. -/
def Still (st : List Stage) (x : Sh) : Prop := (∀ k, k < st.length → x.lo k = 0 ∧ x.ac k = false) ∧ x.ord = []
theorem Still.zero (st : List Stage) : Still st sh0 := ⟨fun _ _ => ⟨rfl, rfl⟩, rfl⟩
theorem Still.step {st : List Stage} (hs : ShedOk st) {x : Sh} (h : Still st x) {f : Int} (hf : ∀ k, k < st.length → (nth st k).below ≤ f) : Still st (shStep st f x) ∧ actL st f x st.length = [] := by
  have hact : ∀ k, k < st.length → actB f (nth st k) (x.lo k) (x.ac k) = false := fun k hk => by
    have r := hs.range _ (nth_mem hk)
    unfold actB nlo
    rw [if_pos (hf k hk)]
    simp only [Bool.and_eq_false_iff, beq_eq_false_iff_ne]
    left; omega
  have hnil : actL st f x st.length = [] := by
    rw [List.eq_nil_iff_forall_not_mem]
    intro k hk
    rw [mem_actL] at hk
    rw [hact k hk.1] at hk
    simp at hk
  refine ⟨⟨fun k hk => ⟨?_, ?_⟩, by simp only [shStep, h.2, hnil, List.append_nil]⟩, hnil⟩
  · simp only [shStep, nlo]; rw [if_pos (hf k hk)]
  · have h5 := hact k hk
    rw [(h.1 k hk).2] at h5
    simp only [shStep, (h.1 k hk).2, h5, Bool.or_false]
theorem below_first {st : List Stage} (hs : ShedOk st) {k : Nat} (hk : k < st.length) : (nth st k).below ≤ (nth st 0).below := by
  rcases Nat.eq_zero_or_pos k with h | h
  · subst h; exact Int.le_refl _
  · have := hs.desc 0 k h hk; omega

/-- Two states that cannot be told apart. -/
def Same (st : List Stage) (x y : Sh) : Prop := (∀ k, k < st.length → x.lo k = y.lo k ∧ x.ac k = y.ac k) ∧ x.ord = y.ord
theorem Same.acts {st : List Stage} {x y : Sh} (h : Same st x y) (f : Int) : actL st f x st.length = actL st f y st.length := by
  unfold actL
  refine List.filter_congr fun k hk => ?_
  obtain ⟨h1, h2⟩ := h.1 k (List.mem_range.1 hk)
  rw [h1, h2]
theorem Same.step {st : List Stage} {x y : Sh} (h : Same st x y) (f : Int) : Same st (shStep st f x) (shStep st f y) := by
  refine ⟨fun k hk => ?_, by simp only [shStep, h.2, h.acts f]⟩
  obtain ⟨h1, h2⟩ := h.1 k hk
  simp only [shStep, h1, h2, and_self]
theorem Same.any {st : List Stage} {x y : Sh} (h : Same st x y) (f : Int) : Same st (shAny st f x) (shAny st f y) := by
  unfold shAny; split
  · exact h.step f
  · exact h
/-- Taken back until nothing is off, and once calm: as new. -/
theorem still_of {st : List Stage} (hs : ShedOk st) {x : Sh} (hi : ShInv st x) (ho : x.ord = []) : Same st (shStep st 0 x) sh0 := by
  have hac : ∀ k, k < st.length → x.ac k = false := fun k hk => by
    have := hi.acted k hk
    rw [ho] at this
    cases h : x.ac k
    · rfl
    · rw [h] at this; simp at this
  have hf : ∀ k, k < st.length → (nth st k).below ≤ 0 := fun k hk => by have := hs.range _ (nth_mem hk); omega
  have hact : ∀ k, k < st.length → actB 0 (nth st k) (x.lo k) (x.ac k) = false := fun k hk => by
    have r := hs.range _ (nth_mem hk)
    unfold actB nlo
    rw [if_pos (hf k hk)]
    simp only [Bool.and_eq_false_iff, beq_eq_false_iff_ne]
    left; omega
  have hnil : actL st 0 x st.length = [] := by
    rw [List.eq_nil_iff_forall_not_mem]
    intro k hk
    rw [mem_actL] at hk
    rw [hact k hk.1] at hk
    simp at hk
  refine ⟨fun k hk => ⟨?_, ?_⟩, by simp only [shStep, ho, hnil, List.append_nil]; rfl⟩
  · simp only [shStep, nlo]; rw [if_pos (hf k hk)]; rfl
  · have h5 := hact k hk
    rw [hac k hk] at h5
    simp only [shStep, hac k hk, h5, Bool.or_false]; rfl
theorem back_loads (st : List Stage) {x : Sh} {k : Nat} (h : x.ord.getLast? = some k) : loadsOf st (shBack x).ord ++ (nth st k).loads = loadsOf st x.ord := by
  unfold shBack
  rw [h]
  have hx : x.ord = x.ord.dropLast ++ [k] := by
    obtain ⟨ys, hys⟩ := List.getLast?_eq_some_iff.1 h
    rw [hys]; simp
  unfold loadsOf
  simp only
  conv => rhs; rw [hx]
  rw [List.flatMap_append]; simp
theorem back_len (x : Sh) : (shBack x).ord.length = x.ord.length - 1 := by
  unfold shBack
  split
  · rename_i h
    rw [List.getLast?_eq_none_iff] at h
    rw [h]; rfl
  · simp
end Go.Proofs.Ytdcnllgnblgfaaa
