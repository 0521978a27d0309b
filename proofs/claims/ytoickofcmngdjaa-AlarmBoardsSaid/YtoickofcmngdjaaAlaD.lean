/- Alarms: every active alarm has a cause. -/
import Derived.Test.YtoickofcmngdjaaAwZl
import Derived.Test.YtoickofcmngdjaaAlaC
set_option linter.unusedVariables false
set_option linter.unusedSimpArgs false
namespace Go.Proofs.Ytoickofcmngdjaa
open Go.Proofs.Ytoickofcmngdjaa.Aw
attribute [local go_sem] Int.natCast_zero Int.natCast_one bne_self_eq_false beq_self_eq_true Bool.not_true Bool.not_false Option.isSome_none Option.isSome_some Aw.bkM_nil Option.getD_some Option.getD_none Nat.sub_zero Int.toNat_zero Aw.frzS Aw.frzT Aw.frzA Aw.frzL Aw.frzR Aw.frzO Aw.frzOL Aw.frzOT Aw.frzOR Aw.killS Aw.mapT Aw.mapR Aw.killM Aw.resAVs Aw.resAV Aw.quietOps Aw.wpP Aw.wpT Aw.wpS Aw.AOp.mild List.getElem?_cons_zero List.getElem?_cons_succ Bool.and_false Bool.and_self Bool.false_and Aw.opOb Aw.gdB Aw.Rnd Aw.subTm List.length_map Int.toNat_natCast and_self Aw.SeqC Aw.stops Aw.Ends Aw.looks Aw.renA Aw.renL Aw.renT Aw.renS Aw.wpO Aw.aop Aw.putTm Aw.St.ev Aw.St.put Aw.St.putO Aw.binAV Aw.intBin Aw.strBin Aw.pickAV Aw.optInt Aw.AV.strip Aw.AV.guard Aw.AV.cells Aw.gdOb Aw.AOp.opds Aw.AOp.still Aw.ptrCells Aw.St.reg Aw.fillAV Aw.fillOb Aw.elsOb Aw.splice Aw.firm Aw.cellish Aw.AV.shut Aw.shutAll Aw.Seq Aw.Blk Aw.retS_nil Aw.mapA Aw.mapL Aw.borA Aw.borOb Aw.allOb Aw.tupOf Aw.params Aw.Opd.of Array.toList Value.cells List.map_cons List.map_nil List.getD_cons_zero List.getD_cons_succ List.getD_nil List.length_cons List.length_nil List.take_succ_cons List.take_zero List.take_nil List.drop_zero List.drop_succ_cons List.drop_nil List.set_cons_zero List.set_cons_succ List.append_nil List.nil_append List.cons_append List.all_cons List.all_nil cond_false cond_true if_true if_false true_and and_true Bool.and_true Bool.true_and Option.map_some Option.map_none false_implies forall_const implies_true forall_eq imp_self Bool.cond_false_right Bool.cond_true_left beq_true beq_false Bool.not_eq_true' Bool.false_eq_true Nat.zero_add Nat.add_zero Aw.eqCells Aw.stopDraw Aw.skipS Aw.exactCap Aw.revealS Aw.srcEls Aw.srcSz
attribute [local go_sem ↓] Aw.look_nil Aw.look_ite Aw.wpL_nil Aw.wpL_op Aw.wpL_gd Aw.wpQ_nil Aw.wpQ_op Aw.wpQ_gd Aw.wpC_draw Aw.wpC_reg Aw.wpC_skip Aw.wpC_ret Aw.wpC_exit Aw.wpC_seq Aw.wpC_block Aw.wpC_loop Aw.wpC_cond Aw.stopAt_nil Aw.stopAt_cons Aw.wpD_skip Aw.wpD_ret Aw.wpD_exit Aw.wpD_region Aw.wpD_draw Aw.wpM_nil Aw.wpM_op Aw.wpM_gd Aw.wpD_seq Aw.wpD_block Aw.wpD_loop Aw.wpD_cond
theorem countP_le {α : Type} {p q : α → Bool} : ∀ {l : List α}, (∀ x ∈ l, p x = true → q x = true) → l.countP p ≤ l.countP q
  | [], _ => Nat.le_refl _
  | x :: l, h => by
    have ih := countP_le (l := l) fun y hy => h y (List.mem_cons_of_mem _ hy)
    have h1 := h x List.mem_cons_self
    rw [List.countP_cons, List.countP_cons]
    cases hp : p x <;> cases hq : q x <;> simp_all <;> omega
theorem countP_lt {α : Type} {p q : α → Bool} : ∀ {l : List α}, (∀ x ∈ l, p x = true → q x = true) → (∃ x ∈ l, p x = false ∧ q x = true) → l.countP p < l.countP q
  | [], _, h => by obtain ⟨x, hx, _⟩ := h; cases hx
  | x :: l, h, hx => by
    have h0 := fun y hy => h y (List.mem_cons_of_mem x hy)
    have h1 := h x List.mem_cons_self
    rw [List.countP_cons, List.countP_cons]
    obtain ⟨y, hy, hp, hq⟩ := hx
    rcases List.mem_cons.1 hy with rfl | hy
    · have := countP_le h0
      rw [hp, hq]; simp; omega
    · have := countP_lt h0 ⟨y, hy, hp, hq⟩
      cases hp' : p x <;> cases hq' : q x <;> simp_all <;> omega
theorem ltS_irr (a : ByteArray) : ltS a a = false := by
  cases h : ltS a a with
  | false => rfl
  | true => rw [ltS_iff] at h; exact absurd h (List.lt_irrefl _)
theorem ltS_trans {a b c : ByteArray} (h1 : ltS a b = true) (h2 : ltS b c = true) : ltS a c = true := by
  rw [ltS_iff] at *; exact List.lt_trans h1 h2
theorem ltS_tri {a b : ByteArray} (h1 : ltS a b = false) (h2 : ltS b a = false) : a = b := by
  refine data_inj (List.le_antisymm ?_ ?_)
  · refine List.not_lt.1 fun h => ?_
    rw [← ltS_iff, h2] at h; cases h
  · refine List.not_lt.1 fun h => ?_
    rw [← ltS_iff, h1] at h; cases h
/-- A reflexive and transitive relation below n. -/
structure Pre (n : Nat) (M : Nat → Nat → Bool) : Prop where
  refl : ∀ i, M i i = true
  trans : ∀ i j k, j < n → M i j = true → M j k = true → M i k = true
theorem pre_reach (cs : List Cau) (l : List ByteArray) : Pre l.length (reachF cs l) :=
  ⟨fun i => wsh_refl (baseF_refl cs l) _ i, fun i j k hj h1 h2 => wsh_trans (baseF_refl cs l) _ j hj i k h1 h2⟩
def measF (M : Nat → Nat → Bool) (l : List ByteArray) (i : Nat) : Nat := (List.range l.length).countP (fun j => M i j) * (l.length + 1) + (List.range l.length).countP (fun j => ltS (l.getD j default) (l.getD i default))
theorem meas_bad {M : Nat → Nat → Bool} {l : List ByteArray} (hM : Pre l.length M) {i j : Nat} (hi : i < l.length) (hj : j < l.length) (hb : badF M l i j = true) : measF M l j < measF M l i ∧ M i j = true := by
  unfold badF at hb
  simp only [Bool.and_eq_true, Bool.or_eq_true, Bool.not_eq_true'] at hb
  obtain ⟨h1, h2⟩ := hb
  refine ⟨?_, h1⟩
  have hsub : ∀ x ∈ List.range l.length, (fun k => M j k) x = true → (fun k => M i k) x = true := fun x _ h => hM.trans i j x hj h1 h
  have hr : ∀ m, (List.range l.length).countP (fun j => ltS (l.getD j default) (l.getD m default)) ≤ l.length := fun m => Nat.le_trans List.countP_le_length (by simp)
  unfold measF
  rcases h2 with h2 | h2
  · have h3 : (List.range l.length).countP (fun k => M j k) < (List.range l.length).countP (fun k => M i k) := countP_lt hsub ⟨i, List.mem_range.2 hi, h2, hM.refl i⟩
    have h4 := hr j
    have h5 := Nat.mul_le_mul_right (l.length + 1) (Nat.succ_le_of_lt h3)
    rw [Nat.succ_mul] at h5
    omega
  · have h3 := countP_le hsub
    have h4 : (List.range l.length).countP (fun k => ltS (l.getD k default) (l.getD j default)) < (List.range l.length).countP (fun k => ltS (l.getD k default) (l.getD i default)) :=
      countP_lt (fun x _ h => ltS_trans h h2) ⟨j, List.mem_range.2 hj, ltS_irr _, h2⟩
    have h5 := Nat.mul_le_mul_right (l.length + 1) h3
    omega
theorem has_first {M : Nat → Nat → Bool} {l : List ByteArray} (hM : Pre l.length M) : ∀ (m i : Nat), measF M l i ≤ m → i < l.length → ∃ k, k < l.length ∧ M i k = true ∧ firstF M l k = true := by
  intro m
  induction m with
  | zero =>
    intro i hm hi
    refine ⟨i, hi, hM.refl i, List.all_eq_true.2 fun j hj => ?_⟩
    cases hb : badF M l i j with
    | false => rfl
    | true => have := (meas_bad hM hi (List.mem_range.1 hj) hb).1; omega
  | succ m ih =>
    intro i hm hi
    by_cases hf : firstF M l i = true
    · exact ⟨i, hi, hM.refl i, hf⟩
    · obtain ⟨j, hj, hb⟩ : ∃ j, j < l.length ∧ badF M l i j = true := by
        unfold firstF at hf
        rw [List.all_eq_true] at hf
        simp only [Classical.not_forall] at hf
        obtain ⟨j, hj, hb⟩ := hf
        exact ⟨j, List.mem_range.1 hj, by simpa using hb⟩
      obtain ⟨h1, h2⟩ := meas_bad hM hi hj hb
      obtain ⟨k, h3, h4, h5⟩ := ih j (by omega) hj
      exact ⟨k, h3, hM.trans i j k hj h2 h4, h5⟩
theorem actGo_uniq : ∀ {l pre : List ByteArray}, actGo pre l = 0 → (∀ x ∈ l, ∀ t ∈ pre, seq x t = false) ∧ l.Pairwise fun a b => seq b a = false
  | [], _, _ => ⟨(fun s hs => by cases hs), List.Pairwise.nil⟩
  | x :: l, pre, h => by
    unfold actGo at h
    split at h
    · rename_i h1; exact absurd h h1
    rename_i h1
    have h2 : actE pre x = 0 := by simpa using h1
    unfold actE at h2
    split at h2
    · cases h2
    split at h2
    · cases h2
    rename_i h3 h4
    have h5 : ∀ t ∈ pre, seq x t = false := fun t ht => by
      cases hq : seq x t with
      | false => rfl
      | true => exact absurd (List.any_eq_true.2 ⟨t, ht, hq⟩) h4
    obtain ⟨g1, g2⟩ := actGo_uniq h
    refine ⟨fun s hs t ht => ?_, List.pairwise_cons.2 ⟨fun t ht => g1 t ht x (List.mem_append_right _ List.mem_cons_self), g2⟩⟩
    rcases List.mem_cons.1 hs with rfl | hs
    · exact h5 t ht
    · exact g1 s hs t (List.mem_append_left _ ht)
theorem seq_eq {a b : ByteArray} : seq a b = true ↔ a = b := by
  unfold seq
  rw [beq_iff_eq, Lib.toList_data, Lib.toList_data]
  exact ⟨data_inj, fun h => by rw [h]⟩
theorem actF_nodup {l : List ByteArray} (h : actF l = 0) : l.Nodup := by
  unfold actF at h
  split at h
  · cases h
  exact (actGo_uniq h).2.imp fun {a b} hab e => by
    rw [e, seq_eq.2 rfl] at hab; cases hab
theorem sIndex_get {l : List ByteArray} (hn : l.Nodup) {k : Nat} (hk : k < l.length) : sIndex (l.getD k default) 0 l = k := by
  have hm : l.getD k default ∈ l := by rw [List.getD_eq_getElem?_getD, List.getElem?_eq_getElem hk]; exact List.getElem_mem hk
  obtain ⟨i, h1, h2, h3⟩ := sIndex_mem' hm
  rw [h2]
  congr 1
  rw [List.getD_eq_getElem?_getD, List.getD_eq_getElem?_getD, List.getElem?_eq_getElem h1, List.getElem?_eq_getElem hk] at h3
  exact (List.getElem_inj hn).1 h3
theorem firstsF_nodup {M : Nat → Nat → Bool} {l : List ByteArray} (hn : l.Nodup) : (firstsF M l l.length).Nodup := by
  unfold firstsF
  rw [List.Nodup, List.pairwise_map]
  refine (List.Pairwise.filter _ (List.nodup_range (n := l.length))).imp_of_mem fun {a b} ha hb hab e => hab ?_
  have h1 := List.mem_range.1 (List.mem_filter.1 ha).1
  have h2 := List.mem_range.1 (List.mem_filter.1 hb).1
  have := sIndex_get hn h1
  rw [e, sIndex_get hn h2] at this
  omega
/-- What the causes are. -/
theorem causesE_zero {cs : List Cau} {l : List ByteArray} : causesE cs l = 0 ↔ causesF cs = 0 ∧ actF l = 0 := by
  unfold causesE
  constructor
  · intro h
    split at h
    · rename_i h1; exact absurd h h1
    · rename_i h1; exact ⟨by simpa using h1, h⟩
  · rintro ⟨h1, h2⟩
    rw [if_neg (by simp [h1])]; exact h2
theorem causes_iff {cs : List Cau} {l : List ByteArray} (h : causesE cs l = 0) {x : ByteArray} : x ∈ causesL cs l ↔ ∃ k, k < l.length ∧ firstF (reachF cs l) l k = true ∧ l.getD k default = x := by
  unfold causesL
  rw [if_pos h, sortS_mem, firstsF_mem (Nat.le_refl _)]
theorem causes_nodup {cs : List Cau} {l : List ByteArray} (h : causesE cs l = 0) : (causesL cs l).Nodup := by
  unfold causesL
  rw [if_pos h]
  exact (sortS_perm _).nodup_iff.2 (firstsF_nodup (actF_nodup (causesE_zero.1 h).2))
theorem causes_sorted (cs : List Cau) (l : List ByteArray) : (causesL cs l).Pairwise fun a b => ltS b a = false := by
  unfold causesL
  split
  · exact sortS_sorted _
  · exact List.Pairwise.nil
theorem explainE_zero {cs : List Cau} {l : List ByteArray} {n : ByteArray} : explainE cs l n = 0 ↔ causesE cs l = 0 ∧ 0 ≤ sIndex n 0 l := by
  unfold explainE
  constructor
  · intro h
    split at h
    · rename_i h1; exact absurd h h1
    rename_i h1
    split at h
    · cases h
    · exact ⟨by simpa using h1, by omega⟩
  · rintro ⟨h1, h2⟩
    rw [if_neg (by simp [h1]), if_neg (by omega)]
theorem explain_iff {cs : List Cau} {l : List ByteArray} {n x : ByteArray} (h : explainE cs l n = 0) : x ∈ explainL cs l n ↔ ∃ k, k < l.length ∧ firstF (reachF cs l) l k = true ∧ l.getD k default = x ∧ reachF cs l (sIndex n 0 l).toNat k = true := by
  obtain ⟨h1, h2⟩ := explainE_zero.1 h
  have hn := actF_nodup (causesE_zero.1 h1).2
  unfold explainL
  rw [if_pos h, List.mem_filter, causes_iff h1]
  unfold keepF
  constructor
  · rintro ⟨⟨k, h3, h4, rfl⟩, h5⟩
    rw [sIndex_get hn h3] at h5
    exact ⟨k, h3, h4, rfl, h5⟩
  · rintro ⟨k, h3, h4, rfl, h5⟩
    refine ⟨⟨k, h3, h4, rfl⟩, ?_⟩
    rw [sIndex_get hn h3]
    exact h5
theorem explain_ne {cs : List Cau} {l : List ByteArray} {n : ByteArray} (h : explainE cs l n = 0) : explainL cs l n ≠ [] := by
  obtain ⟨h1, h2⟩ := explainE_zero.1 h
  have hr := sIndex_range n l 0
  obtain ⟨k, h3, h4, h5⟩ := has_first (pre_reach cs l) _ (sIndex n 0 l).toNat (Nat.le_refl _) (by omega)
  intro e
  have := (explain_iff (x := l.getD k default) h).2 ⟨k, h3, h5, rfl, h4⟩
  rw [e] at this; cases this
theorem explain_sub {cs : List Cau} {l : List ByteArray} {n x : ByteArray} (h : x ∈ explainL cs l n) : x ∈ causesL cs l := by
  unfold explainL at h
  split at h
  · exact (List.mem_filter.1 h).1
  · cases h
theorem explain_sorted (cs : List Cau) (l : List ByteArray) (n : ByteArray) : (explainL cs l n).Pairwise fun a b => ltS b a = false := by
  unfold explainL
  split
  · exact (causes_sorted cs l).filter _
  · exact List.Pairwise.nil
theorem nodup_one {l : List ByteArray} {x : ByteArray} (hn : l.Nodup) (hx : x ∈ l) (h : ∀ y ∈ l, y = x) : l = [x] := by
  cases l with
  | nil => cases hx
  | cons a l =>
    have ha := h a List.mem_cons_self
    subst ha
    cases l with
    | nil => rfl
    | cons b l =>
      have hb := h b (List.mem_cons_of_mem _ List.mem_cons_self)
      subst hb
      exact absurd List.mem_cons_self (List.nodup_cons.1 hn).1
/-- A cause is explained by itself alone. -/
theorem explain_self {cs : List Cau} {l : List ByteArray} {n : ByteArray} (h : explainE cs l n = 0) (hm : n ∈ causesL cs l) : explainL cs l n = [n] := by
  obtain ⟨h1, h2⟩ := explainE_zero.1 h
  have hnd := actF_nodup (causesE_zero.1 h1).2
  obtain ⟨k, h3, h4, rfl⟩ := (causes_iff h1).1 hm
  have hk := sIndex_get hnd h3
  have hM := pre_reach cs l
  refine nodup_one ?_ ?_ ?_
  · unfold explainL
    rw [if_pos h]
    exact (causes_nodup h1).filter _
  · rw [explain_iff h]
    exact ⟨k, h3, h4, rfl, by rw [hk]; exact hM.refl _⟩
  · intro y hy
    obtain ⟨q, h5, h6, rfl, h7⟩ := (explain_iff h).1 hy
    rw [hk, Int.toNat_natCast] at h7
    have g1 := List.all_eq_true.1 h4 q (List.mem_range.2 h5)
    have g2 := List.all_eq_true.1 h6 k (List.mem_range.2 h3)
    unfold badF at g1 g2
    rw [h7] at g1
    simp only [Bool.true_and, Bool.not_or, Bool.not_not, Bool.and_eq_true, Bool.not_eq_true'] at g1
    rw [g1.1, h7] at g2
    simp only [Bool.true_and, Bool.not_true, Bool.false_or, Bool.not_eq_true'] at g2
    exact ltS_tri g1.2 g2
/-- What explains an alarm directly has its causes among those of the alarm. -/
theorem explain_direct {cs : List Cau} {l : List ByteArray} {c : Cau} (hc : c ∈ cs) (h1 : explainE cs l c.of = 0) (h2 : explainE cs l c.by' = 0) {x : ByteArray} (hx : x ∈ explainL cs l c.by') : x ∈ explainL cs l c.of := by
  rw [explain_iff h2] at hx
  rw [explain_iff h1]
  obtain ⟨k, h3, h4, h5, h6⟩ := hx
  have ha := (explainE_zero.1 h1).2
  have hb := (explainE_zero.1 h2).2
  have rb := sIndex_range c.by' l 0
  have hM := pre_reach cs l
  refine ⟨k, h3, h4, h5, hM.trans _ (sIndex c.by' 0 l).toNat _ (by omega) ?_ h6⟩
  have hbase : baseF cs l (sIndex c.of 0 l).toNat (sIndex c.by' 0 l).toNat = true := by
    unfold baseF
    rw [Bool.or_eq_true]
    right
    refine List.any_eq_true.2 ⟨c, hc, ?_⟩
    rw [Bool.and_eq_true, beq_iff_eq, beq_iff_eq]
    omega
  have hup : ∀ m i j, baseF cs l i j = true → wsh (baseF cs l) m i j = true := by
    intro m
    induction m with
    | zero => intro i j h; exact h
    | succ m ih => intro i j h; unfold wsh; rw [ih i j h]; rfl
  exact hup _ _ _ hbase
end Go.Proofs.Ytoickofcmngdjaa
