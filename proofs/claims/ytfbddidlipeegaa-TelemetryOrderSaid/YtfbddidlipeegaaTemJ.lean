/- Telemetry: what the messages of a list leave. -/
import Derived.Test.YtfbddidlipeegaaAwZg
import Derived.Test.YtfbddidlipeegaaTemI
set_option linter.unusedVariables false
set_option linter.unusedSimpArgs false
namespace Go.Proofs.Ytfbddidlipeegaa
open Go.Proofs.Ytfbddidlipeegaa.Aw
attribute [local go_sem] Int.natCast_zero Int.natCast_one bne_self_eq_false beq_self_eq_true Bool.not_true Bool.not_false Option.isSome_none Option.isSome_some Aw.bkM_nil Option.getD_some Option.getD_none Nat.sub_zero Int.toNat_zero Aw.frzS Aw.frzT Aw.frzA Aw.frzL Aw.frzR Aw.frzO Aw.frzOL Aw.frzOT Aw.frzOR Aw.killS Aw.mapT Aw.mapR Aw.killM Aw.resAVs Aw.resAV Aw.quietOps Aw.wpP Aw.wpT Aw.wpS Aw.AOp.mild List.getElem?_cons_zero List.getElem?_cons_succ Bool.and_false Bool.and_self Bool.false_and Aw.opOb Aw.gdB Aw.Rnd Aw.subTm List.length_map Int.toNat_natCast and_self Aw.SeqC Aw.stops Aw.Ends Aw.looks Aw.renA Aw.renL Aw.renT Aw.renS Aw.wpO Aw.aop Aw.putTm Aw.St.ev Aw.St.put Aw.St.putO Aw.binAV Aw.intBin Aw.strBin Aw.pickAV Aw.optInt Aw.AV.strip Aw.AV.guard Aw.AV.cells Aw.gdOb Aw.AOp.opds Aw.AOp.still Aw.ptrCells Aw.St.reg Aw.fillAV Aw.fillOb Aw.elsOb Aw.splice Aw.firm Aw.cellish Aw.AV.shut Aw.shutAll Aw.Seq Aw.Blk Aw.retS_nil Aw.mapA Aw.mapL Aw.borA Aw.borOb Aw.allOb Aw.tupOf Aw.params Aw.Opd.of Array.toList Value.cells List.map_cons List.map_nil List.getD_cons_zero List.getD_cons_succ List.getD_nil List.length_cons List.length_nil List.take_succ_cons List.take_zero List.take_nil List.drop_zero List.drop_succ_cons List.drop_nil List.set_cons_zero List.set_cons_succ List.append_nil List.nil_append List.cons_append List.all_cons List.all_nil cond_false cond_true if_true if_false true_and and_true Bool.and_true Bool.true_and Option.map_some Option.map_none false_implies forall_const implies_true forall_eq imp_self Bool.cond_false_right Bool.cond_true_left beq_true beq_false Bool.not_eq_true' Bool.false_eq_true Nat.zero_add Nat.add_zero Aw.eqCells Aw.exactCap Aw.revealS Aw.srcEls Aw.srcSz
attribute [local go_sem ↓] Aw.look_nil Aw.look_ite Aw.wpL_nil Aw.wpL_op Aw.wpL_gd Aw.wpQ_nil Aw.wpQ_op Aw.wpQ_gd Aw.wpC_draw Aw.wpC_reg Aw.wpC_skip Aw.wpC_ret Aw.wpC_exit Aw.wpC_seq Aw.wpC_block Aw.wpC_loop Aw.wpC_cond Aw.stopAt_nil Aw.stopAt_cons Aw.wpD_skip Aw.wpD_ret Aw.wpD_exit Aw.wpD_region Aw.wpD_draw Aw.wpM_nil Aw.wpM_op Aw.wpM_gd Aw.wpD_seq Aw.wpD_block Aw.wpD_loop Aw.wpD_cond
theorem cmpS_self (a : ByteArray) : cmpS a a = 0 := cmpS_zero.2 rfl
theorem lbS_lt (l : List Msg) (x : ByteArray) : ∀ i, i < lbS l x → cmpS (l.getD i default).pt x < 0 := by
  unfold lbS
  induction l with
  | nil => intro i hi; simp at hi
  | cons m l ih =>
    intro i hi
    by_cases h : cmpS m.pt x < 0
    · rw [List.takeWhile_cons_of_pos (by simpa using h)] at hi
      cases i with
      | zero => simpa using h
      | succ i => simpa using ih i (by simpa using hi)
    · rw [List.takeWhile_cons_of_neg (by simpa using h)] at hi
      simp at hi
theorem lbS_ge (l : List Msg) (x : ByteArray) (h : lbS l x < l.length) : ¬ cmpS (l.getD (lbS l x) default).pt x < 0 := by
  unfold lbS at *
  induction l with
  | nil => simp at h
  | cons m l ih =>
    by_cases h2 : cmpS m.pt x < 0
    · rw [List.takeWhile_cons_of_pos (by simpa using h2)] at h ⊢
      simpa using ih (by simpa using h)
    · rw [List.takeWhile_cons_of_neg (by simpa using h2)]
      simpa using h2
theorem getD_elem {l : List Msg} {i : Nat} (h : i < l.length) : l.getD i default = l[i] := by
  rw [List.getD_eq_getElem?_getD, List.getElem?_eq_getElem h]; rfl
theorem Sorted.lt {l : List Msg} (h : Sorted l) {i j : Nat} (hij : i < j) (hj : j < l.length) : cmpS (l.getD i default).pt (l.getD j default).pt < 0 := by
  rw [getD_elem hj, getD_elem (by omega)]
  exact List.pairwise_iff_getElem.1 h i j (by omega) hj hij
/-- A point that is known is found. -/
theorem find_at {l : List Msg} (h : Sorted l) {i : Nat} (hi : i < l.length) : lbS l (l.getD i default).pt = i ∧ fdS l (l.getD i default).pt = true := by
  have h1 : lbS l (l.getD i default).pt = i := by
    refine lb_eq _ l i (by omega) (fun n hn => h.lt hn hi) fun n hn hn2 => ?_
    rcases Nat.eq_or_lt_of_le hn with rfl | hlt
    · rw [cmpS_self]; decide
    · have := h.lt hlt hn2
      rw [cmpS_neg] at this; omega
  refine ⟨h1, ?_⟩
  unfold fdS
  rw [h1, cmpS_self]
  simp [hi]
theorem find_mem {l : List Msg} (h : Sorted l) {m : Msg} (hm : m ∈ l) : fdS l m.pt = true ∧ l.getD (lbS l m.pt) default = m := by
  obtain ⟨i, hi, rfl⟩ := List.mem_iff_getElem.1 hm
  have := find_at h hi
  rw [← getD_elem hi]
  exact ⟨this.2, by rw [this.1]⟩
theorem fdS_pt {l : List Msg} {x : ByteArray} (h : fdS l x = true) : lbS l x < l.length ∧ (l.getD (lbS l x) default).pt = x := by
  unfold fdS at h
  simp only [Bool.and_eq_true, decide_eq_true_eq, beq_iff_eq] at h
  exact ⟨h.1, cmpS_zero.1 h.2⟩
theorem fdS_none {l : List Msg} (h : Sorted l) {x : ByteArray} (hf : fdS l x = false) : ∀ m ∈ l, m.pt ≠ x := fun m hm he => by
  have := (find_mem h hm).1
  rw [he, hf] at this; cases this
theorem sorted_insL {l : List Msg} (h : Sorted l) {m : Msg} (hf : fdS l m.pt = false) : Sorted (insL l (lbS l m.pt) m) := by
  have hle := lbS_le l m.pt
  unfold insL Sorted
  refine List.pairwise_append.2 ⟨h.sublist (List.take_sublist _ _), ?_, fun p hp q hq => ?_⟩
  · refine List.pairwise_cons.2 ⟨fun q hq => ?_, h.sublist (List.drop_sublist _ _)⟩
    obtain ⟨j, hj, rfl⟩ := List.mem_iff_getElem.1 hq
    rw [List.length_drop] at hj
    rw [List.getElem_drop]
    have h1 := lbS_ge l m.pt (by omega)
    have h2 : cmpS (l.getD (lbS l m.pt) default).pt m.pt ≠ 0 := fun h0 => by
      have : fdS l m.pt = true := by unfold fdS; rw [h0]; simp; omega
      rw [hf] at this; cases this
    have h3 : cmpS m.pt (l.getD (lbS l m.pt) default).pt < 0 := by rw [cmpS_neg]; omega
    rcases Nat.eq_zero_or_pos j with rfl | hj0
    · rw [getD_elem (by omega)] at h3; exact h3
    · have h4 := h.lt (i := lbS l m.pt) (j := lbS l m.pt + j) (by omega) (by omega)
      rw [getD_elem (i := lbS l m.pt + j) (by omega)] at h4
      exact cmpS_trans h3 h4
  · obtain ⟨i, hi, rfl⟩ := List.mem_iff_getElem.1 hp
    rw [List.length_take] at hi
    rw [List.getElem_take]
    have h1 := lbS_lt l m.pt i (by omega)
    rw [getD_elem (by omega)] at h1
    rcases List.mem_cons.1 hq with rfl | hq
    · exact h1
    · obtain ⟨j, hj, rfl⟩ := List.mem_iff_getElem.1 hq
      rw [List.length_drop] at hj
      rw [List.getElem_drop]
      exact List.pairwise_iff_getElem.1 h _ _ _ _ (by omega)
theorem sorted_set {l : List Msg} (h : Sorted l) {m : Msg} {k : Nat} (hk : k < l.length) (hp : (l.getD k default).pt = m.pt) : Sorted (l.set k m) := by
  refine List.pairwise_iff_getElem.2 fun i j hi hj hij => ?_
  rw [List.length_set] at hi hj
  have h1 := List.pairwise_iff_getElem.1 h i j hi hj hij
  rw [getD_elem hk] at hp
  rw [List.getElem_set, List.getElem_set]
  by_cases e1 : k = i
  · subst e1
    rw [if_pos rfl, if_neg (by omega), ← hp]; exact h1
  · rw [if_neg e1]
    by_cases e2 : k = j
    · subst e2
      rw [if_pos rfl, ← hp]; exact h1
    · rw [if_neg e2]; exact h1
theorem mem_insL {α : Type} {l : List α} {i : Nat} {x y : α} : y ∈ insL l i x ↔ y = x ∨ y ∈ l := by
  unfold insL
  rw [List.mem_append, List.mem_cons]
  constructor
  · rintro (h | h | h)
    · exact .inr (List.mem_of_mem_take h)
    · exact .inl h
    · exact .inr (List.mem_of_mem_drop h)
  · rintro (h | h)
    · exact .inr (.inl h)
    · rw [← List.take_append_drop i l] at h
      rcases List.mem_append.1 h with h | h
      · exact .inl h
      · exact .inr (.inr h)
theorem TkOk.take {d : Tk} (h : TkOk d) (m : Msg) : TkOk (takD d m) := by
  have h1 := h.few
  have h2 := h.par
  have hle := lbS_le d.ps m.pt
  unfold takD
  split
  · exact h
  split
  · rename_i hf
    split
    · exact h
    · exact ⟨by dsimp only; rw [insL_len hle]; omega, sorted_insL h.sor hf, by dsimp only; rw [insL_len hle, insL_len (by omega)]; omega⟩
  · rename_i hf
    split
    · exact h
    split
    · exact h
    · obtain ⟨h3, h4⟩ := fdS_pt (l := d.ps) (x := m.pt) (by simpa using hf)
      exact ⟨by dsimp only; rw [List.length_set]; exact h1, sorted_set h.sor h3 h4, by dsimp only; rw [List.length_set, List.length_set]; exact h2⟩
/-- Every message of the points was accepted. -/
theorem takD_mem {d : Tk} {m q : Msg} (h : q ∈ (takD d m).ps) : q ∈ d.ps ∨ (q = m ∧ telChk m = 0) := by
  unfold takD at h
  split at h
  · exact .inl h
  rename_i hc
  split at h
  · split at h
    · exact .inl h
    · rcases mem_insL.1 h with h | h
      · exact .inr ⟨h, by omega⟩
      · exact .inl h
  · split at h
    · exact .inl h
    split at h
    · exact .inl h
    · rcases List.mem_or_eq_of_mem_set h with h | h
      · exact .inl h
      · exact .inr ⟨h, by omega⟩
end Go.Proofs.Ytfbddidlipeegaa
