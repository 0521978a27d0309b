/- Archives: the events before a time and those from it on (plain). -/
import Derived.Test.YtemgclhenkbikaaDoorAwZl
import Derived.Test.YtemgclhenkbikaaDoorArG
set_option linter.unusedVariables false
set_option linter.unusedSimpArgs false
namespace Go.Proofs.YtemgclhenkbikaaDoor
open Go.Proofs.YtemgclhenkbikaaDoor.Aw
attribute [local go_sem] Int.natCast_zero Int.natCast_one bne_self_eq_false beq_self_eq_true Bool.not_true Bool.not_false Option.isSome_none Option.isSome_some Aw.bkM_nil Option.getD_some Option.getD_none Nat.sub_zero Int.toNat_zero Aw.frzS Aw.frzT Aw.frzA Aw.frzL Aw.frzR Aw.frzO Aw.frzOL Aw.frzOT Aw.frzOR Aw.killS Aw.mapT Aw.mapR Aw.killM Aw.resAVs Aw.resAV Aw.quietOps Aw.wpP Aw.wpT Aw.wpS Aw.AOp.mild List.getElem?_cons_zero List.getElem?_cons_succ Bool.and_false Bool.and_self Bool.false_and Aw.opOb Aw.gdB Aw.Rnd Aw.subTm List.length_map Int.toNat_natCast and_self Aw.SeqC Aw.stops Aw.Ends Aw.looks Aw.renA Aw.renL Aw.renT Aw.renS Aw.wpO Aw.aop Aw.putTm Aw.St.ev Aw.St.put Aw.St.putO Aw.binAV Aw.intBin Aw.strBin Aw.pickAV Aw.optInt Aw.AV.strip Aw.AV.guard Aw.AV.cells Aw.gdOb Aw.AOp.opds Aw.AOp.still Aw.ptrCells Aw.St.reg Aw.fillAV Aw.fillOb Aw.elsOb Aw.splice Aw.firm Aw.cellish Aw.AV.shut Aw.shutAll Aw.Seq Aw.Blk Aw.retS_nil Aw.mapA Aw.mapL Aw.borA Aw.borOb Aw.allOb Aw.tupOf Aw.params Aw.Opd.of Array.toList Value.cells List.map_cons List.map_nil List.getD_cons_zero List.getD_cons_succ List.getD_nil List.length_cons List.length_nil List.take_succ_cons List.take_zero List.take_nil List.drop_zero List.drop_succ_cons List.drop_nil List.set_cons_zero List.set_cons_succ List.append_nil List.nil_append List.cons_append List.all_cons List.all_nil cond_false cond_true if_true if_false true_and and_true Bool.and_true Bool.true_and Option.map_some Option.map_none false_implies forall_const implies_true forall_eq imp_self Bool.cond_false_right Bool.cond_true_left beq_true beq_false Bool.not_eq_true' Bool.false_eq_true Nat.zero_add Nat.add_zero Aw.eqCells Aw.stopDraw Aw.skipS Aw.exactCap Aw.revealS Aw.srcEls Aw.srcSz
attribute [local go_sem ↓] Aw.look_nil Aw.look_ite Aw.wpL_nil Aw.wpL_op Aw.wpL_gd Aw.wpQ_nil Aw.wpQ_op Aw.wpQ_gd Aw.wpC_draw Aw.wpC_reg Aw.wpC_skip Aw.wpC_ret Aw.wpC_exit Aw.wpC_seq Aw.wpC_block Aw.wpC_loop Aw.wpC_cond Aw.stopAt_nil Aw.stopAt_cons Aw.wpD_skip Aw.wpD_ret Aw.wpD_exit Aw.wpD_region Aw.wpD_draw Aw.wpM_nil Aw.wpM_op Aw.wpM_gd Aw.wpD_seq Aw.wpD_block Aw.wpD_loop Aw.wpD_cond
/-- In order, and in the range of times. -/
structure SortA (l : List Ev) : Prop where
  le : l.Pairwise fun x y => x.time ≤ y.time
  rg : ∀ e ∈ l, 0 ≤ e.time ∧ e.time ≤ 200000
theorem parts {l : List Ev} (h : SortA l) (t : Int) : l.filter (betP 0 t) ++ l.filter (betP t 200001) = l := by
  obtain ⟨h1, h2⟩ := h
  induction l with
  | nil => rfl
  | cons e l ih =>
    obtain ⟨h3, h4⟩ := List.pairwise_cons.1 h1
    have hr := h2 e List.mem_cons_self
    have ih' := ih h4 fun x hx => h2 x (List.mem_cons_of_mem _ hx)
    rcases Int.lt_or_le e.time t with ht | ht
    · have b1 : betP 0 t e = true := by unfold betP; simp; omega
      have b2 : betP t 200001 e = false := by unfold betP; simp; omega
      rw [List.filter_cons_of_pos b1, List.filter_cons_of_neg (by simp [b2]), List.cons_append, ih']
    · have b1 : ∀ x ∈ e :: l, betP 0 t x = false := fun x hx => by
        have : t ≤ x.time := by
          rcases List.mem_cons.1 hx with rfl | hx
          · exact ht
          · exact Int.le_trans ht (h3 x hx)
        unfold betP; simp; omega
      have b2 : ∀ x ∈ e :: l, betP t 200001 x = true := fun x hx => by
        have h5 := h2 x hx
        have : t ≤ x.time := by
          rcases List.mem_cons.1 hx with rfl | hx
          · exact ht
          · exact Int.le_trans ht (h3 x hx)
        unfold betP; simp; omega
      rw [List.filter_eq_nil_iff.2 fun x hx => by simp [b1 x hx], List.nil_append, List.filter_eq_self.2 b2]
theorem appD_sort {a : Ar} {e : Ev} (h : SortA a.list) : SortA (appD a e).list := by
  unfold appD
  split
  · rename_i h0
    have hev := evE_ok (appE_ev h0)
    have he : early a e = false := by
      cases hq : early a e with
      | false => rfl
      | true =>
        unfold appE at h0
        rw [if_neg (by simp [appE_ev (show appE a e = 0 by unfold appE; exact h0)]), if_pos hq] at h0
        cases h0
    have hle : ∀ x ∈ a.list, x.time ≤ e.time := fun x hx => by
      obtain ⟨j, hj, rfl⟩ := List.getElem_of_mem hx
      have hlt : a.list.length - 1 < a.list.length := by omega
      unfold early at he
      rw [decide_eq_true (show 0 < a.list.length by omega), List.getD_eq_getElem?_getD, List.getElem?_eq_getElem hlt] at he
      have h5 : ¬ e.time < a.list[a.list.length - 1].time := by simpa using he
      rcases Nat.lt_or_ge j (a.list.length - 1) with h6 | h6
      · have := List.pairwise_iff_getElem.1 h.le j (a.list.length - 1) hj hlt h6
        omega
      · have : j = a.list.length - 1 := by omega
        subst this; omega
    refine ⟨List.pairwise_append.2 ⟨h.le, List.pairwise_singleton _ _, fun x hx y hy => ?_⟩, fun x hx => ?_⟩
    · rw [List.mem_singleton.1 hy]; exact hle x hx
    · rcases List.mem_append.1 hx with hx | hx
      · exact h.rg x hx
      · rw [List.mem_singleton.1 hx]; omega
  · exact h
theorem ofN_sort (l : List Ev) : ∀ i, i ≤ l.length → SortA (ofN l i).1.list
  | 0, _ => ⟨List.Pairwise.nil, fun e he => by cases he⟩
  | i + 1, h => by
    rw [ofN_succ (by omega)]
    exact appD_sort (ofN_sort l i (by omega))
end Go.Proofs.YtemgclhenkbikaaDoor
