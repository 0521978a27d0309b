/- Archives: torn and spoilt texts, plain. -/
import Derived.Test.YtemgclhenkbikaaDoorAwZl
import Derived.Test.YtemgclhenkbikaaDoorArQ
import Derived.Lib.LastIndexByte
set_option linter.unusedVariables false
set_option linter.unusedSimpArgs false
namespace Go.Proofs.YtemgclhenkbikaaDoor
open Go.Proofs.YtemgclhenkbikaaDoor.Aw
attribute [local go_sem] Int.natCast_zero Int.natCast_one bne_self_eq_false beq_self_eq_true Bool.not_true Bool.not_false Option.isSome_none Option.isSome_some Aw.bkM_nil Option.getD_some Option.getD_none Nat.sub_zero Int.toNat_zero Aw.frzS Aw.frzT Aw.frzA Aw.frzL Aw.frzR Aw.frzO Aw.frzOL Aw.frzOT Aw.frzOR Aw.killS Aw.mapT Aw.mapR Aw.killM Aw.resAVs Aw.resAV Aw.quietOps Aw.wpP Aw.wpT Aw.wpS Aw.AOp.mild List.getElem?_cons_zero List.getElem?_cons_succ Bool.and_false Bool.and_self Bool.false_and Aw.opOb Aw.gdB Aw.Rnd Aw.subTm List.length_map Int.toNat_natCast and_self Aw.SeqC Aw.stops Aw.Ends Aw.looks Aw.renA Aw.renL Aw.renT Aw.renS Aw.wpO Aw.aop Aw.putTm Aw.St.ev Aw.St.put Aw.St.putO Aw.binAV Aw.intBin Aw.strBin Aw.pickAV Aw.optInt Aw.AV.strip Aw.AV.guard Aw.AV.cells Aw.gdOb Aw.AOp.opds Aw.AOp.still Aw.ptrCells Aw.St.reg Aw.fillAV Aw.fillOb Aw.elsOb Aw.splice Aw.firm Aw.cellish Aw.AV.shut Aw.shutAll Aw.Seq Aw.Blk Aw.retS_nil Aw.mapA Aw.mapL Aw.borA Aw.borOb Aw.allOb Aw.tupOf Aw.params Aw.Opd.of Array.toList Value.cells List.map_cons List.map_nil List.getD_cons_zero List.getD_cons_succ List.getD_nil List.length_cons List.length_nil List.take_succ_cons List.take_zero List.take_nil List.drop_zero List.drop_succ_cons List.drop_nil List.set_cons_zero List.set_cons_succ List.append_nil List.nil_append List.cons_append List.all_cons List.all_nil cond_false cond_true if_true if_false true_and and_true Bool.and_true Bool.true_and Option.map_some Option.map_none false_implies forall_const implies_true forall_eq imp_self Bool.cond_false_right Bool.cond_true_left beq_true beq_false Bool.not_eq_true' Bool.false_eq_true Nat.zero_add Nat.add_zero Aw.eqCells Aw.stopDraw Aw.skipS Aw.exactCap Aw.revealS Aw.srcEls Aw.srcSz
attribute [local go_sem ↓] Aw.look_nil Aw.look_ite Aw.wpL_nil Aw.wpL_op Aw.wpL_gd Aw.wpQ_nil Aw.wpQ_op Aw.wpQ_gd Aw.wpC_draw Aw.wpC_reg Aw.wpC_skip Aw.wpC_ret Aw.wpC_exit Aw.wpC_seq Aw.wpC_block Aw.wpC_loop Aw.wpC_cond Aw.stopAt_nil Aw.stopAt_cons Aw.wpD_skip Aw.wpD_ret Aw.wpD_exit Aw.wpD_region Aw.wpD_draw Aw.wpM_nil Aw.wpM_op Aw.wpM_gd Aw.wpD_seq Aw.wpD_block Aw.wpD_loop Aw.wpD_cond
theorem no_count {b : UInt8} {l : List UInt8} (h : b ∉ l) : l.count b = 0 := List.count_eq_zero.2 h
theorem ent_count {a : Ar} {e : Ev} (h : appE a e = 0) : (lst (ent a e)).count 10 = 1 := by
  unfold ent
  rw [lst_app, lst_one, List.count_append, no_count (line_no10 (appE_ev h) (hexB_no nl_sep _))]
  rfl
theorem good_count {b : Ar} (h : Good b) : (lst b.text).count 10 = b.list.length := by
  induction h with
  | zero => rfl
  | @step a e ha he ih =>
    rw [appD_of he]
    show (lst (a.text ++ ent a e)).count 10 = (a.list ++ [e]).length
    rw [lst_app, List.count_append, ih, ent_count he, List.length_append, List.length_singleton]
theorem good_end {b : Ar} (h : Good b) : b.text = ⟨#[]⟩ ∨ ∃ p, b.text = p ++ ⟨#[10]⟩ := by
  cases h with
  | zero => exact .inl rfl
  | @step a e ha he =>
    rw [appD_of he]
    refine .inr ⟨a.text ++ (lineB e ++ ⟨#[32]⟩ ++ hexB (digN a e)), ?_⟩
    show a.text ++ ent a e = _
    unfold ent
    exact ByteArray.append_assoc.symm
theorem good_list {a : Ar} (h : Good a) : a = a.list.foldl appD Ar0 := by
  induction h with
  | zero => rfl
  | @step a e ha he ih =>
    have h1 : (appD a e).list = a.list ++ [e] := by rw [appD_of he]
    rw [h1, List.foldl_append, ← ih]
    rfl
theorem good_eq {a b : Ar} (ha : Good a) (hb : Good b) (h : a.list = b.list) : a = b := by rw [good_list ha, good_list hb, h]
theorem at_lst (s : ByteArray) (j : Nat) : s.data[j]! = (lst s)[j]! := by simp [lst, Array.getElem!_eq_getD, Array.getD_eq_getD_getElem?]
theorem last_at {t rest : ByteArray} (ht : t = ⟨#[]⟩ ∨ ∃ p, t = p ++ ⟨#[10]⟩) (hr : (10 : UInt8) ∉ lst rest) : Lib.lastIndexByte (t ++ rest) 10 + 1 = (t.size : Int) := by
  have hz : (t ++ rest).size = t.size + rest.size := ByteArray.size_append
  have hback : ∀ i, t.size ≤ i → i < (t ++ rest).size → (((t ++ rest).data[i]!).toNat : Int) ≠ 10 := fun i h1 h2 he => by
    rw [at_lst, lst_app] at he
    have h3 : i - t.size < (lst rest).length := by rw [lst_len]; omega
    rw [List.getElem!_eq_getElem?_getD, List.getElem?_append_right (by rw [lst_len]; exact h1), lst_len, List.getElem?_eq_getElem h3] at he
    have h4 : (lst rest)[i - t.size] = 10 := by
      have h5 : (((lst rest)[i - t.size]).toNat : Int) = 10 := he
      have : ((lst rest)[i - t.size]).toNat = 10 := by omega
      exact UInt8.toNat_inj.1 this
    exact hr (h4 ▸ List.getElem_mem h3)
  unfold Lib.lastIndexByte
  rcases Lib.lastIdx_spec (t ++ rest) 10 (t ++ rest).size with ⟨h1, h2⟩ | ⟨i, hi, h1, h2, h3⟩
  · rw [h1]
    rcases ht with rfl | ⟨p, rfl⟩
    · rfl
    · exfalso
      have hp : (p ++ ⟨#[10]⟩ : ByteArray).size = p.size + 1 := by rw [ByteArray.size_append]; rfl
      refine h2 p.size (by omega) ?_
      rw [at_lst, lst_app, lst_app, lst_one, List.append_assoc, List.getElem!_eq_getElem?_getD, List.getElem?_append_right (by rw [lst_len]; exact Nat.le_refl _), lst_len, Nat.sub_self]
      rfl
  · rw [h1]
    have hlt : i < t.size := by
      rcases Nat.lt_or_ge i t.size with h | h
      · exact h
      · exact absurd h2 (hback i h hi)
    rcases ht with rfl | ⟨p, rfl⟩
    · exact absurd hlt (Nat.not_lt_zero _)
    · have hp : (p ++ ⟨#[10]⟩ : ByteArray).size = p.size + 1 := by rw [ByteArray.size_append]; rfl
      have hip : i = p.size := by
        rcases Nat.lt_or_ge i p.size with h | h
        · exfalso
          refine h3 p.size h (by omega) ?_
          rw [at_lst, lst_app, lst_app, lst_one, List.append_assoc, List.getElem!_eq_getElem?_getD, List.getElem?_append_right (by rw [lst_len]; exact Nat.le_refl _), lst_len, Nat.sub_self]
          rfl
        · omega
      omega
theorem ext_all (s : ByteArray) (n : Nat) (hn : n ≤ s.size) : s.extract 0 n ++ s.extract n s.size = s := by
  refine lst_inj ?_
  rw [lst_app, lst_ext, lst_ext, List.drop_zero, Nat.sub_zero, List.take_of_length_le (l := (lst s).drop n) (by rw [List.length_drop, lst_len]; exact Nat.le_refl _), List.take_append_drop]
theorem ext_app (a b : ByteArray) : (a ++ b).extract 0 a.size = a := by
  refine lst_inj ?_
  rw [lst_ext, lst_app, List.drop_zero, Nat.sub_zero, List.take_left' (lst_len a)]
theorem torn {A b : Ar} {rest : ByteArray} {n : Nat} (hA : Good A) (hn : n ≤ A.text.size) (h : RecOut (A.text.extract 0 n) b rest) :
    b.text.size ≤ n ∧ (lst (A.text.extract 0 n)).count 10 = b.list.length ∧ b.list.length ≤ A.list.length ∧ A.list.take b.list.length = b.list ∧ A.text.extract 0 b.text.size = b.text ∧
      Lib.lastIndexByte (A.text.extract 0 n) 10 + 1 = (b.text.size : Int) ∧ (A.list.length ≤ b.list.length → b.dig = A.dig) := by
  have he := ext_all A.text n hn
  have hr := rec_reach hA h he
  have hno := rec_no hA h he
  obtain ⟨hg, ht, hst⟩ := h
  obtain ⟨z, L, h1, h2, h3⟩ := hr.text
  have hsz : (A.text.extract 0 n).size = n := by rw [ByteArray.size_extract]; omega
  refine ⟨?_, ?_, ?_, ?_, ?_, ?_, fun hle => ?_⟩
  · rw [← hsz, ← ht, ByteArray.size_append]; omega
  · rw [← ht, lst_app, List.count_append, good_count hg, no_count hno]; rfl
  · rw [h2, List.length_append]; omega
  · rw [h2, List.take_left']; rfl
  · rw [h1]; exact ext_app _ _
  · rw [← ht]; exact last_at (good_end hg) hno
  · rw [h2, List.length_append] at hle
    have : L = [] := List.eq_nil_of_length_eq_zero (by omega)
    subst this
    rw [List.append_nil] at h2
    rw [good_eq hg hA h2.symm]
/-- A beginning of an archive's text: whole lines, and a rest without an end of line. -/
theorem cut_at {c A : Ar} (h : Reach c A) : ∀ {P Z : ByteArray}, A.text = c.text ++ (P ++ Z) → ∃ p y, Reach c p ∧ Reach p A ∧ c.text ++ P = p.text ++ y ∧ (10 : UInt8) ∉ lst y := by
  induction h with
  | refl a =>
    intro P Z hx
    have h0 : P.size = 0 := by
      have := congrArg ByteArray.size hx
      rw [ByteArray.size_append, ByteArray.size_append] at this
      omega
    refine ⟨a, P, .refl _, .refl _, rfl, fun hm => ?_⟩
    have := List.length_pos_of_mem hm
    rw [lst_len] at this
    omega
  | @step c A e he hA ih =>
    intro P Z hx
    by_cases hm : (10 : UInt8) ∈ lst P
    · obtain ⟨l, r, rfl, hl⟩ := txt_split hm
      obtain ⟨z, _, h1, _, _⟩ := hA.text
      have e1 : (appD c e).text = c.text ++ ent c e := by rw [appD_of he]
      rw [e1] at h1
      have h2 : ent c e ++ z = l ++ ⟨#[10]⟩ ++ (r ++ Z) := by
        rw [h1, ByteArray.append_assoc] at hx
        have := app_cancel hx
        rw [this, ByteArray.append_assoc]
      obtain ⟨h3, h4⟩ := ent_cut he hl h2.symm
      have h5 : l ++ ⟨#[10]⟩ = ent c e := by rw [h3]; rfl
      obtain ⟨p, y, k1, k2, k3, k4⟩ := ih (P := r) (Z := Z) (by rw [e1, h1, h4])
      refine ⟨p, y, .step e he k1, k2, ?_, k4⟩
      rw [h5, ← ByteArray.append_assoc, ← e1]
      exact k3
    · exact ⟨c, P, .refl _, .step e he hA, rfl, hm⟩
theorem spoilt {A b : Ar} {P Q rest : ByteArray} {c c' : UInt8} (hA : Good A) (hx : A.text = P ++ (⟨#[c]⟩ ++ Q)) (h : RecOut (P ++ (⟨#[c']⟩ ++ Q)) b rest) :
    (lst P).count 10 ≤ b.list.length ∧ (lst P).count 10 ≤ A.list.length ∧ b.list.take ((lst P).count 10) = A.list.take ((lst P).count 10) ∧ (c = c' → b = A) ∧ (c ≠ c' → b.list ≠ A.list) := by
  have hx0 : A.text = Ar0.text ++ (P ++ (⟨#[c]⟩ ++ Q)) := by rw [hx]; exact ByteArray.empty_append.symm
  obtain ⟨p, y, k1, k2, k3, k4⟩ := cut_at hA.reach hx0
  have k3 : P = p.text ++ y := by rw [← k3]; exact ByteArray.empty_append.symm
  have hgp : Good p := by
    clear k2 k3
    have : ∀ {x q : Ar}, Reach x q → Good x → Good q := fun {x q} hr => by
      induction hr with
      | refl a => exact id
      | step e he _ ih => exact fun hg => ih (.step hg he)
    exact this k1 .zero
  have hcnt : (lst P).count 10 = p.list.length := by rw [k3, lst_app, List.count_append, good_count hgp, no_count k4]; rfl
  obtain ⟨_, LA, _, hLA, _⟩ := k2.text
  have hpb : Reach p b := by
    have hxy : p.text ++ (y ++ (⟨#[c']⟩ ++ Q)) = b.text ++ rest := by rw [h.text, k3, ByteArray.append_assoc]
    rcases hgp.reach.cmp h.good.reach hxy with h1 | h1
    · exact h1
    · cases h1 with
      | refl => exact .refl _
      | step e he hr =>
        obtain ⟨z, _, h2, _, _⟩ := hr.text
        have e1 : (appD b e).text = b.text ++ ent b e := by rw [appD_of he]
        rw [h2, e1, ByteArray.append_assoc, ByteArray.append_assoc] at hxy
        exact absurd (app_cancel hxy).symm (h.stop e _ he)
  obtain ⟨_, LB, _, hLB, _⟩ := hpb.text
  rw [hcnt]
  refine ⟨by rw [hLB, List.length_append]; omega, by rw [hLA, List.length_append]; omega, by rw [hLA, hLB, List.take_left', List.take_left'] <;> rfl, fun hc => ?_, fun hc hl => ?_⟩
  · subst hc
    rw [← hx] at h
    exact rec_all hA h
  · have hb := good_eq h.good hA hl
    subst hb
    have ht := h.text
    have hs := congrArg ByteArray.size ht
    rw [hx] at hs
    simp only [ByteArray.size_append] at hs
    have h1 : (⟨#[c]⟩ : ByteArray).size = 1 := rfl
    have h2 : (⟨#[c']⟩ : ByteArray).size = 1 := rfl
    have hz : rest = ⟨#[]⟩ := by
      refine lst_inj (List.eq_nil_of_length_eq_zero ?_)
      rw [lst_len]; omega
    rw [hz, hx] at ht
    have ht : P ++ (⟨#[c]⟩ ++ Q) = P ++ (⟨#[c']⟩ ++ Q) := by rw [← ht]; exact ByteArray.append_empty.symm
    have h3 := congrArg lst (app_cancel ht)
    rw [lst_app, lst_app, lst_one, lst_one] at h3
    exact hc (List.cons.inj h3).1
end Go.Proofs.YtemgclhenkbikaaDoor
