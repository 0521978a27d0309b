/- Archives: what is recovered from a text, plain. -/
import Derived.Test.YtemgclhenkbikaaDoorAwZl
import Derived.Test.YtemgclhenkbikaaDoorArN
set_option linter.unusedVariables false
set_option linter.unusedSimpArgs false
namespace Go.Proofs.YtemgclhenkbikaaDoor
open Go.Proofs.YtemgclhenkbikaaDoor.Aw
attribute [local go_sem] Int.natCast_zero Int.natCast_one bne_self_eq_false beq_self_eq_true Bool.not_true Bool.not_false Option.isSome_none Option.isSome_some Aw.bkM_nil Option.getD_some Option.getD_none Nat.sub_zero Int.toNat_zero Aw.frzS Aw.frzT Aw.frzA Aw.frzL Aw.frzR Aw.frzO Aw.frzOL Aw.frzOT Aw.frzOR Aw.killS Aw.mapT Aw.mapR Aw.killM Aw.resAVs Aw.resAV Aw.quietOps Aw.wpP Aw.wpT Aw.wpS Aw.AOp.mild List.getElem?_cons_zero List.getElem?_cons_succ Bool.and_false Bool.and_self Bool.false_and Aw.opOb Aw.gdB Aw.Rnd Aw.subTm List.length_map Int.toNat_natCast and_self Aw.SeqC Aw.stops Aw.Ends Aw.looks Aw.renA Aw.renL Aw.renT Aw.renS Aw.wpO Aw.aop Aw.putTm Aw.St.ev Aw.St.put Aw.St.putO Aw.binAV Aw.intBin Aw.strBin Aw.pickAV Aw.optInt Aw.AV.strip Aw.AV.guard Aw.AV.cells Aw.gdOb Aw.AOp.opds Aw.AOp.still Aw.ptrCells Aw.St.reg Aw.fillAV Aw.fillOb Aw.elsOb Aw.splice Aw.firm Aw.cellish Aw.AV.shut Aw.shutAll Aw.Seq Aw.Blk Aw.retS_nil Aw.mapA Aw.mapL Aw.borA Aw.borOb Aw.allOb Aw.tupOf Aw.params Aw.Opd.of Array.toList Value.cells List.map_cons List.map_nil List.getD_cons_zero List.getD_cons_succ List.getD_nil List.length_cons List.length_nil List.take_succ_cons List.take_zero List.take_nil List.drop_zero List.drop_succ_cons List.drop_nil List.set_cons_zero List.set_cons_succ List.append_nil List.nil_append List.cons_append List.all_cons List.all_nil cond_false cond_true if_true if_false true_and and_true Bool.and_true Bool.true_and Option.map_some Option.map_none false_implies forall_const implies_true forall_eq imp_self Bool.cond_false_right Bool.cond_true_left beq_true beq_false Bool.not_eq_true' Bool.false_eq_true Nat.zero_add Nat.add_zero Aw.eqCells Aw.stopDraw Aw.skipS Aw.exactCap Aw.revealS Aw.srcEls Aw.srcSz
attribute [local go_sem ↓] Aw.look_nil Aw.look_ite Aw.wpL_nil Aw.wpL_op Aw.wpL_gd Aw.wpQ_nil Aw.wpQ_op Aw.wpQ_gd Aw.wpC_draw Aw.wpC_reg Aw.wpC_skip Aw.wpC_ret Aw.wpC_exit Aw.wpC_seq Aw.wpC_block Aw.wpC_loop Aw.wpC_cond Aw.stopAt_nil Aw.stopAt_cons Aw.wpD_skip Aw.wpD_ret Aw.wpD_exit Aw.wpD_region Aw.wpD_draw Aw.wpM_nil Aw.wpM_op Aw.wpM_gd Aw.wpD_seq Aw.wpD_block Aw.wpD_loop Aw.wpD_cond
inductive Reach : Ar → Ar → Prop
  | refl (a : Ar) : Reach a a
  | step {a c : Ar} (e : Ev) : appE a e = 0 → Reach (appD a e) c → Reach a c
theorem Reach.snoc {a b : Ar} {e : Ev} (h : Reach a b) (he : appE b e = 0) : Reach a (appD b e) := by
  induction h with
  | refl a => exact .step e he (.refl _)
  | step e' h1 _ ih => exact .step e' h1 (ih he)
theorem Good.reach {a : Ar} (h : Good a) : Reach Ar0 a := by
  induction h with
  | zero => exact .refl _
  | step _ he ih => exact ih.snoc he
theorem ent_pos (a : Ar) (e : Ev) : 0 < (ent a e).size := by
  unfold ent
  rw [ByteArray.size_append]
  have : (⟨#[10]⟩ : ByteArray).size = 1 := rfl
  omega
theorem Reach.text {a b : Ar} (h : Reach a b) : ∃ z L, b.text = a.text ++ z ∧ b.list = a.list ++ L ∧ (a = b ∨ 0 < z.size) := by
  induction h with
  | refl a => exact ⟨⟨#[]⟩, [], ByteArray.append_empty.symm, (List.append_nil _).symm, .inl rfl⟩
  | @step a c e he _ ih =>
    obtain ⟨z, L, h1, h2, _⟩ := ih
    rw [appD_of he] at h1 h2
    refine ⟨ent a e ++ z, e :: L, ?_, ?_, .inr ?_⟩
    · rw [h1]; show a.text ++ ent a e ++ z = _; rw [ByteArray.append_assoc]
    · rw [h2]; show a.list ++ [e] ++ L = _; rw [List.append_assoc]; rfl
    · rw [ByteArray.size_append]; have := ent_pos a e; omega
theorem app_cancel {a b c : ByteArray} (h : a ++ b = a ++ c) : b = c := by
  have := congrArg lst h
  rw [lst_app, lst_app] at this
  exact lst_inj (List.append_cancel_left this)
theorem ent_inj {a : Ar} {e e' : Ev} {x y : ByteArray} (h : appE a e = 0) (h' : appE a e' = 0) (hx : ent a e ++ x = ent a e' ++ y) : e = e' := by
  have hl := line_no10 (appE_ev h) (hexB_no nl_sep (digN a e))
  obtain ⟨h1, _⟩ := ent_cut h' hl (by unfold ent at hx ⊢; exact hx)
  have r1 := read_ok (appE_ev h) (hexB_no sp_sep (digN a e))
  have r2 := read_ok (appE_ev h') (hexB_no sp_sep (digN a e'))
  rw [h1, r2] at r1
  exact (congrArg (·.1) r1).symm
theorem Reach.cmp {c a : Ar} (ha : Reach c a) : ∀ {b : Ar} {x y : ByteArray}, Reach c b → a.text ++ x = b.text ++ y → Reach a b ∨ Reach b a := by
  induction ha with
  | refl a => exact fun hb _ => .inl hb
  | @step c a e he ha' ih =>
    intro b x y hb hxy
    cases hb with
    | refl => exact .inr (.step e he ha')
    | step e' he' hb' =>
      obtain ⟨z, _, h1, _, _⟩ := ha'.text
      obtain ⟨z', _, h1', _, _⟩ := hb'.text
      rw [appD_of he] at h1
      rw [appD_of he'] at h1'
      have h2 : c.text ++ (ent c e ++ (z ++ x)) = c.text ++ (ent c e' ++ (z' ++ y)) := by
        have e1 : a.text = c.text ++ ent c e ++ z := h1
        have e2 : b.text = c.text ++ ent c e' ++ z' := h1'
        rw [e1, e2] at hxy
        simpa [ByteArray.append_assoc] using hxy
      have h3 := ent_inj he he' (app_cancel h2)
      subst h3
      exact ih hb' hxy
theorem Reach.anti {a b : Ar} (h : Reach a b) (hs : b.text.size ≤ a.text.size) : a = b := by
  obtain ⟨z, _, h1, _, h2⟩ := h.text
  rcases h2 with h2 | h2
  · exact h2
  · rw [h1, ByteArray.size_append] at hs; omega
/-- A text that is a beginning of an archive's text. -/
theorem rec_reach {A b : Ar} {s rest rem : ByteArray} (hA : Good A) (h : RecOut s b rest) (hs : s ++ rem = A.text) : Reach b A := by
  obtain ⟨hg, ht, hst⟩ := h
  have hx : A.text ++ ⟨#[]⟩ = b.text ++ (rest ++ rem) := by
    rw [show A.text ++ (⟨#[]⟩ : ByteArray) = A.text from ByteArray.append_empty, ← hs, ← ht, ByteArray.append_assoc]
  rcases hA.reach.cmp hg.reach hx with h1 | h1
  · have := h1.anti (by
      have h3 := congrArg ByteArray.size hs
      rw [← ht, ByteArray.size_append, ByteArray.size_append] at h3
      omega)
    rw [this]; exact .refl _
  · exact h1
theorem rec_no {A b : Ar} {s rest rem : ByteArray} (hA : Good A) (h : RecOut s b rest) (hs : s ++ rem = A.text) : (10 : UInt8) ∉ lst rest := by
  have hr := rec_reach hA h hs
  obtain ⟨hg, ht, hst⟩ := h
  intro hm
  obtain ⟨p, r, hp, hno⟩ := txt_split hm
  have hx : A.text = b.text ++ (rest ++ rem) := by rw [← hs, ← ht, ByteArray.append_assoc]
  cases hr with
  | refl =>
    have := congrArg ByteArray.size hx
    rw [ByteArray.size_append, ByteArray.size_append, hp, ByteArray.size_append, ByteArray.size_append] at this
    have h1 : (⟨#[10]⟩ : ByteArray).size = 1 := rfl
    omega
  | step e he ha' =>
    obtain ⟨z, _, h1, _, _⟩ := ha'.text
    rw [appD_of he] at h1
    have e1 : A.text = b.text ++ ent b e ++ z := h1
    rw [e1, ByteArray.append_assoc] at hx
    have h2 := (app_cancel hx).symm
    rw [hp, ByteArray.append_assoc] at h2
    obtain ⟨h3, _⟩ := ent_cut he hno h2
    refine hst e r he ?_
    rw [hp, h3]; rfl
theorem rec_all {A b : Ar} {rest : ByteArray} (hA : Good A) (h : RecOut A.text b rest) : b = A := by
  have h0 : A.text ++ (⟨#[]⟩ : ByteArray) = A.text := ByteArray.append_empty
  have hr := rec_reach hA h h0
  have hno := rec_no hA h h0
  obtain ⟨hg, ht, hst⟩ := h
  cases hr with
  | refl => rfl
  | step e he ha' =>
    obtain ⟨z, _, h1, _, _⟩ := ha'.text
    rw [appD_of he] at h1
    have e1 : A.text = b.text ++ ent b e ++ z := h1
    rw [e1, ByteArray.append_assoc] at ht
    have h2 := app_cancel ht
    exact absurd (by rw [h2]; exact ent_nl b e z) hno
theorem ofN_good (l : List Ev) : ∀ i, i ≤ l.length → Good (ofN l i).1
  | 0, _ => .zero
  | i + 1, h => by
    rw [ofN_succ (by omega)]
    have ih := ofN_good l i (by omega)
    unfold stepA
    dsimp only
    by_cases he : appE (ofN l i).1 (atT l[i] ((ofN l i).2 + cut l[i].time 0 50)) = 0
    · exact .step ih he
    · rw [appD_not he]; exact ih
end Go.Proofs.YtemgclhenkbikaaDoor
