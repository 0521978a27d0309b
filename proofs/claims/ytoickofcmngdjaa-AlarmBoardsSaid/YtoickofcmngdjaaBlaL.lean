/- Calls of function values that have captured memory which they only read. -/
import Derived.Test.YtoickofcmngdjaaAwZl
set_option linter.unusedVariables false
set_option linter.unusedSimpArgs false
namespace Go.Proofs.Ytoickofcmngdjaa
open Go.Proofs.Ytoickofcmngdjaa.Aw
attribute [local go_sem] Int.natCast_zero Int.natCast_one bne_self_eq_false beq_self_eq_true Bool.not_true Bool.not_false Option.isSome_none Option.isSome_some Aw.bkM_nil Option.getD_some Option.getD_none Nat.sub_zero Int.toNat_zero Aw.frzS Aw.frzT Aw.frzA Aw.frzL Aw.frzR Aw.frzO Aw.frzOL Aw.frzOT Aw.frzOR Aw.killS Aw.mapT Aw.mapR Aw.killM Aw.resAVs Aw.resAV Aw.quietOps Aw.wpP Aw.wpT Aw.wpS Aw.AOp.mild List.getElem?_cons_zero List.getElem?_cons_succ Bool.and_false Bool.and_self Bool.false_and Aw.opOb Aw.gdB Aw.Rnd Aw.subTm List.length_map Int.toNat_natCast and_self Aw.SeqC Aw.stops Aw.Ends Aw.looks Aw.renA Aw.renL Aw.renT Aw.renS Aw.wpO Aw.aop Aw.putTm Aw.St.ev Aw.St.put Aw.St.putO Aw.binAV Aw.intBin Aw.strBin Aw.pickAV Aw.optInt Aw.AV.strip Aw.AV.guard Aw.AV.cells Aw.gdOb Aw.AOp.opds Aw.AOp.still Aw.ptrCells Aw.St.reg Aw.fillAV Aw.fillOb Aw.elsOb Aw.splice Aw.firm Aw.cellish Aw.AV.shut Aw.shutAll Aw.Seq Aw.Blk Aw.retS_nil Aw.mapA Aw.mapL Aw.borA Aw.borOb Aw.allOb Aw.tupOf Aw.params Aw.Opd.of Array.toList Value.cells List.map_cons List.map_nil List.getD_cons_zero List.getD_cons_succ List.getD_nil List.length_cons List.length_nil List.take_succ_cons List.take_zero List.take_nil List.drop_zero List.drop_succ_cons List.drop_nil List.set_cons_zero List.set_cons_succ List.append_nil List.nil_append List.cons_append List.all_cons List.all_nil cond_false cond_true if_true if_false true_and and_true Bool.and_true Bool.true_and Option.map_some Option.map_none false_implies forall_const implies_true forall_eq imp_self Bool.cond_false_right Bool.cond_true_left beq_true beq_false Bool.not_eq_true' Bool.false_eq_true Nat.zero_add Nat.add_zero Aw.eqCells Aw.stopDraw Aw.skipS Aw.exactCap Aw.revealS Aw.srcEls Aw.srcSz
attribute [local go_sem ↓] Aw.look_nil Aw.look_ite Aw.wpL_nil Aw.wpL_op Aw.wpL_gd Aw.wpQ_nil Aw.wpQ_op Aw.wpQ_gd Aw.wpC_draw Aw.wpC_reg Aw.wpC_skip Aw.wpC_ret Aw.wpC_exit Aw.wpC_seq Aw.wpC_block Aw.wpC_loop Aw.wpC_cond Aw.stopAt_nil Aw.stopAt_cons Aw.wpD_skip Aw.wpD_ret Aw.wpD_exit Aw.wpD_region Aw.wpD_draw Aw.wpM_nil Aw.wpM_op Aw.wpM_gd Aw.wpD_seq Aw.wpD_block Aw.wpD_loop Aw.wpD_cond
open Go.RowKit
section
variable {P : Program} {E : Env} {Q : Exit → St → Prop} {s : St}
theorem caps_bor {a : Act} {w : World} {ρ : Nat → Option (Option Aw.Place)} {ok : Nat → Prop} (hr : RelM E s a w ρ ok) : ∀ (cs : List AV) (vs : List Value), (∀ x ∈ cs, borOb 4 s x) → RList w ok ρ cs vs → RcList w (fun b => b < w.heap.size) (cs.map (borA 4 s)) vs
  | [], vs, _, h => by unfold RList at h; unfold List.map RcList; exact h
  | x :: cs, vs, hb, h => by
    unfold RList at h
    obtain ⟨v, vs', rfl, h1, h2⟩ := h
    rw [List.map_cons]; unfold RcList
    exact ⟨_, _, rfl, borA_ok hr 4 _ _ (hb x List.mem_cons_self) h1, caps_bor hr cs vs' (fun y hy => hb y (List.mem_cons_of_mem _ hy)) h2⟩
theorem RcList_append {w : World} {ok : Nat → Prop} : ∀ {xs ys : List AV} {vs us : List Value}, RcList w ok xs vs → RcList w ok ys us → RcList w ok (xs ++ ys) (vs ++ us)
  | [], ys, vs, us, h, k => by unfold RcList at h; subst h; exact k
  | x :: xs, ys, vs, us, h, k => by
    unfold RcList at h
    obtain ⟨v, vs', rfl, h1, h2⟩ := h
    rw [List.cons_append, List.cons_append]; unfold RcList
    exact ⟨_, _, rfl, h1, RcList_append h2 k⟩
theorem AWpL_callvb {g : Opd} {f : FuncId} {caps : List AV} {xs : List Opd} {dst : Option Nat} {gs : List GOp} {Post : List Reg → AV → Prop} (hg : s.ev g = .fn f caps) (hf : fnOk P f = true)
    (hs : Aw.Spec P f [] ((xs.map fun x => borA 4 s (s.ev x)) ++ caps.map (borA 4 s)) Post)
    (hd : dstOk E.n dst = true) (hb : allOb (borOb 4 s) (xs.map s.ev)) (hb2 : allOb (borOb 4 s) caps)
    (h : ∀ rg x, Post rg x → (NI x ∧ ∀ g ∈ rg, NIR g) ∧ AWpL P E Q gs (retS s [] dst rg x)) : AWpL P E Q (⟨dst, none, .callv g xs⟩ :: gs) s := fun ops l hl a w hrel => by
  obtain ⟨o, l', rfl, h1, h2⟩ := gops_cons hl
  obtain ⟨ρ, ok, hr⟩ := hrel
  obtain ⟨hc, hdst, hgd⟩ := gop_guard h1
  rcases hgd with ⟨hg0, _⟩ | ⟨_, _, _, _, _, hgd⟩
  case inr => cases hgd
  unfold wpList
  rw [if_pos (wanted_none hg0 _)]
  left
  have hfv := hr.ev g
  rw [hg] at hfv
  unfold R at hfv
  obtain ⟨vs, hv1, hv2⟩ := hfv
  obtain ⟨vals, hv, hrun⟩ := callv_inv (a := a) (w := w) hc hv1 hf
  unfold Oper.wp
  rw [hrun]
  have hl := RcList_append (args_bor hr xs fun x hx => allOb_mem hb _ (List.mem_map.2 ⟨x, hx, rfl⟩)) (caps_bor hr caps vs.toList (fun x hx => allOb_mem hb2 _ hx) hv2)
  refine upon_enter hdst.symm (call_lent hr hs (by rw [Array.toList_append, hv]; exact hl) hd fun rg x hp => ?_)
  obtain ⟨h3, h4⟩ := h rg x hp
  exact ⟨h3, fun v w' hr' => h4 ops l' h2 _ _ hr'⟩
theorem AWpL_callve {g : Opd} {f : FuncId} {caps : List AV} {xs : List Opd} {dst : Option Nat} {gs : List GOp} {y : AV} (hg : s.ev g = .fn f caps) (hf : fnOk P f = true)
    (hs : Aw.Spec P f [] ((xs.map fun x => borA 4 s (s.ev x)) ++ caps.map (borA 4 s)) (Gives (· = y))) (hy : plainA y = true)
    (hd : dstOk E.n dst = true) (hb : allOb (borOb 4 s) (xs.map s.ev)) (hb2 : allOb (borOb 4 s) caps)
    (h : AWpL P E Q gs (s.putO dst y)) : AWpL P E Q (⟨dst, none, .callv g xs⟩ :: gs) s :=
  AWpL_callvb hg hf hs hd hb hb2 fun rg x ⟨hr, hx⟩ => by
    subst hr; subst hx
    exact ⟨⟨plain_ni _ hy, fun _ h => by cases h⟩, by rw [retS_nil, plain_map _ _ hy]; exact h⟩
theorem AOne_callvb {m : Bool} {g : Opd} {f : FuncId} {caps : List AV} {xs : List Opd} {dst : Option Nat} {K : St → Prop} {Post : List Reg → AV → Prop} (hg0 : s.ev g = .fn f caps) (hf : fnOk P f = true)
    (hs : Aw.Spec P f [] ((xs.map fun x => borA 4 s (s.ev x)) ++ caps.map (borA 4 s)) Post)
    (hd : dstOk E.n dst = true) (hb : allOb (borOb 4 s) (xs.map s.ev)) (hb2 : allOb (borOb 4 s) caps) (h : ∀ rg x, Post rg x → (NI x ∧ ∀ g ∈ rg, NIR g) ∧ K (retS s [] dst rg x)) : AOne P E m ⟨dst, none, .callv g xs⟩ s K := fun ops o hg a w hrel Q => by
  obtain ⟨ρ, ok, hr⟩ := hrel
  obtain ⟨hc, hdst, hgd⟩ := gop_guard hg
  rcases hgd with ⟨hg1, _⟩ | ⟨_, _, _, _, _, hgd⟩
  case inr => cases hgd
  rw [if_pos (wanted_none hg1 _)]
  left
  have hfv := hr.ev g
  rw [hg0] at hfv
  unfold R at hfv
  obtain ⟨vs, hv1, hv2⟩ := hfv
  obtain ⟨vals, hv, hrun⟩ := callv_inv (a := a) (w := w) hc hv1 hf
  unfold Oper.wp
  rw [hrun]
  refine upon_enter hdst.symm ?_
  have ha := RcList_append (args_bor hr xs fun x hx => allOb_mem hb _ (List.mem_map.2 ⟨x, hx, rfl⟩)) (caps_bor hr caps vs.toList (fun x hx => allOb_mem hb2 _ hx) hv2)
  refine (hs w (fun _ => none) (fun b => b < w.heap.size) _ (Mem.none fun _ h => h) (RList_of_Rc _ _ (by rw [Array.toList_append, hv]; exact ha))).mono ?_
  rintro e w' ⟨rg, x, v, ρ', ok', rfl, hp, hm, hx, h1, h2, h3, h4⟩
  obtain ⟨⟨h5, h5'⟩, h6⟩ := h rg x hp
  have hext : Ext w w' := ⟨h3.os, h3.tape, h3.output, h3.size, fun k hk => h3.block k hk fun ⟨r0, p0, h7, _⟩ => by cases h7⟩
  refine ⟨v, rfl, fun _ => hext, _, h6, _, _, ret_core hr (π := []) rfl (fun r hr => by cases hr) hd (hm.ni h5') (R_ni x v h5 hx) (fun b hb => hb.elim) (Nat.zero_le _) (fun r p hp => ?_) ⟨h3.os, h3.tape, h3.output, h3.size, fun k hk _ => h3.block k hk fun ⟨r0, p0, h7, _⟩ => by cases h7⟩ fun r hb hlt' => by simp at hlt'⟩
  rcases h2 r p hp with h7 | ⟨r0, p0, h7, _⟩
  · exact .inl h7
  · cases h7
theorem AOne_callve {m : Bool} {g : Opd} {f : FuncId} {caps : List AV} {xs : List Opd} {dst : Option Nat} {K : St → Prop} {y : AV} (hg0 : s.ev g = .fn f caps) (hf : fnOk P f = true)
    (hs : Aw.Spec P f [] ((xs.map fun x => borA 4 s (s.ev x)) ++ caps.map (borA 4 s)) (Gives (· = y))) (hy : plainA y = true)
    (hd : dstOk E.n dst = true) (hb : allOb (borOb 4 s) (xs.map s.ev)) (hb2 : allOb (borOb 4 s) caps) (h : K (s.putO dst y)) : AOne P E m ⟨dst, none, .callv g xs⟩ s K :=
  AOne_callvb hg0 hf hs hd hb hb2 fun rg x ⟨hr, hx⟩ => by
    subst hr; subst hx
    exact ⟨⟨plain_ni _ hy, fun _ h => by cases h⟩, by rw [retS_nil, plain_map _ _ hy]; exact h⟩
end
end Go.Proofs.Ytoickofcmngdjaa
