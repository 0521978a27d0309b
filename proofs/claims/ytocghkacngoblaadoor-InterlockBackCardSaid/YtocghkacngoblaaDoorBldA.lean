/- strings.Builder: a pointer to itself and bytes of its own. -/
import Derived.Test.YtocghkacngoblaaDoorAwZo
import Derived.Test.YtocghkacngoblaaDoorLibA
import Derived.Shelf.Strings.Builder1
import Derived.Test.YtocghkacngoblaaDoorAwT
set_option linter.unusedVariables false
set_option linter.unusedSimpArgs false
namespace Go.Proofs.YtocghkacngoblaaDoor
open Go.Proofs.YtocghkacngoblaaDoor.Aw
attribute [local go_sem] Int.natCast_zero Int.natCast_one bne_self_eq_false beq_self_eq_true Bool.not_true Bool.not_false Option.isSome_none Option.isSome_some Aw.bkM_nil Option.getD_some Option.getD_none Nat.sub_zero Int.toNat_zero Aw.frzS Aw.frzT Aw.frzA Aw.frzL Aw.frzR Aw.frzO Aw.frzOL Aw.frzOT Aw.frzOR Aw.killS Aw.mapT Aw.mapR Aw.killM Aw.resAVs Aw.resAV Aw.quietOps Aw.wpP Aw.wpT Aw.wpS Aw.AOp.mild List.getElem?_cons_zero List.getElem?_cons_succ Bool.and_false Bool.and_self Bool.false_and Aw.opOb Aw.gdB Aw.Rnd Aw.subTm List.length_map Int.toNat_natCast and_self Aw.SeqC Aw.stops Aw.Ends Aw.looks Aw.renA Aw.renL Aw.renT Aw.renS Aw.wpO Aw.aop Aw.putTm Aw.St.ev Aw.St.put Aw.St.putO Aw.binAV Aw.intBin Aw.strBin Aw.pickAV Aw.optInt Aw.AV.strip Aw.AV.guard Aw.AV.cells Aw.gdOb Aw.AOp.opds Aw.AOp.still Aw.ptrCells Aw.St.reg Aw.fillAV Aw.fillOb Aw.elsOb Aw.splice Aw.firm Aw.cellish Aw.AV.shut Aw.shutAll Aw.Seq Aw.Blk Aw.retS_nil Aw.mapA Aw.mapL Aw.borA Aw.borOb Aw.allOb Aw.tupOf Aw.params Aw.Opd.of Array.toList Value.cells List.map_cons List.map_nil List.getD_cons_zero List.getD_cons_succ List.getD_nil List.length_cons List.length_nil List.take_succ_cons List.take_zero List.take_nil List.drop_zero List.drop_succ_cons List.drop_nil List.set_cons_zero List.set_cons_succ List.append_nil List.nil_append List.cons_append List.all_cons List.all_nil cond_false cond_true if_true if_false true_and and_true Bool.and_true Bool.true_and Option.map_some Option.map_none false_implies forall_const implies_true forall_eq imp_self Bool.cond_false_right Bool.cond_true_left beq_true beq_false Bool.not_eq_true' Bool.false_eq_true Nat.zero_add Nat.add_zero Aw.eqCells Aw.stopDraw Aw.skipS Aw.exactCap Aw.revealS Aw.srcEls Aw.srcSz
attribute [local go_sem ↓] Aw.look_nil Aw.look_ite Aw.wpL_nil Aw.wpL_op Aw.wpL_gd Aw.wpQ_nil Aw.wpQ_op Aw.wpQ_gd Aw.wpC_draw Aw.wpC_reg Aw.wpC_skip Aw.wpC_ret Aw.wpC_exit Aw.wpC_seq Aw.wpC_block Aw.wpC_loop Aw.wpC_cond Aw.stopAt_nil Aw.stopAt_cons Aw.wpD_skip Aw.wpD_ret Aw.wpD_exit Aw.wpD_region Aw.wpD_draw Aw.wpM_nil Aw.wpM_op Aw.wpM_gd Aw.wpD_seq Aw.wpD_block Aw.wpD_loop Aw.wpD_cond
def renB : Go.Shelf.Ren := ⟨fun f => if f = 240 then 40 else if f = 276 then 45 else if f = 169 then 28 else 0, fun t => if t = 0 then 0 else if t = 3 then 3 else if t = 4 then 4 else if t = 5 then 5 else if t = 9 then 9 else if t = 20 then 20 else if t = 37 then 62 else if t = 70 then 61 else if t = 72 then 64 else if t = 127 then 86 else if t = 164 then 94 else 0, fun _ => 0⟩
set_option maxRecDepth 100000 in
theorem lays240 : Go.Proofs.Lays.n240 Tryd.prog renB := by
  constructor
  all_goals first
    | kernel_rfl
    | (intro w; rfl)
    | (intro w; exact Go.RowKit.run_isAgg_plain (by kernel_rfl) rfl)
set_option maxRecDepth 100000 in
theorem lays169 : Go.Proofs.Lays.n169 Tryd.prog renB := by
  constructor
  all_goals first
    | kernel_rfl
    | (intro w; rfl)
    | (intro w; exact Go.RowKit.run_isAgg_plain (by kernel_rfl) rfl)
theorem x72 : Go.Proofs.Builder.X72 Tryd.prog renB := ⟨by kernel_rfl, by kernel_rfl⟩
theorem byteInfo : (Tryd.prog.info? 5).map (fun i => (i.zero, i.size, i.bytes)) = some (some (.int .u8 0), 1, 1) := by kernel_rfl
abbrev bldR (p : AV) (n : Nat) (els : List (List AV)) : List Reg := [.box 64 [p, .hnd 1 0 n n false], .arr 5 1 els]
theorem bld_inv {w : World} {ok : Nat → Prop} {ρ : Nat → Option (Option Aw.Place)} {p : AV} {n : Nat} {els : List (List AV)} (hm : Mem w ok ρ (bldR p n els)) {vals : Array Value} (hr : RList w ok ρ [.ptr 0 0 0] vals.toList) :
    ∃ b, ∃ v0 v1 : Value, ρ 0 = some (some ⟨b, 0, 2, 2⟩) ∧ w.heap[b]? = some (.cells #[v0, v1] 64 (0, 0)) ∧ vals = #[.pointer (some ⟨b, 0, none⟩)] ∧ R w ok ρ p v0 ∧ R w ok ρ (.hnd 1 0 n n false) v1 := by
  obtain ⟨b, C, h1, h2, h3⟩ := hm.reg 0 _ rfl
  simp only [List.length_cons, List.length_nil] at h1
  obtain ⟨C⟩ := C
  unfold RList at h3
  obtain ⟨v0, vs', h4, h5, h6⟩ := h3
  unfold RList at h6
  obtain ⟨v1, vs2, h7, h8, h9⟩ := h6
  unfold RList at h9
  simp only at h4
  subst h9 h7 h4
  obtain ⟨fr, h10, h11⟩ := hpB_inv h2
  rcases h11 with rfl | ⟨h11, _⟩
  · refine ⟨b, v0, v1, h1, h10, ?_, h5, h8⟩
    unfold RList at hr
    obtain ⟨v, vs, k1, k2, k3⟩ := hr
    unfold RList at k3
    subst k3
    unfold R at k2
    obtain ⟨p', k4, k5⟩ := k2
    rw [h1] at k4
    injection k4 with k4
    injection k4 with k4
    subst k4
    cases vals; simp only at k1; subst k1 k5; rfl
  · exact absurd h11 (by decide)
theorem copy_used (n : Nat) (els : List (List AV)) : Aw.Spec Tryd.prog 40 (bldR (.ptr 0 0 0) n els) [.ptr 0 0 0] (fun rg v => rg = bldR (.ptr 0 0 0) n els ∧ v = .tup []) := by
  intro w ρ ok vals hm hr
  obtain ⟨b, v0, v1, h1, h2, rfl, h3, h4⟩ := bld_inv hm hr
  unfold R at h3
  obtain ⟨p', k4, k5⟩ := h3
  rw [h1] at k4
  injection k4 with k4
  injection k4 with k4
  subst k4
  have h0 : w.cell? ⟨b, 0, none⟩ = some (.pointer (some ⟨b, 0, none⟩)) := by
    unfold World.cell?
    rw [h2, k5]; rfl
  refine (Go.Proofs.Any.Builder_copyCheck_used lays240 x72 b w h0).mono fun e w' he => ?_
  obtain ⟨rfl, rfl⟩ := he
  refine ⟨_, _, .tuple #[], ρ, ok, rfl, ⟨rfl, rfl⟩, hm, ?_, fun b hb => .inl hb, fun r p hp => .inr ⟨r, p, hp, rfl⟩, ⟨rfl, rfl, rfl, Nat.le_refl _, fun _ _ _ => rfl⟩, fun _ _ _ _ => rfl⟩
  unfold R
  exact ⟨#[], rfl, by unfold RList; rfl⟩
theorem copy_fresh (n : Nat) (els : List (List AV)) : Aw.Spec Tryd.prog 40 (bldR (.val (.pointer none)) n els) [.ptr 0 0 0] (fun rg v => rg = bldR (.ptr 0 0 0) n els ∧ v = .tup []) := by
  intro w ρ ok vals hm hr
  obtain ⟨b, v0, v1, h1, h2, rfl, h3, h4⟩ := bld_inv hm hr
  have h3 : v0 = .pointer none := by unfold R at h3; exact h3
  subst h3
  have h0 : w.cell? ⟨b, 0, none⟩ = some (.pointer none) := by
    unfold World.cell?
    rw [h2]; rfl
  have hsh : w.shape? b = some (64, 2) := by
    unfold World.shape?
    rw [h2]; rfl
  have hfz : w.frozen? ⟨b, 0, none⟩ = false := Lib.frozen_of_heap h2 0
  refine (Go.Proofs.Any.Builder_copyCheck_fresh lays240 x72 b w h0 hsh hfz).mono fun e w' he => ?_
  obtain ⟨rfl, rfl⟩ := he
  have hw : (w.setCell ⟨b, 0, none⟩ (.pointer (some ⟨b, 0, none⟩))).heap[b]? = some (.cells #[.pointer (some ⟨b, 0, none⟩), v1] 64 (0, 0)) := by
    simp [World.setCell, Array.getElem?_modify, h2]
  have hoth : ∀ k, k ≠ b → (w.setCell ⟨b, 0, none⟩ (.pointer (some ⟨b, 0, none⟩))).heap[k]? = w.heap[k]? := fun k hk => Go.RowKit.Below.heap_setCell w _ _ k hk
  have hsz : (w.setCell ⟨b, 0, none⟩ (.pointer (some ⟨b, 0, none⟩))).heap.size = w.heap.size := by simp [World.setCell]
  have hrd : Reads ok w (w.setCell ⟨b, 0, none⟩ (.pointer (some ⟨b, 0, none⟩))) := Reads.of_same fun b' hb' => hoth b' fun e => (hm.own 0 _ h1).2 (e ▸ hb')
  have hm2 := hm.write (r := 0) h1 hsz hoth (g' := .box 64 [.ptr 0 0 0, .hnd 1 0 n n false]) ⟨b, _, h1, hpB_of hw, by
    unfold RList
    refine ⟨_, _, rfl, ?_, ?_⟩
    · unfold R; exact ⟨_, h1, rfl⟩
    · unfold RList
      exact ⟨_, _, rfl, R_frame hrd (fun _ x => x) (fun _ _ x => x) _ _ h4, by unfold RList; rfl⟩⟩
  refine ⟨_, _, .tuple #[], ρ, ok, rfl, ⟨rfl, rfl⟩, hm2, ?_, fun b hb => .inl hb, fun r p hp => .inr ⟨r, p, hp, rfl⟩, ⟨rfl, rfl, rfl, by rw [hsz]; exact Nat.le_refl _, fun k _ hk => hoth k fun e => hk ⟨0, _, h1, e.symm⟩⟩, fun _ _ _ _ => rfl⟩
  unfold R
  exact ⟨#[], rfl, by unfold RList; rfl⟩
end Go.Proofs.YtocghkacngoblaaDoor
