/- Texts: TrimLeft and Index at one byte, from the library. -/
import Derived.Test.YtjaakbkneeojnaaDoorAwZl
import Derived.Test.YtjaakbkneeojnaaDoorLibA
import Derived.Shelf.Strings.Trim
import Derived.Shelf.Strings.Search2
set_option linter.unusedVariables false
set_option linter.unusedSimpArgs false
namespace Go.Proofs.YtjaakbkneeojnaaDoor
open Go.Proofs.YtjaakbkneeojnaaDoor.Aw
attribute [local go_sem] Int.natCast_zero Int.natCast_one bne_self_eq_false beq_self_eq_true Bool.not_true Bool.not_false Option.isSome_none Option.isSome_some Aw.bkM_nil Option.getD_some Option.getD_none Nat.sub_zero Int.toNat_zero Aw.frzS Aw.frzT Aw.frzA Aw.frzL Aw.frzR Aw.frzO Aw.frzOL Aw.frzOT Aw.frzOR Aw.killS Aw.mapT Aw.mapR Aw.killM Aw.resAVs Aw.resAV Aw.quietOps Aw.wpP Aw.wpT Aw.wpS Aw.AOp.mild List.getElem?_cons_zero List.getElem?_cons_succ Bool.and_false Bool.and_self Bool.false_and Aw.opOb Aw.gdB Aw.Rnd Aw.subTm List.length_map Int.toNat_natCast and_self Aw.SeqC Aw.stops Aw.Ends Aw.looks Aw.renA Aw.renL Aw.renT Aw.renS Aw.wpO Aw.aop Aw.putTm Aw.St.ev Aw.St.put Aw.St.putO Aw.binAV Aw.intBin Aw.strBin Aw.pickAV Aw.optInt Aw.AV.strip Aw.AV.guard Aw.AV.cells Aw.gdOb Aw.AOp.opds Aw.AOp.still Aw.ptrCells Aw.St.reg Aw.fillAV Aw.fillOb Aw.elsOb Aw.splice Aw.firm Aw.cellish Aw.AV.shut Aw.shutAll Aw.Seq Aw.Blk Aw.retS_nil Aw.mapA Aw.mapL Aw.borA Aw.borOb Aw.allOb Aw.tupOf Aw.params Aw.Opd.of Array.toList Value.cells List.map_cons List.map_nil List.getD_cons_zero List.getD_cons_succ List.getD_nil List.length_cons List.length_nil List.take_succ_cons List.take_zero List.take_nil List.drop_zero List.drop_succ_cons List.drop_nil List.set_cons_zero List.set_cons_succ List.append_nil List.nil_append List.cons_append List.all_cons List.all_nil cond_false cond_true if_true if_false true_and and_true Bool.and_true Bool.true_and Option.map_some Option.map_none false_implies forall_const implies_true forall_eq imp_self Bool.cond_false_right Bool.cond_true_left beq_true beq_false Bool.not_eq_true' Bool.false_eq_true Nat.zero_add Nat.add_zero Aw.eqCells Aw.stopDraw Aw.skipS Aw.exactCap Aw.revealS Aw.srcEls Aw.srcSz
attribute [local go_sem ↓] Aw.look_nil Aw.look_ite Aw.wpL_nil Aw.wpL_op Aw.wpL_gd Aw.wpQ_nil Aw.wpQ_op Aw.wpQ_gd Aw.wpC_draw Aw.wpC_reg Aw.wpC_skip Aw.wpC_ret Aw.wpC_exit Aw.wpC_seq Aw.wpC_block Aw.wpC_loop Aw.wpC_cond Aw.stopAt_nil Aw.stopAt_cons Aw.wpD_skip Aw.wpD_ret Aw.wpD_exit Aw.wpD_region Aw.wpD_draw Aw.wpM_nil Aw.wpM_op Aw.wpM_gd Aw.wpD_seq Aw.wpD_block Aw.wpD_loop Aw.wpD_cond
def ren161 : Go.Shelf.Ren := ⟨fun f => if f = 119 then 104 else if f = 137 then 103 else if f = 151 then 98 else if f = 152 then 102 else if f = 161 then 85 else if f = 197 then 97 else if f = 217 then 92 else if f = 224 then 94 else if f = 225 then 93 else if f = 227 then 89 else if f = 228 then 96 else if f = 231 then 88 else if f = 233 then 90 else if f = 235 then 91 else if f = 260 then 101 else if f = 266 then 99 else f, fun t => if t = 0 then 0 else if t = 3 then 3 else if t = 4 then 4 else if t = 5 then 5 else if t = 9 then 9 else if t = 21 then 21 else if t = 46 then 118 else if t = 105 then 120 else if t = 116 then 111 else if t = 117 then 112 else if t = 119 then 126 else if t = 124 then 115 else if t = 138 then 128 else if t = 139 then 129 else t, fun g => if g = 1 then 0 else if g = 3 then 1 else if g = 4 then 2 else g⟩
set_option maxRecDepth 100000 in
theorem lays161 : Go.Proofs.Lays.n161 Tryd.prog ren161 := by
  constructor
  all_goals first
    | kernel_rfl
    | (intro w; rfl)
    | (intro w; exact Go.RowKit.run_isAgg_plain (by kernel_rfl) rfl)
def ren219 : Go.Shelf.Ren := ⟨fun f => if f = 217 then 92 else if f = 219 then 87 else if f = 224 then 94 else if f = 225 then 93 else if f = 266 then 99 else if f = 267 then 95 else if f = 314 then 100 else f, fun t => if t = 3 then 3 else if t = 4 then 4 else if t = 5 then 5 else if t = 9 then 9 else if t = 46 then 118 else if t = 51 then 99 else if t = 146 then 123 else t, fun g => if g = 1 then 0 else if g = 3 then 1 else if g = 4 then 2 else g⟩
set_option maxRecDepth 100000 in
theorem lays219 : Go.Proofs.Lays.n219 Tryd.prog ren219 := by
  constructor
  all_goals first
    | kernel_rfl
    | (intro w; rfl)
    | (intro w; exact Go.RowKit.run_isAgg_plain (by kernel_rfl) rfl)
theorem Spec.ofCalls {P : Program} {f : FuncId} {vs : List Value} {v : Value} (h : ∀ w, Calls P f vs.toArray w fun e w' => e = .returned v ∧ w' = w) : Aw.Spec P f [] (vs.map AV.val) (Gives (· = .val v)) := by
  intro w ρ ok vals hm hr
  have hv : vals = vs.toArray := by
    have : ∀ (vs : List Value) (xs : List Value), RList w ok ρ (vs.map AV.val) xs → xs = vs := by
      intro vs
      induction vs with
      | nil => intro xs hx; cases xs with
        | nil => rfl
        | cons => simp [RList] at hx
      | cons a vs ih => intro xs hx; cases xs with
        | nil => simp [RList] at hx
        | cons x xs =>
          simp only [List.map_cons, RList, R] at hx
          obtain ⟨y, ys, h1, h2, h3⟩ := hx
          injection h1 with h4 h5
          subst h4 h5 h2
          rw [ih _ h3]
    have h2 := this vs vals.toList hr
    cases vals; simp at h2; simp [h2]
  subst hv
  refine (h w).mono fun e w' he => ?_
  obtain ⟨rfl, rfl⟩ := he
  exact ⟨[], .val v, v, ρ, ok, rfl, ⟨rfl, rfl⟩, hm, by simp only [R], fun b hb => .inl hb, fun r p hr => .inr ⟨r, p, hr, rfl⟩, ⟨rfl, rfl, rfl, Nat.le_refl _, fun _ _ _ => rfl⟩, fun r e cs hr => by cases hr⟩
theorem s85 (s : ByteArray) (c : UInt8) (hc : c.toNat < 128) : Aw.Spec Tryd.prog 85 [] [S s, S ⟨#[c]⟩] (Gives (· = S ⟨(s.data.toList.dropWhile (· == c)).toArray⟩)) :=
  Spec.ofCalls (vs := [.string s, .string ⟨#[c]⟩]) fun w => Any.strings_TrimLeft_one lays161 s c hc w
theorem s87 (s : ByteArray) (c : UInt8) : Aw.Spec Tryd.prog 87 [] [S s, S ⟨#[c]⟩] (Gives (· = I (Lib.indexByte s.data.toList c))) :=
  Spec.ofCalls (vs := [.string s, .string ⟨#[c]⟩]) fun w => Any.stringslite_Index_one lays219 s c w
end Go.Proofs.YtjaakbkneeojnaaDoor
