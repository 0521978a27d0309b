/- strings.Split at a separator of one byte. -/
import Derived.Test.YtocghkacngoblaaDoorAwZl
import Derived.Test.YtocghkacngoblaaDoorLibA
import Derived.Shelf.Strings.Split
import Derived.Test.YtocghkacngoblaaDoorAwT
set_option linter.unusedVariables false
set_option linter.unusedSimpArgs false
namespace Go.Proofs.YtocghkacngoblaaDoor
open Go.Proofs.YtocghkacngoblaaDoor.Aw
attribute [local go_sem] Int.natCast_zero Int.natCast_one bne_self_eq_false beq_self_eq_true Bool.not_true Bool.not_false Option.isSome_none Option.isSome_some Aw.bkM_nil Option.getD_some Option.getD_none Nat.sub_zero Int.toNat_zero Aw.frzS Aw.frzT Aw.frzA Aw.frzL Aw.frzR Aw.frzO Aw.frzOL Aw.frzOT Aw.frzOR Aw.killS Aw.mapT Aw.mapR Aw.killM Aw.resAVs Aw.resAV Aw.quietOps Aw.wpP Aw.wpT Aw.wpS Aw.AOp.mild List.getElem?_cons_zero List.getElem?_cons_succ Bool.and_false Bool.and_self Bool.false_and Aw.opOb Aw.gdB Aw.Rnd Aw.subTm List.length_map Int.toNat_natCast and_self Aw.SeqC Aw.stops Aw.Ends Aw.looks Aw.renA Aw.renL Aw.renT Aw.renS Aw.wpO Aw.aop Aw.putTm Aw.St.ev Aw.St.put Aw.St.putO Aw.binAV Aw.intBin Aw.strBin Aw.pickAV Aw.optInt Aw.AV.strip Aw.AV.guard Aw.AV.cells Aw.gdOb Aw.AOp.opds Aw.AOp.still Aw.ptrCells Aw.St.reg Aw.fillAV Aw.fillOb Aw.elsOb Aw.splice Aw.firm Aw.cellish Aw.AV.shut Aw.shutAll Aw.Seq Aw.Blk Aw.retS_nil Aw.mapA Aw.mapL Aw.borA Aw.borOb Aw.allOb Aw.tupOf Aw.params Aw.Opd.of Array.toList Value.cells List.map_cons List.map_nil List.getD_cons_zero List.getD_cons_succ List.getD_nil List.length_cons List.length_nil List.take_succ_cons List.take_zero List.take_nil List.drop_zero List.drop_succ_cons List.drop_nil List.set_cons_zero List.set_cons_succ List.append_nil List.nil_append List.cons_append List.all_cons List.all_nil cond_false cond_true if_true if_false true_and and_true Bool.and_true Bool.true_and Option.map_some Option.map_none false_implies forall_const implies_true forall_eq imp_self Bool.cond_false_right Bool.cond_true_left beq_true beq_false Bool.not_eq_true' Bool.false_eq_true Nat.zero_add Nat.add_zero Aw.eqCells Aw.stopDraw Aw.skipS Aw.exactCap Aw.revealS Aw.srcEls Aw.srcSz
attribute [local go_sem ↓] Aw.look_nil Aw.look_ite Aw.wpL_nil Aw.wpL_op Aw.wpL_gd Aw.wpQ_nil Aw.wpQ_op Aw.wpQ_gd Aw.wpC_draw Aw.wpC_reg Aw.wpC_skip Aw.wpC_ret Aw.wpC_exit Aw.wpC_seq Aw.wpC_block Aw.wpC_loop Aw.wpC_cond Aw.stopAt_nil Aw.stopAt_cons Aw.wpD_skip Aw.wpD_ret Aw.wpD_exit Aw.wpD_region Aw.wpD_draw Aw.wpM_nil Aw.wpM_op Aw.wpM_gd Aw.wpD_seq Aw.wpD_block Aw.wpD_loop Aw.wpD_cond
def ren146 : Go.Shelf.Ren := ⟨fun f => if f = 138 then 47 else if f = 143 then 48 else if f = 146 then 29 else if f = 195 then 52 else if f = 197 then 53 else if f = 217 then 58 else if f = 218 then 54 else if f = 219 then 55 else if f = 221 then 42 else if f = 224 then 60 else if f = 225 then 59 else if f = 260 then 57 else if f = 266 then 62 else if f = 267 then 61 else if f = 268 then 46 else if f = 314 then 63 else f, fun t => if t = 0 then 0 else if t = 3 then 3 else if t = 4 then 4 else if t = 5 then 5 else if t = 9 then 9 else if t = 21 then 21 else if t = 31 then 72 else if t = 46 then 103 else if t = 51 then 108 else if t = 105 then 100 else if t = 119 then 104 else if t = 138 then 106 else if t = 139 then 107 else if t = 146 then 109 else t, fun g => if g = 1 then 0 else if g = 3 then 1 else if g = 4 then 2 else g⟩
set_option maxRecDepth 100000 in
theorem lays146 : Go.Proofs.Lays.n146 Tryd.prog ren146 := by
  constructor
  all_goals first
    | kernel_rfl
    | (intro w; rfl)
    | (intro w; exact Go.RowKit.run_isAgg_plain (by kernel_rfl) rfl)
end Go.Proofs.YtocghkacngoblaaDoor
namespace Go.Proofs.YtocghkacngoblaaDoor.Spl
open Go.Shelf Go.RowKit Go.Lib
set_option maxHeartbeats 1000000 in
/-- strings.Split at a separator of one byte: no variable is read. -/
theorem split_one {P : Program} {ρ : Ren} (L : Lays.n146 P ρ) (hi9 : (P.info? (ρ.t 9)).map (fun i => (i.zero, i.size, i.bytes)) = some (some (.string ByteArray.empty), 1, 16)) (s : ByteArray) (b : UInt8) (w : World) (hs : s.size < 4294967281) :
    Calls P (ρ.f 146) #[.string s, .string ⟨#[b]⟩] w fun e w' =>
      e = .returned (.slice (some ⟨w.heap.size, 0, none⟩) (Lib.countB s ⟨#[b]⟩ + 1) (Lib.countB s ⟨#[b]⟩ + 1)) ∧ w' = w.alloc (.cells ((Lib.splitB ⟨#[b]⟩ 0 (Lib.countB s ⟨#[b]⟩) s).map Value.string).toArray (ρ.t 9)) := by
  have h1 : 1 ≤ (⟨#[b]⟩ : ByteArray).size := Nat.le_refl 1
  have hle := Lib.countB_le ⟨#[b]⟩ h1 s.size s (Nat.le_refl _)
  have hlen := Lib.splitB_all ⟨#[b]⟩ h1 0 _ s rfl
  have hI : ∀ (x : ByteArray) (cs : Array Value), x.size ≤ s.size → Calls P (ρ.f 143) #[.string x, .string ⟨#[b]⟩] (w.alloc (.cells cs (ρ.t 9))) fun e w' => e = .returned (.int .i64 (Lib.indexB x ⟨#[b]⟩)) ∧ w' = w.alloc (.cells cs (ρ.t 9)) := fun x cs _ => by
    refine (Any.strings_Index_one { L with } x b _).mono fun e w' ⟨he, hw⟩ => ⟨?_, hw⟩
    rw [he]
    show _ = Ending.returned (Value.int .i64 (Lib.index x.data.toList [b]))
    rw [Lib.index_one]
  have hC : Calls P (ρ.f 138) #[.string s, .string ⟨#[b]⟩] w fun e w' => e = .returned (.int .i64 (Lib.countB s ⟨#[b]⟩)) ∧ w' = w := by
    refine (Any.strings_Count_one { L with } s b w).mono fun e w' ⟨he, hw⟩ => ⟨?_, hw⟩
    rw [he]
    show _ = Ending.returned (Value.int .i64 ((Lib.count s.data.toList [b] : Nat) : Int))
    rw [Lib.count_one]
    rfl
  have c := Any.strings_genSplit_core { L with } hi9 s ⟨#[b]⟩ 0 (-1) (Lib.countB s ⟨#[b]⟩ + 1) w hs h1 (Nat.zero_le _) hI hC (by decide) (by decide) (by rw [if_pos (by decide)]; omega)
  rw [Nat.add_sub_cancel, hlen] at c
  have e2 : Lib.cellsOf (Lib.splitB ⟨#[b]⟩ 0 (Lib.countB s ⟨#[b]⟩) s) (Lib.countB s ⟨#[b]⟩ + 1) = ((Lib.splitB ⟨#[b]⟩ 0 (Lib.countB s ⟨#[b]⟩) s).map Value.string).toArray := by rw [← hlen]; exact Lib.cellsOf_full _
  rw [e2] at c
  have t3 := L.t3; have t9 := L.t9; have t31 := L.t31
  have a3 := L.a3; have a9 := L.a9; have a31 := L.a31
  have z3 := L.z3; have v3 := L.v3; have z9 := L.z9; have v9 := L.v9; have z31 := L.z31; have v31 := L.v31
  have e221 : ∀ args w, (callFunc (ρ.f 221) args).run P w = .ok (.enter (ρ.f 221) args) w := enters_of L.f221 (by kernel_rfl) rfl
  go_enter L.f146, Body.n146_ntmps ρ
  go_wp2_with (go_at_fn (ρ.f 221); refine c.mono ?_; rintro e w' ⟨rfl, hw⟩; rw [hw])
  go_ret
  exact ⟨rfl, rfl⟩
end Go.Proofs.YtocghkacngoblaaDoor.Spl
namespace Go.Proofs.YtocghkacngoblaaDoor
open Go.Proofs.YtocghkacngoblaaDoor.Aw
/-- What a text is split into. -/
def splitS (s : ByteArray) (b : UInt8) : List ByteArray := Lib.splitB ⟨#[b]⟩ 0 (Lib.countB s ⟨#[b]⟩) s
theorem rlist_vals {w : World} {ok : Nat → Prop} {ρ : Nat → Option (Option Aw.Place)} : ∀ (vs xs : List Value), RList w ok ρ (vs.map AV.val) xs → xs = vs
  | [], [], _ => rfl
  | [], x :: xs, h => by simp [RList] at h
  | a :: vs, [], h => by simp [RList] at h
  | a :: vs, x :: xs, h => by
    simp only [List.map_cons, RList, R] at h
    obtain ⟨y, ys, h1, h2, h3⟩ := h
    injection h1 with h4 h5
    subst h4 h5 h2
    rw [rlist_vals vs _ h3]
/-- A function that returns a new array of texts. -/
theorem Spec.ofTexts {P : Program} {f : FuncId} {vs : List Value} {l : List ByteArray} {e : TypeId} (h : ∀ w, Calls P f vs.toArray w fun e' w' => e' = .returned (.slice (some ⟨w.heap.size, 0, none⟩) l.length l.length) ∧ w' = w.alloc (.cells (l.map Value.string).toArray e)) :
    Aw.Spec P f [] (vs.map AV.val) (fun rg v => rg = [] ∧ v = .imm none true 1 (l.map sc)) := by
  intro w ρ ok vals hm hr
  have hv : vals = vs.toArray := by
    have h2 := rlist_vals vs vals.toList hr
    cases vals; simp at h2; simp [h2]
  subst hv
  refine (h w).mono fun e' w' he => ?_
  obtain ⟨rfl, rfl⟩ := he
  have hsz : (w.alloc (.cells (l.map Value.string).toArray e)).heap.size = w.heap.size + 1 := by show (w.heap.push _).size = _; simp
  refine ⟨[], .imm none true 1 (l.map sc), _, ρ, fun b => ok b ∨ b = w.heap.size, rfl, ⟨rfl, rfl⟩, ⟨fun b hb => ?_, hm.inj, fun r p hp => ?_, fun r g hg => by simp at hg, hm.out⟩, ?_, fun b hb => ?_, fun r p hr => .inr ⟨r, p, hr, rfl⟩, ?_, fun r e cs hr => by cases hr⟩
  · rw [hsz]
    rcases hb with hb | rfl
    · have := hm.okl b hb; omega
    · omega
  · have := hm.out r (Nat.zero_le _)
    rw [this] at hp; cases hp
  · unfold R Rc
    refine ⟨some ⟨w.heap.size, 0, none⟩, l.length, (by simp), (by simp), (fun q hq => by cases hq), (fun hA => by cases hA), (fun _ => by simp), fun a ha _ => ?_⟩
    injection ha with ha
    subst ha
    refine ⟨rfl, .inr rfl, els_of fun i a hia => ⟨rfl, ?_⟩⟩
    unfold RcCells
    refine ⟨⟨.string a, ?_, by unfold Rc; rfl⟩, by unfold RcCells; trivial⟩
    rw [World.cell?_alloc_new]
    simp [hia]
  · rcases hb with hb | rfl
    · exact .inl hb
    · exact .inr (.inl (Nat.le_refl _))
  · have hx := Ext.push w (.cells (l.map Value.string).toArray e)
    exact ⟨hx.os, hx.tape, hx.output, hx.size, fun k hk _ => hx.block k hk⟩
theorem s29 (s : ByteArray) (b : UInt8) (hs : s.size < 4294967281) : Aw.Spec Tryd.prog 29 [] [S s, S ⟨#[b]⟩] (fun rg v => rg = [] ∧ v = .imm none true 1 ((splitS s b).map sc)) := by
  have hlen : (splitS s b).length = Lib.countB s ⟨#[b]⟩ + 1 := Lib.splitB_all ⟨#[b]⟩ (Nat.le_refl 1) 0 _ s rfl
  exact Spec.ofTexts (vs := [.string s, .string ⟨#[b]⟩]) (e := 9) fun w => by
    rw [hlen]
    exact Spl.split_one lays146 (by kernel_rfl) s b w hs
end Go.Proofs.YtocghkacngoblaaDoor
