/- Archives: the tables and the errors that a row lists. -/
import Derived.Test.YtemgclhenkbikaaDoorArO
import Derived.Test.YtemgclhenkbikaaDoorArL
set_option linter.unusedVariables false
namespace Go.Proofs.YtemgclhenkbikaaDoor
open Go.Proofs.YtemgclhenkbikaaDoor.Aw
attribute [local go_sem] Int.natCast_zero Int.natCast_one bne_self_eq_false beq_self_eq_true Bool.not_true Bool.not_false Option.isSome_none Option.isSome_some Aw.bkM_nil Option.getD_some Option.getD_none Nat.sub_zero Int.toNat_zero Aw.frzS Aw.frzT Aw.frzA Aw.frzL Aw.frzR Aw.frzO Aw.frzOL Aw.frzOT Aw.frzOR Aw.killS Aw.mapT Aw.mapR Aw.killM Aw.resAVs Aw.resAV Aw.quietOps Aw.wpP Aw.wpT Aw.wpS Aw.AOp.mild List.getElem?_cons_zero List.getElem?_cons_succ Bool.and_false Bool.and_self Bool.false_and Aw.opOb Aw.gdB Aw.Rnd Aw.subTm List.length_map Int.toNat_natCast and_self Aw.SeqC Aw.stops Aw.Ends Aw.looks Aw.renA Aw.renL Aw.renT Aw.renS Aw.wpO Aw.aop Aw.putTm Aw.St.ev Aw.St.put Aw.St.putO Aw.binAV Aw.intBin Aw.strBin Aw.pickAV Aw.optInt Aw.AV.strip Aw.AV.guard Aw.AV.cells Aw.gdOb Aw.AOp.opds Aw.AOp.still Aw.ptrCells Aw.St.reg Aw.fillAV Aw.fillOb Aw.elsOb Aw.splice Aw.firm Aw.cellish Aw.AV.shut Aw.shutAll Aw.Seq Aw.Blk Aw.retS_nil Aw.mapA Aw.mapL Aw.borA Aw.borOb Aw.allOb Aw.tupOf Aw.params Aw.Opd.of Array.toList Value.cells List.map_cons List.map_nil List.getD_cons_zero List.getD_cons_succ List.getD_nil List.length_cons List.length_nil List.take_succ_cons List.take_zero List.take_nil List.drop_zero List.drop_succ_cons List.drop_nil List.set_cons_zero List.set_cons_succ List.append_nil List.nil_append List.cons_append List.all_cons List.all_nil cond_false cond_true if_true if_false true_and and_true Bool.and_true Bool.true_and Option.map_some Option.map_none false_implies forall_const implies_true forall_eq imp_self Bool.cond_false_right Bool.cond_true_left beq_true beq_false Bool.not_eq_true' Bool.false_eq_true Nat.zero_add Nat.add_zero Aw.eqCells Aw.stopDraw Aw.skipS Aw.exactCap Aw.revealS Aw.srcEls Aw.srcSz
attribute [local go_sem ↓] Aw.look_nil Aw.look_ite Aw.wpL_nil Aw.wpL_op Aw.wpL_gd Aw.wpQ_nil Aw.wpQ_op Aw.wpQ_gd Aw.wpC_draw Aw.wpC_reg Aw.wpC_skip Aw.wpC_ret Aw.wpC_exit Aw.wpC_seq Aw.wpC_block Aw.wpC_loop Aw.wpC_cond Aw.stopAt_nil Aw.stopAt_cons Aw.wpD_skip Aw.wpD_ret Aw.wpD_exit Aw.wpD_region Aw.wpD_draw Aw.wpM_nil Aw.wpM_op Aw.wpM_gd Aw.wpD_seq Aw.wpD_block Aw.wpD_loop Aw.wpD_cond
/-- The variable is of an interface's type. -/
def ifTy (P : Program) (g : Nat) : Bool :=
  match (P.globals[g]?).map (·.type) with
  | some t => match P.underlying t with
    | some (.interface _) => true
    | _ => false
  | none => false
theorem trod_if {P : Program} {w : World} {t : TypeId} {ms : Array (String × TypeId)} {fuel : Nat} {cs : List Value} {r : DataW Unit × List MemPlace} (ht : P.underlying t = some (.interface ms))
    (h : DataW.trod (fun _ => ()) P w 0 (fun _ => true) false fuel t cs = some r) : ∃ v, cs = [v] ∧ (v = .nilIface ∨ ∃ u x, v = .iface u x) := by
  cases fuel with
  | zero => simp [DataW.trod] at h
  | succ fuel =>
    rw [DataW.trod.eq_def] at h
    simp only [ht] at h
    split at h <;> first | (cases h; done) | skip
    all_goals first
      | exact ⟨_, rfl, .inl rfl⟩
      | exact ⟨_, rfl, .inr ⟨_, _, rfl⟩⟩
      | simp_all
theorem err_of {P : Program} {W : World} {name : String} {d : DataW Unit} {g : Nat} (hg : P.globalNamed name = some g) (ht : ifTy P g = true) :
    ∀ {laid : List (String × DataW Unit)} {ps : List MemPlace}, DataW.LaidVars P W laid ps → (name, d) ∈ laid → ∃ v, (v = .nilIface ∨ ∃ u x, v = .iface u x) ∧ ∃ t m, W.heap[g]? = some (.cells #[v] t m)
  | [], _, _, hm => by cases hm
  | (n', d') :: r, ps, h, hm => by
    obtain ⟨g', t', cs, fuel, p, q, hg', ht', hvar, hd, hr, _⟩ := h
    rcases List.mem_cons.1 hm with heq | hm
    · obtain ⟨rfl, rfl⟩ := Prod.mk.inj heq
      obtain rfl := Option.some.inj (hg.symm.trans hg')
      unfold ifTy at ht
      rw [ht'] at ht
      dsimp only at ht
      split at ht
      · rename_i ms hu
        obtain ⟨v, hv, hc⟩ := trod_if hu hd
        refine ⟨v, hc, ?_⟩
        have : cs = #[v] := by cases cs; simp at hv; simp [hv]
        rw [← this]
        exact tab_block hg hvar
      · cases ht
    · exact err_of hg ht hr hm
theorem tabs4 {laid : List (String × DataW Unit)} {W : World} {d1 d2 : DataW Unit} (h : laidMetH Tryd.prog laid W) (hp : (laid.all fun x => x.2.handleName?.isNone) = true)
    (m1 : ("internal/strconv.uint64pow10", Lib.tabData .u64 Lib.pow10Tab) ∈ laid) (m2 : ("math/bits.deBruijn64tab", Lib.tabData .u8 (Lib.deBruijn64tab.map Int.ofNat)) ∈ laid)
    (m3 : ("strconv.ErrSyntax", d1) ∈ laid) (m4 : ("strconv.ErrRange", d2) ∈ laid) : ∃ e1 e2, GOk [powT, debT, errT 2 e1, errT 3 e2] W ∧ Errs [powT, debT, errT 2 e1, errT 3 e2] e1 e2 := by
  have h0 := tabs h hp m1 m2
  rw [MakeChecks.laidMetH_plain _ _ _ hp] at h
  obtain ⟨ps, hl, _⟩ := h
  obtain ⟨e1, k1, c1⟩ := err_of (g := 2) (by kernel_rfl) (by kernel_rfl) hl m3
  obtain ⟨e2, k2, c2⟩ := err_of (g := 3) (by kernel_rfl) (by kernel_rfl) hl m4
  refine ⟨e1, e2, fun x hx => ?_, ⟨by simp, by simp, k1, k2⟩⟩
  simp only [List.mem_cons, List.not_mem_nil, or_false] at hx
  rcases hx with rfl | rfl | rfl | rfl
  · exact h0 _ (by simp)
  · exact h0 _ (by simp)
  · exact c1
  · exact c2
end Go.Proofs.YtemgclhenkbikaaDoor
