/- Archives: arguments and the tables that a row lists. -/
import Derived.Test.YtemgclhenkbikaaDoorAwTb
import Derived.Test.YtemgclhenkbikaaDoorAwTd
import Derived.Test.YtemgclhenkbikaaDoorArB
import Derived.Test.YtemgclhenkbikaaDoorArC
import Derived.MakeChecks
import Derived.Lib.LaidTab
set_option linter.unusedVariables false
namespace Go.Proofs.YtemgclhenkbikaaDoor
open Go.Proofs.YtemgclhenkbikaaDoor.Aw
attribute [local go_sem] Int.natCast_zero Int.natCast_one bne_self_eq_false beq_self_eq_true Bool.not_true Bool.not_false Option.isSome_none Option.isSome_some Aw.bkM_nil Option.getD_some Option.getD_none Nat.sub_zero Int.toNat_zero Aw.frzS Aw.frzT Aw.frzA Aw.frzL Aw.frzR Aw.frzO Aw.frzOL Aw.frzOT Aw.frzOR Aw.killS Aw.mapT Aw.mapR Aw.killM Aw.resAVs Aw.resAV Aw.quietOps Aw.wpP Aw.wpT Aw.wpS Aw.AOp.mild List.getElem?_cons_zero List.getElem?_cons_succ Bool.and_false Bool.and_self Bool.false_and Aw.opOb Aw.gdB Aw.Rnd Aw.subTm List.length_map Int.toNat_natCast and_self Aw.SeqC Aw.stops Aw.Ends Aw.looks Aw.renA Aw.renL Aw.renT Aw.renS Aw.wpO Aw.aop Aw.putTm Aw.St.ev Aw.St.put Aw.St.putO Aw.binAV Aw.intBin Aw.strBin Aw.pickAV Aw.optInt Aw.AV.strip Aw.AV.guard Aw.AV.cells Aw.gdOb Aw.AOp.opds Aw.AOp.still Aw.ptrCells Aw.St.reg Aw.fillAV Aw.fillOb Aw.elsOb Aw.splice Aw.firm Aw.cellish Aw.AV.shut Aw.shutAll Aw.Seq Aw.Blk Aw.retS_nil Aw.mapA Aw.mapL Aw.borA Aw.borOb Aw.allOb Aw.tupOf Aw.params Aw.Opd.of Array.toList Value.cells List.map_cons List.map_nil List.getD_cons_zero List.getD_cons_succ List.getD_nil List.length_cons List.length_nil List.take_succ_cons List.take_zero List.take_nil List.drop_zero List.drop_succ_cons List.drop_nil List.set_cons_zero List.set_cons_succ List.append_nil List.nil_append List.cons_append List.all_cons List.all_nil cond_false cond_true if_true if_false true_and and_true Bool.and_true Bool.true_and Option.map_some Option.map_none false_implies forall_const implies_true forall_eq imp_self Bool.cond_false_right Bool.cond_true_left beq_true beq_false Bool.not_eq_true' Bool.false_eq_true Nat.zero_add Nat.add_zero Aw.eqCells Aw.stopDraw Aw.skipS Aw.exactCap Aw.revealS Aw.srcEls Aw.srcSz
attribute [local go_sem ↓] Aw.look_nil Aw.look_ite Aw.wpL_nil Aw.wpL_op Aw.wpL_gd Aw.wpQ_nil Aw.wpQ_op Aw.wpQ_gd Aw.wpC_draw Aw.wpC_reg Aw.wpC_skip Aw.wpC_ret Aw.wpC_exit Aw.wpC_seq Aw.wpC_block Aw.wpC_loop Aw.wpC_cond Aw.stopAt_nil Aw.stopAt_cons Aw.wpD_skip Aw.wpD_ret Aw.wpD_exit Aw.wpD_region Aw.wpD_draw Aw.wpM_nil Aw.wpM_op Aw.wpM_gd Aw.wpD_seq Aw.wpD_block Aw.wpD_loop Aw.wpD_cond
theorem oI : OpensVW Tryd.prog 3 (fun n : Int => I n) (fun n => (Lit.int .i64 n).wf = true) := OpensVW.of (OpensV.int Tryd.underlying3)
theorem int0 : OpensW Tryd.prog 3 (fun n : Int => [I n]) (fun n => (Lit.int .i64 n).wf = true) := OpensW.of (Opens.int Tryd.underlying3)
theorem str0 : OpensW Tryd.prog 9 (fun s : ByteArray => [S s]) (fun s => s.size ≤ 140737488351232) := OpensW.string Tryd.underlying9
theorem evO : OpensW Tryd.prog 30 ec EvW := by
  refine OpensW.map (c' := ec) (OpensW.struct Tryd.underlying30 (OpensFW.cons int0 (OpensFW.cons str0 (OpensFW.cons str0 (OpensFW.cons int0 OpensFW.nil)))) (by kernel_rfl) (by kernel_rfl))
    (fun p => (⟨p.1, p.2.1, p.2.2.1, p.2.2.2.1⟩ : Ev)) (fun _ => rfl) (fun p h => ⟨Nat.le_trans h.2.1 (by decide), Nat.le_trans h.2.2.1 (by decide)⟩)
theorem oEs : OpensVW Tryd.prog 22 (fun p : Bool × Bool × List Ev => .imm (some p.1) p.2.1 4 (p.2.2.map ec)) (fun p => p.2.2.length ≤ 9223372036854775807 ∧ p.2.2.length * 48 ≤ 140737488351232 ∧ ∀ c ∈ p.2.2, EvW c) :=
  OpensVW.slice Tryd.underlying22 (OpensW.slice 4 48 Tryd.underlying22 evO (by kernel_rfl) (by kernel_rfl) (by omega) (fun _ => rfl))
theorem oEv : OpensVW Tryd.prog 30 (fun x : Ev => ea x) EvW := OpensVW.struct Tryd.underlying30 evO
/-- The variable is an array of n integers of kind k. -/
def tabTy (P : Program) (g : Nat) (k : IntKind) (n : Nat) : Bool :=
  match (P.globals[g]?).map (·.type) with
  | some t => match P.underlying t with
    | some (.array m e) => (match P.underlying e with
      | some (.int k') => decide (k' = k) && decide (P.cellsOf e = 1) && decide (P.cellsOf t = m)
      | _ => false)
    | _ => false
  | none => false
theorem tab_of {P : Program} {W : World} {name : String} {k : IntKind} {zs : List Int} {g n : Nat} (hg : P.globalNamed name = some g) (ht : tabTy P g k n = true)
    {laid : List (String × DataW Unit)} {ps : List MemPlace} (h : DataW.LaidVars P W laid ps) (hm : (name, Lib.tabData k zs) ∈ laid) : ∃ t m, W.heap[g]? = some (.cells (zs.map fun z => Value.int k z).toArray t m) := by
  unfold tabTy at ht
  split at ht
  · rename_i t h1
    split at ht
    · rename_i m e h2
      split at ht
      · rename_i k' h3
        simp only [Bool.and_eq_true, decide_eq_true_eq] at ht
        obtain ⟨⟨rfl, h4⟩, h5⟩ := ht
        exact tab_block hg (laid_tab hg h1 h2 h3 h4 h5 h hm)
      · cases ht
    · cases ht
  · cases ht
theorem tabs {laid : List (String × DataW Unit)} {W : World} (h : laidMetH Tryd.prog laid W) (hp : (laid.all fun x => x.2.handleName?.isNone) = true)
    (m1 : ("internal/strconv.uint64pow10", Lib.tabData .u64 Lib.pow10Tab) ∈ laid) (m2 : ("math/bits.deBruijn64tab", Lib.tabData .u8 (Lib.deBruijn64tab.map Int.ofNat)) ∈ laid) : GOk [powT, debT] W := by
  rw [MakeChecks.laidMetH_plain _ _ _ hp] at h
  obtain ⟨ps, hl, _⟩ := h
  intro x hx
  simp only [List.mem_cons, List.not_mem_nil, or_false] at hx
  rcases hx with rfl | rfl
  · exact tab_of (g := 1) (n := 20) (by kernel_rfl) (by kernel_rfl) hl m1
  · have h := tab_of (g := 5) (n := 64) (by kernel_rfl) (by kernel_rfl) hl m2
    rw [List.map_map] at h
    exact h
end Go.Proofs.YtemgclhenkbikaaDoor
