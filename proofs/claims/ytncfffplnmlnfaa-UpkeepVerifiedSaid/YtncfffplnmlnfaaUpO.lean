/- Tasks as arguments: what reads as data is a task. -/
import Derived.Test.YtncfffplnmlnfaaAwT
import Derived.Test.YtncfffplnmlnfaaUpB
set_option linter.unusedVariables false
namespace Go.Proofs.Ytncfffplnmlnfaa
open Go.Proofs.Ytncfffplnmlnfaa.Aw
attribute [local go_sem] Int.natCast_zero Int.natCast_one bne_self_eq_false beq_self_eq_true Bool.not_true Bool.not_false Option.isSome_none Option.isSome_some Aw.bkM_nil Option.getD_some Option.getD_none Nat.sub_zero Int.toNat_zero Aw.frzS Aw.frzT Aw.frzA Aw.frzL Aw.frzR Aw.frzO Aw.frzOL Aw.frzOT Aw.frzOR Aw.killS Aw.mapT Aw.mapR Aw.killM Aw.resAVs Aw.resAV Aw.quietOps Aw.wpP Aw.wpT Aw.wpS Aw.AOp.mild List.getElem?_cons_zero List.getElem?_cons_succ Bool.and_false Bool.and_self Bool.false_and Aw.opOb Aw.gdB Aw.Rnd Aw.subTm List.length_map Int.toNat_natCast and_self Aw.SeqC Aw.stops Aw.Ends Aw.looks Aw.renA Aw.renL Aw.renT Aw.renS Aw.wpO Aw.aop Aw.putTm Aw.St.ev Aw.St.put Aw.St.putO Aw.binAV Aw.intBin Aw.strBin Aw.pickAV Aw.optInt Aw.AV.strip Aw.AV.guard Aw.AV.cells Aw.gdOb Aw.AOp.opds Aw.AOp.still Aw.ptrCells Aw.St.reg Aw.fillAV Aw.fillOb Aw.elsOb Aw.splice Aw.firm Aw.cellish Aw.AV.shut Aw.shutAll Aw.Seq Aw.Blk Aw.retS_nil Aw.mapA Aw.mapL Aw.borA Aw.borOb Aw.allOb Aw.tupOf Aw.params Aw.Opd.of Array.toList Value.cells List.map_cons List.map_nil List.getD_cons_zero List.getD_cons_succ List.getD_nil List.length_cons List.length_nil List.take_succ_cons List.take_zero List.take_nil List.drop_zero List.drop_succ_cons List.drop_nil List.set_cons_zero List.set_cons_succ List.append_nil List.nil_append List.cons_append List.all_cons List.all_nil cond_false cond_true if_true if_false true_and and_true Bool.and_true Bool.true_and Option.map_some Option.map_none false_implies forall_const implies_true forall_eq imp_self Bool.cond_false_right Bool.cond_true_left beq_true beq_false Bool.not_eq_true' Bool.false_eq_true Nat.zero_add Nat.add_zero Aw.eqCells Aw.exactCap Aw.overEls Aw.revealS Aw.srcEls Aw.srcSz
attribute [local go_sem ↓] Aw.look_nil Aw.look_ite Aw.wpL_nil Aw.wpL_op Aw.wpL_gd Aw.wpQ_nil Aw.wpQ_op Aw.wpQ_gd Aw.wpC_draw Aw.wpC_reg Aw.wpC_skip Aw.wpC_ret Aw.wpC_exit Aw.wpC_seq Aw.wpC_block Aw.wpC_loop Aw.wpC_cond Aw.stopAt_nil Aw.stopAt_cons Aw.wpD_skip Aw.wpD_ret Aw.wpD_exit Aw.wpD_region Aw.wpD_draw Aw.wpM_nil Aw.wpM_op Aw.wpM_gd Aw.wpD_seq Aw.wpD_block Aw.wpD_loop Aw.wpD_cond
theorem wf_i64 {n : Int} (h : (Lit.int .i64 n).wf = true) : -9223372036854775808 ≤ n ∧ n ≤ 9223372036854775807 := by
  simp only [Lit.wf, Bool.and_eq_true, decide_eq_true_eq] at h
  have h1 : IntKind.i64.min = -9223372036854775808 := by decide
  have h2 : IntKind.i64.max = 9223372036854775807 := by decide
  omega
theorem opens_ints2 {P : Program} {t e : TypeId} {k : IntKind} (ht : P.underlying t = some (.array 2 e)) (he : P.underlying e = some (.int k)) (hC : P.cellsOf e = 1) (hC2 : P.cellsOf t = 2) :
    Opens P t (fun p : Int × Int => [.val (.int k p.1), .val (.int k p.2)]) (fun _ => True) := fun H enc W base spare held fuel cs x h => by
  obtain ⟨xs, m, rfl, rfl, h1, h2, h3⟩ := DataW.trod_array ht h
  rw [hC2] at h1
  match cs, h1 with
  | [a, b], _ =>
    have e0 := h3 0 (by omega)
    have e1 := h3 1 (by omega)
    rw [hC] at e0 e1
    have g0 : xs[0]? = some xs[0] := List.getElem?_eq_getElem (by omega)
    have g1 : xs[1]? = some xs[1] := List.getElem?_eq_getElem (by omega)
    rw [g0] at e0; rw [g1] at e1
    obtain ⟨n, hn, _⟩ := DataW.trod_int he e0
    obtain ⟨n2, hn2, _⟩ := DataW.trod_int he e1
    simp at hn hn2
    subst hn hn2
    refine ⟨(n, n2), trivial, ?_⟩
    unfold RcList
    exact ⟨_, _, rfl, by unfold Rc; rfl, RcList_one _⟩
theorem int0 : Opens Try.prog 3 (fun n : Int => [I n]) (fun n => (Lit.int .i64 n).wf = true) := Opens.int Try.underlying3
theorem str0 : Opens Try.prog 9 sc (fun s => s.size ≤ 9223372036854775807) := Opens.string Try.underlying9
theorem ints0 : Opens Try.prog 27 (fun p : Bool × Bool × List Int => [.imm (some p.1) p.2.1 1 (p.2.2.map fun n => [I n])]) (fun p => p.2.2.length ≤ 9223372036854775807 ∧ ∀ a ∈ p.2.2, (Lit.int .i64 a).wf = true) :=
  Opens.slice 1 Try.underlying27 int0 (by kernel_rfl) (by omega) (fun _ => rfl)
theorem pair0 : Opens Try.prog 44 pc (fun _ => True) := opens_ints2 Try.underlying44 Try.underlying3 (by kernel_rfl) (by kernel_rfl)
theorem pairs0 : Opens Try.prog 23 (fun p : Bool × Bool × List (Int × Int) => [.imm (some p.1) p.2.1 2 (p.2.2.map pc)]) (fun p => p.2.2.length ≤ 9223372036854775807 ∧ ∀ a ∈ p.2.2, True) :=
  Opens.slice 2 Try.underlying23 pair0 (by kernel_rfl) (by omega) (fun _ => rfl)
theorem job0 : Opens Try.prog 38 jc (fun j => j.name.size ≤ 9223372036854775807) := by
  refine Opens.map (c' := jc) (Opens.struct Try.underlying38 (OpensF.cons str0 (OpensF.cons int0 (OpensF.cons int0 (OpensF.cons int0 (OpensF.cons int0 OpensF.nil))))) (by kernel_rfl) (by kernel_rfl))
    (fun p => (⟨p.1, p.2.1, p.2.2.1, p.2.2.2.1, p.2.2.2.2.1⟩ : Job)) (fun _ => rfl) (fun p h => h.1)
theorem jobs0 : Opens Try.prog 22 (fun p : Bool × Bool × List Job => [.imm (some p.1) p.2.1 5 (p.2.2.map jc)]) (fun p => p.2.2.length ≤ 9223372036854775807 ∧ ∀ j ∈ p.2.2, j.name.size ≤ 9223372036854775807) :=
  Opens.slice 5 Try.underlying22 job0 (by kernel_rfl) (by omega) (fun _ => rfl)
theorem task0 : Opens Try.prog 25 tc (fun t => (t.jobs.length ≤ 9223372036854775807 ∧ ∀ j ∈ t.jobs, j.name.size ≤ 9223372036854775807) ∧ t.apart.length ≤ 9223372036854775807 ∧ (Lit.int .i64 t.crews).wf = true) := by
  refine Opens.map (c' := tc) (Opens.struct Try.underlying25 (OpensF.cons jobs0 (OpensF.cons pairs0 (OpensF.cons int0 OpensF.nil))) (by kernel_rfl) (by kernel_rfl))
    (fun p => (⟨some p.1.1, p.1.2.1, p.1.2.2, some p.2.1.1, p.2.1.2.1, p.2.1.2.2, p.2.2.1⟩ : Task)) (fun _ => rfl) (fun p h => ⟨h.1, h.2.1.1, h.2.2.1⟩)
theorem oT : OpensV Try.prog 25 (fun t : Task => ta t) (fun t => (t.jobs.length ≤ 9223372036854775807 ∧ ∀ j ∈ t.jobs, j.name.size ≤ 9223372036854775807) ∧ t.apart.length ≤ 9223372036854775807 ∧ (Lit.int .i64 t.crews).wf = true) := OpensV.struct Try.underlying25 task0
theorem oIs : OpensV Try.prog 27 (fun p : Bool × Bool × List Int => .imm (some p.1) p.2.1 1 (p.2.2.map fun n => [I n])) (fun p => p.2.2.length ≤ 9223372036854775807 ∧ ∀ a ∈ p.2.2, (Lit.int .i64 a).wf = true) := OpensV.slice Try.underlying27 ints0
end Go.Proofs.Ytncfffplnmlnfaa
