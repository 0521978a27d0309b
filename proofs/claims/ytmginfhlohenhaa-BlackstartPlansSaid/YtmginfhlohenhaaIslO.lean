/- Networks as arguments. -/
import Derived.Test.YtmginfhlohenhaaAwT
import Derived.Test.YtmginfhlohenhaaNetA
set_option linter.unusedVariables false
namespace Go.Proofs.Ytmginfhlohenhaa
open Go.Proofs.Ytmginfhlohenhaa.Aw
attribute [local go_sem] Int.natCast_zero Int.natCast_one bne_self_eq_false beq_self_eq_true Bool.not_true Bool.not_false Option.isSome_none Option.isSome_some Aw.bkM_nil Option.getD_some Option.getD_none Nat.sub_zero Int.toNat_zero Aw.frzS Aw.frzT Aw.frzA Aw.frzL Aw.frzR Aw.frzO Aw.frzOL Aw.frzOT Aw.frzOR Aw.killS Aw.mapT Aw.mapR Aw.killM Aw.resAVs Aw.resAV Aw.quietOps Aw.wpP Aw.wpT Aw.wpS Aw.AOp.mild List.getElem?_cons_zero List.getElem?_cons_succ Bool.and_false Bool.and_self Bool.false_and Aw.opOb Aw.gdB Aw.Rnd Aw.subTm List.length_map Int.toNat_natCast and_self Aw.SeqC Aw.stops Aw.Ends Aw.looks Aw.renA Aw.renL Aw.renT Aw.renS Aw.wpO Aw.aop Aw.putTm Aw.St.ev Aw.St.put Aw.St.putO Aw.binAV Aw.intBin Aw.strBin Aw.pickAV Aw.optInt Aw.AV.strip Aw.AV.guard Aw.AV.cells Aw.gdOb Aw.AOp.opds Aw.AOp.still Aw.ptrCells Aw.St.reg Aw.fillAV Aw.fillOb Aw.elsOb Aw.splice Aw.firm Aw.cellish Aw.AV.shut Aw.shutAll Aw.Seq Aw.Blk Aw.retS_nil Aw.mapA Aw.mapL Aw.borA Aw.borOb Aw.allOb Aw.tupOf Aw.params Aw.Opd.of Array.toList Value.cells List.map_cons List.map_nil List.getD_cons_zero List.getD_cons_succ List.getD_nil List.length_cons List.length_nil List.take_succ_cons List.take_zero List.take_nil List.drop_zero List.drop_succ_cons List.drop_nil List.set_cons_zero List.set_cons_succ List.append_nil List.nil_append List.cons_append List.all_cons List.all_nil cond_false cond_true if_true if_false true_and and_true Bool.and_true Bool.true_and Option.map_some Option.map_none false_implies forall_const implies_true forall_eq imp_self Bool.cond_false_right Bool.cond_true_left beq_true beq_false Bool.not_eq_true' Bool.false_eq_true Nat.zero_add Nat.add_zero Aw.eqCells Aw.stopDraw Aw.skipS Aw.exactCap Aw.revealS Aw.srcEls Aw.srcSz
attribute [local go_sem ↓] Aw.look_nil Aw.look_ite Aw.wpL_nil Aw.wpL_op Aw.wpL_gd Aw.wpQ_nil Aw.wpQ_op Aw.wpQ_gd Aw.wpC_draw Aw.wpC_reg Aw.wpC_skip Aw.wpC_ret Aw.wpC_exit Aw.wpC_seq Aw.wpC_block Aw.wpC_loop Aw.wpC_cond Aw.stopAt_nil Aw.stopAt_cons Aw.wpD_skip Aw.wpD_ret Aw.wpD_exit Aw.wpD_region Aw.wpD_draw Aw.wpM_nil Aw.wpM_op Aw.wpM_gd Aw.wpD_seq Aw.wpD_block Aw.wpD_loop Aw.wpD_cond
theorem wf_i64 {n : Int} (h : (Lit.int .i64 n).wf = true) : -9223372036854775808 ≤ n ∧ n ≤ 9223372036854775807 := by
  simp only [Lit.wf, Bool.and_eq_true, decide_eq_true_eq] at h
  have h1 : IntKind.i64.min = -9223372036854775808 := by decide
  have h2 : IntKind.i64.max = 9223372036854775807 := by decide
  omega
theorem oI : OpensV Try.prog 3 (fun n : Int => I n) (fun n => (Lit.int .i64 n).wf = true) := OpensV.int Try.underlying3
theorem int0 : Opens Try.prog 3 (fun n : Int => [I n]) (fun n => (Lit.int .i64 n).wf = true) := Opens.int Try.underlying3
theorem bool0 : Opens Try.prog 4 (fun b : Bool => [B b]) (fun _ => True) := Opens.bool Try.underlying4
theorem str0 : Opens Try.prog 9 sc (fun s => s.size ≤ 9223372036854775807) := Opens.string Try.underlying9
theorem strs0 : Opens Try.prog 22 (fun p : Bool × Bool × List ByteArray => [.imm (some p.1) p.2.1 1 (p.2.2.map sc)]) (fun p => p.2.2.length ≤ 9223372036854775807 ∧ ∀ a ∈ p.2.2, a.size ≤ 9223372036854775807) :=
  Opens.slice 1 Try.underlying22 str0 (by kernel_rfl) (by omega) (fun _ => rfl)
theorem sw0 : Opens Try.prog 66 swc (fun x => x.name.size ≤ 9223372036854775807) := by
  refine Opens.map (c' := swc) (Opens.struct Try.underlying66 (OpensF.cons str0 (OpensF.cons str0 (OpensF.cons str0 (OpensF.cons bool0 (OpensF.cons bool0 OpensF.nil))))) (by kernel_rfl) (by kernel_rfl))
    (fun p => (⟨p.1, p.2.1, p.2.2.1, p.2.2.2.1, p.2.2.2.2.1⟩ : Swi)) (fun _ => rfl) (fun p h => h.1)
theorem sws0 : Opens Try.prog 23 (fun p : Bool × Bool × List Swi => [.imm (some p.1) p.2.1 5 (p.2.2.map swc)]) (fun p => p.2.2.length ≤ 9223372036854775807 ∧ ∀ x ∈ p.2.2, x.name.size ≤ 9223372036854775807) :=
  Opens.slice 5 Try.underlying23 sw0 (by kernel_rfl) (by omega) (fun _ => rfl)
theorem br0 : Opens Try.prog 70 brc (fun x => x.name.size ≤ 9223372036854775807) := by
  refine Opens.map (c' := brc) (Opens.struct Try.underlying70 (OpensF.cons str0 (OpensF.cons str0 (OpensF.cons str0 (OpensF.cons int0 (OpensF.cons int0 (OpensF.cons int0 (OpensF.cons int0 (OpensF.cons int0 (OpensF.cons int0 OpensF.nil))))))))) (by kernel_rfl) (by kernel_rfl))
    (fun p => (⟨p.1, p.2.1, p.2.2.1, p.2.2.2.1, p.2.2.2.2.1, p.2.2.2.2.2.1, p.2.2.2.2.2.2.1, p.2.2.2.2.2.2.2.1, p.2.2.2.2.2.2.2.2.1⟩ : Bra)) (fun _ => rfl) (fun p h => h.1)
theorem brs0 : Opens Try.prog 24 (fun p : Bool × Bool × List Bra => [.imm (some p.1) p.2.1 9 (p.2.2.map brc)]) (fun p => p.2.2.length ≤ 9223372036854775807 ∧ ∀ x ∈ p.2.2, x.name.size ≤ 9223372036854775807) :=
  Opens.slice 9 Try.underlying24 br0 (by kernel_rfl) (by omega) (fun _ => rfl)
theorem ge0 : Opens Try.prog 55 gec (fun x => x.name.size ≤ 9223372036854775807) := by
  refine Opens.map (c' := gec) (Opens.struct Try.underlying55 (OpensF.cons str0 (OpensF.cons str0 (OpensF.cons int0 (OpensF.cons int0 (OpensF.cons int0 OpensF.nil))))) (by kernel_rfl) (by kernel_rfl))
    (fun p => (⟨p.1, p.2.1, p.2.2.1, p.2.2.2.1, p.2.2.2.2.1⟩ : Gen)) (fun _ => rfl) (fun p h => h.1)
theorem ges0 : Opens Try.prog 25 (fun p : Bool × Bool × List Gen => [.imm (some p.1) p.2.1 5 (p.2.2.map gec)]) (fun p => p.2.2.length ≤ 9223372036854775807 ∧ ∀ x ∈ p.2.2, x.name.size ≤ 9223372036854775807) :=
  Opens.slice 5 Try.underlying25 ge0 (by kernel_rfl) (by omega) (fun _ => rfl)
theorem lo0 : Opens Try.prog 92 loc (fun x => x.name.size ≤ 9223372036854775807) := by
  refine Opens.map (c' := loc) (Opens.struct Try.underlying92 (OpensF.cons str0 (OpensF.cons str0 (OpensF.cons int0 OpensF.nil))) (by kernel_rfl) (by kernel_rfl))
    (fun p => (⟨p.1, p.2.1, p.2.2.1⟩ : Loa)) (fun _ => rfl) (fun p h => h.1)
theorem los0 : Opens Try.prog 26 (fun p : Bool × Bool × List Loa => [.imm (some p.1) p.2.1 3 (p.2.2.map loc)]) (fun p => p.2.2.length ≤ 9223372036854775807 ∧ ∀ x ∈ p.2.2, x.name.size ≤ 9223372036854775807) :=
  Opens.slice 3 Try.underlying26 lo0 (by kernel_rfl) (by omega) (fun _ => rfl)
theorem st0 : Opens Try.prog 94 stoc (fun x => x.name.size ≤ 9223372036854775807) := by
  refine Opens.map (c' := stoc) (Opens.struct Try.underlying94 (OpensF.cons str0 (OpensF.cons str0 (OpensF.cons int0 (OpensF.cons int0 (OpensF.cons int0 OpensF.nil))))) (by kernel_rfl) (by kernel_rfl))
    (fun p => (⟨p.1, p.2.1, p.2.2.1, p.2.2.2.1, p.2.2.2.2.1⟩ : Sto)) (fun _ => rfl) (fun p h => h.1)
theorem sts0 : Opens Try.prog 27 (fun p : Bool × Bool × List Sto => [.imm (some p.1) p.2.1 5 (p.2.2.map stoc)]) (fun p => p.2.2.length ≤ 9223372036854775807 ∧ ∀ x ∈ p.2.2, x.name.size ≤ 9223372036854775807) :=
  Opens.slice 5 Try.underlying27 st0 (by kernel_rfl) (by omega) (fun _ => rfl)
theorem net0 : Opens Try.prog 29 netc NetOk := by
  refine Opens.map (c' := netc) (Opens.struct Try.underlying29 (OpensF.cons strs0 (OpensF.cons sws0 (OpensF.cons brs0 (OpensF.cons ges0 (OpensF.cons los0 (OpensF.cons sts0 OpensF.nil)))))) (by kernel_rfl) (by kernel_rfl))
    (fun p => (⟨⟨some p.1.1, p.1.2.1, p.1.2.2⟩, ⟨some p.2.1.1, p.2.1.2.1, p.2.1.2.2⟩, ⟨some p.2.2.1.1, p.2.2.1.2.1, p.2.2.1.2.2⟩, ⟨some p.2.2.2.1.1, p.2.2.2.1.2.1, p.2.2.2.1.2.2⟩, ⟨some p.2.2.2.2.1.1, p.2.2.2.2.1.2.1, p.2.2.2.2.1.2.2⟩, ⟨some p.2.2.2.2.2.1.1, p.2.2.2.2.2.1.2.1, p.2.2.2.2.2.1.2.2⟩⟩ : Net)) (fun _ => rfl)
    (fun p h => ⟨h.1.2, h.1.1, h.2.1.2, h.2.2.1.2, h.2.2.2.1.2, h.2.2.2.2.1.2, h.2.2.2.2.2.1.2⟩)
theorem oN : OpensV Try.prog 29 (fun n : Net => neta n) NetOk := OpensV.struct Try.underlying29 net0
theorem oSs : OpensV Try.prog 22 (fun p : Bool × Bool × List ByteArray => ss (some p.1) p.2.1 p.2.2) (fun p => p.2.2.length ≤ 9223372036854775807 ∧ ∀ a ∈ p.2.2, a.size ≤ 9223372036854775807) := OpensV.slice Try.underlying22 strs0
end Go.Proofs.Ytmginfhlohenhaa
