/- Alarms as arguments. -/
import Derived.Test.YtoickofcmngdjaaAwTb
import Derived.Test.YtoickofcmngdjaaAlaA
set_option linter.unusedVariables false
namespace Go.Proofs.Ytoickofcmngdjaa
open Go.Proofs.Ytoickofcmngdjaa.Aw
attribute [local go_sem] Int.natCast_zero Int.natCast_one bne_self_eq_false beq_self_eq_true Bool.not_true Bool.not_false Option.isSome_none Option.isSome_some Aw.bkM_nil Option.getD_some Option.getD_none Nat.sub_zero Int.toNat_zero Aw.frzS Aw.frzT Aw.frzA Aw.frzL Aw.frzR Aw.frzO Aw.frzOL Aw.frzOT Aw.frzOR Aw.killS Aw.mapT Aw.mapR Aw.killM Aw.resAVs Aw.resAV Aw.quietOps Aw.wpP Aw.wpT Aw.wpS Aw.AOp.mild List.getElem?_cons_zero List.getElem?_cons_succ Bool.and_false Bool.and_self Bool.false_and Aw.opOb Aw.gdB Aw.Rnd Aw.subTm List.length_map Int.toNat_natCast and_self Aw.SeqC Aw.stops Aw.Ends Aw.looks Aw.renA Aw.renL Aw.renT Aw.renS Aw.wpO Aw.aop Aw.putTm Aw.St.ev Aw.St.put Aw.St.putO Aw.binAV Aw.intBin Aw.strBin Aw.pickAV Aw.optInt Aw.AV.strip Aw.AV.guard Aw.AV.cells Aw.gdOb Aw.AOp.opds Aw.AOp.still Aw.ptrCells Aw.St.reg Aw.fillAV Aw.fillOb Aw.elsOb Aw.splice Aw.firm Aw.cellish Aw.AV.shut Aw.shutAll Aw.Seq Aw.Blk Aw.retS_nil Aw.mapA Aw.mapL Aw.borA Aw.borOb Aw.allOb Aw.tupOf Aw.params Aw.Opd.of Array.toList Value.cells List.map_cons List.map_nil List.getD_cons_zero List.getD_cons_succ List.getD_nil List.length_cons List.length_nil List.take_succ_cons List.take_zero List.take_nil List.drop_zero List.drop_succ_cons List.drop_nil List.set_cons_zero List.set_cons_succ List.append_nil List.nil_append List.cons_append List.all_cons List.all_nil cond_false cond_true if_true if_false true_and and_true Bool.and_true Bool.true_and Option.map_some Option.map_none false_implies forall_const implies_true forall_eq imp_self Bool.cond_false_right Bool.cond_true_left beq_true beq_false Bool.not_eq_true' Bool.false_eq_true Nat.zero_add Nat.add_zero Aw.eqCells Aw.stopDraw Aw.skipS Aw.exactCap Aw.revealS Aw.srcEls Aw.srcSz
attribute [local go_sem ↓] Aw.look_nil Aw.look_ite Aw.wpL_nil Aw.wpL_op Aw.wpL_gd Aw.wpQ_nil Aw.wpQ_op Aw.wpQ_gd Aw.wpC_draw Aw.wpC_reg Aw.wpC_skip Aw.wpC_ret Aw.wpC_exit Aw.wpC_seq Aw.wpC_block Aw.wpC_loop Aw.wpC_cond Aw.stopAt_nil Aw.stopAt_cons Aw.wpD_skip Aw.wpD_ret Aw.wpD_exit Aw.wpD_region Aw.wpD_draw Aw.wpM_nil Aw.wpM_op Aw.wpM_gd Aw.wpD_seq Aw.wpD_block Aw.wpD_loop Aw.wpD_cond
theorem oI : OpensVW Try.prog 3 (fun n : Int => I n) (fun n => (Lit.int .i64 n).wf = true) := OpensVW.of (OpensV.int Try.underlying3)
theorem oStr : OpensVW Try.prog 9 (fun s : ByteArray => S s) (fun s => s.size ≤ 140737488351232) := OpensVW.string Try.underlying9
theorem str0 : OpensW Try.prog 9 sc (fun s => s.size ≤ 140737488351232) := OpensW.string Try.underlying9
theorem oSs : OpensVW Try.prog 23 (fun p : Bool × Bool × List ByteArray => ss (some p.1) p.2.1 p.2.2) (fun p => p.2.2.length ≤ 9223372036854775807 ∧ p.2.2.length * 16 ≤ 140737488351232 ∧ ∀ s ∈ p.2.2, s.size ≤ 140737488351232) :=
  OpensVW.slice Try.underlying23 (OpensW.slice 1 16 Try.underlying23 str0 (by kernel_rfl) (by kernel_rfl) (by omega) (fun _ => rfl))
theorem cause0 : OpensW Try.prog 28 cac CauOk := by
  refine OpensW.map (c' := cac) (OpensW.struct Try.underlying28 (OpensFW.cons str0 (OpensFW.cons str0 OpensFW.nil)) (by kernel_rfl) (by kernel_rfl))
    (fun p => (⟨p.1, p.2.1⟩ : Cau)) (fun _ => rfl) (fun p h => ⟨Nat.le_trans h.1 (by decide), Nat.le_trans h.2.1 (by decide)⟩)
theorem oCs : OpensVW Try.prog 22 (fun p : Bool × Bool × List Cau => cas (some p.1) p.2.1 p.2.2) (fun p => p.2.2.length ≤ 9223372036854775807 ∧ p.2.2.length * 32 ≤ 140737488351232 ∧ ∀ c ∈ p.2.2, CauOk c) :=
  OpensVW.slice Try.underlying22 (OpensW.slice 2 32 Try.underlying22 cause0 (by kernel_rfl) (by kernel_rfl) (by omega) (fun _ => rfl))
theorem up63 {n : Nat} (h : n ≤ 140737488351232) : n ≤ 9223372036854775807 := by omega
end Go.Proofs.Ytoickofcmngdjaa
