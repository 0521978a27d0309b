/- strings.Builder: WriteString, Len. -/
import Derived.Test.YtocghkacngoblaaDoorAwZo
import Derived.Test.YtocghkacngoblaaDoorBldA
set_option linter.unusedVariables false
set_option linter.unusedSimpArgs false
namespace Go.Proofs.YtocghkacngoblaaDoor
open Go.Proofs.YtocghkacngoblaaDoor.Aw
attribute [local go_sem] Int.natCast_zero Int.natCast_one bne_self_eq_false beq_self_eq_true Bool.not_true Bool.not_false Option.isSome_none Option.isSome_some Aw.bkM_nil Option.getD_some Option.getD_none Nat.sub_zero Int.toNat_zero Aw.frzS Aw.frzT Aw.frzA Aw.frzL Aw.frzR Aw.frzO Aw.frzOL Aw.frzOT Aw.frzOR Aw.killS Aw.mapT Aw.mapR Aw.killM Aw.resAVs Aw.resAV Aw.quietOps Aw.wpP Aw.wpT Aw.wpS Aw.AOp.mild List.getElem?_cons_zero List.getElem?_cons_succ Bool.and_false Bool.and_self Bool.false_and Aw.opOb Aw.gdB Aw.Rnd Aw.subTm List.length_map Int.toNat_natCast and_self Aw.SeqC Aw.stops Aw.Ends Aw.looks Aw.renA Aw.renL Aw.renT Aw.renS Aw.wpO Aw.aop Aw.putTm Aw.St.ev Aw.St.put Aw.St.putO Aw.binAV Aw.intBin Aw.strBin Aw.pickAV Aw.optInt Aw.AV.strip Aw.AV.guard Aw.AV.cells Aw.gdOb Aw.AOp.opds Aw.AOp.still Aw.ptrCells Aw.St.reg Aw.fillAV Aw.fillOb Aw.elsOb Aw.splice Aw.firm Aw.cellish Aw.AV.shut Aw.shutAll Aw.Seq Aw.Blk Aw.retS_nil Aw.mapA Aw.mapL Aw.borA Aw.borOb Aw.allOb Aw.tupOf Aw.params Aw.Opd.of Array.toList Value.cells List.map_cons List.map_nil List.getD_cons_zero List.getD_cons_succ List.getD_nil List.length_cons List.length_nil List.take_succ_cons List.take_zero List.take_nil List.drop_zero List.drop_succ_cons List.drop_nil List.set_cons_zero List.set_cons_succ List.append_nil List.nil_append List.cons_append List.all_cons List.all_nil cond_false cond_true if_true if_false true_and and_true Bool.and_true Bool.true_and Option.map_some Option.map_none false_implies forall_const implies_true forall_eq imp_self Bool.cond_false_right Bool.cond_true_left beq_true beq_false Bool.not_eq_true' Bool.false_eq_true Nat.zero_add Nat.add_zero Aw.eqCells Aw.stopDraw Aw.skipS Aw.exactCap Aw.revealS Aw.srcEls Aw.srcSz
attribute [local go_sem ↓] Aw.look_nil Aw.look_ite Aw.wpL_nil Aw.wpL_op Aw.wpL_gd Aw.wpQ_nil Aw.wpQ_op Aw.wpQ_gd Aw.wpC_draw Aw.wpC_reg Aw.wpC_skip Aw.wpC_ret Aw.wpC_exit Aw.wpC_seq Aw.wpC_block Aw.wpC_loop Aw.wpC_cond Aw.stopAt_nil Aw.stopAt_cons Aw.wpD_skip Aw.wpD_ret Aw.wpD_exit Aw.wpD_region Aw.wpD_draw Aw.wpM_nil Aw.wpM_op Aw.wpM_gd Aw.wpD_seq Aw.wpD_block Aw.wpD_loop Aw.wpD_cond
/- (*strings.Builder).Len -/
def a27 : ACode :=
  (.seq (.region false [] [
     ⟨(some 2), none, (.mov (.v (.int .i64 0)))⟩])
  (.seq (.region false [] [
     ⟨(some 3), none, (.mov (.t 0))⟩,
     ⟨(some 4), none, (.nilc (.t 3))⟩,
     ⟨(some 5), none, (.fld 1 (.t 4))⟩,
     ⟨(some 6), none, (.load 1 false (.t 5))⟩,
     ⟨(some 7), none, (.len (.t 6))⟩,
     ⟨(some 2), none, (.mov (.t 7))⟩])
  .ret))
theorem k27 : FnIs Tryd.prog 27 8 [.t 2] a27 := ⟨_, _, Tryd.func27, rfl, by kernel_rfl, by kernel_rfl, rfl⟩
/- (*strings.Builder).WriteString -/
def a25 : ACode :=
  (.seq (.region false [] [
     ⟨(some 4), none, (.mov (.v (.int .i64 0)))⟩,
     ⟨(some 5), none, (.mov (.v .nilIface))⟩])
  (.seq (.region false [] [
     ⟨(some 6), none, (.mov (.t 0))⟩,
     ⟨(some 7), none, (.call 40 [(.t 6)])⟩])
  (.seq (.region false [] [
     ⟨(some 8), none, (.mov (.t 0))⟩,
     ⟨(some 9), none, (.mov (.t 0))⟩,
     ⟨(some 10), none, (.nilc (.t 9))⟩,
     ⟨(some 11), none, (.fld 1 (.t 10))⟩,
     ⟨(some 12), none, (.load 1 false (.t 11))⟩,
     ⟨(some 13), none, (.mov (.t 1))⟩,
     ⟨(some 14), none, (.bad none [(.t 12), (.t 13), (.v (.int .i64 5))])⟩,
     ⟨(some 15), none, (.nilc (.t 8))⟩,
     ⟨(some 16), none, (.fld 1 (.t 15))⟩,
     ⟨none, none, (.store 1 (.t 16) (.t 14))⟩])
  (.seq (.region false [] [
     ⟨(some 17), none, (.mov (.t 1))⟩,
     ⟨(some 18), none, (.lens (.t 17))⟩,
     ⟨(some 4), none, (.mov (.t 18))⟩,
     ⟨(some 5), none, (.mov (.v .nilIface))⟩])
  .ret))))
theorem k25 : FnIs Tryd.prog 25 19 [.t 4, .t 5] a25 := ⟨_, _, Tryd.func25, rfl, by kernel_rfl, by kernel_rfl, rfl⟩

abbrev byC (b : ByteArray) : List (List AV) := b.data.toList.map fun c => [.val (.int .u8 c.toNat)]
abbrev bldB (p : AV) (b : ByteArray) : List Reg := bldR p b.size (byC b)
theorem byC_len (b : ByteArray) : (byC b).length = b.size := by rw [List.length_map, Array.length_toList]; rfl
theorem byC_app (b s : ByteArray) : byC b ++ s.data.toList.map (fun c => [AV.val (.int .u8 c.toNat)]) = byC (b ++ s) := by
  unfold byC
  rw [← List.map_append]
  congr 1
set_option maxRecDepth 100000 in
theorem write_first (b s : ByteArray) (hl : b.size + s.size ≤ 140737488355328) : Aw.Spec Tryd.prog 25 (bldB (.val (.pointer none)) b) [.ptr 0 0 0, S s] (fun rg v => rg = bldB (.ptr 0 0 0) (b ++ s) ∧ v = .tup [I s.size, .val .nilIface]) := by
  refine Aw.Spec.of k25 rfl fun E hn hnp hp => ?_
  replace hnp : E.np = 2 := hnp
  have pin1 := hp.arr 1 rfl
  unfold a25
  have happ := byC_app b s
  have hsz : (b ++ s).size = b.size + s.size := by simp [ByteArray.size_append]
  refine AWp.ofD [] [] hn mixed rfl ?_
  simp (config := { maxSteps := 2000000 }) only [go_sem, ↓reduceIte, Int.reduceToNat, Nat.reduceMul, Int.reduceBEq, Int.reduceBNe, Nat.reduceBEq, Nat.reduceAdd, Nat.reduceSub, Nat.reduceLeDiff, Nat.reduceEqDiff, Nat.reduceLT, reduceCtorEq]
  refine AWpL.callA [0, 1] (copy_fresh b.size (byC b)) rfl rfl (by rw [hn]; rfl) rfl (fun r hr => by { rcases List.mem_cons.1 hr with rfl | hr; exact .inl rfl; cases List.mem_singleton.1 hr; exact .inr pin1 }) fun rg v hv => ?_
  obtain ⟨rfl, rfl⟩ := hv
  refine ⟨Nat.le_refl _, AWpL.ofM hn rfl ?_⟩
  simp (config := { maxSteps := 2000000 }) only [go_sem, ↓reduceIte, Int.reduceToNat, Nat.reduceMul, Int.reduceBEq, Int.reduceBNe, Nat.reduceBEq, Nat.reduceAdd, Nat.reduceSub, Nat.reduceLeDiff, Nat.reduceEqDiff, Nat.reduceLT, reduceCtorEq, Aw.retS, Aw.retRg, Aw.kpM, Aw.bkM, Aw.pos, Aw.isBox]
  refine AWpL.apps (r := 1) (b := s) byteInfo rfl rfl rfl (by rw [hn]; rfl) (by rw [byC_len]) pin1 hl (AWpL.ofM hn rfl ?_)
  simp (config := { maxSteps := 2000000 }) only [go_sem, ↓reduceIte, Int.reduceToNat, Nat.reduceMul, Int.reduceBEq, Int.reduceBNe, Nat.reduceBEq, Nat.reduceAdd, Nat.reduceSub, Nat.reduceLeDiff, Nat.reduceEqDiff, Nat.reduceLT, reduceCtorEq, happ]
  refine Retn.ret (π := [0, 1]) hp hnp ⟨rfl, ?_⟩
  simp (config := { maxSteps := 2000000 }) only [go_sem, ↓reduceIte, Int.reduceToNat, Nat.reduceMul, Int.reduceBEq, Int.reduceBNe, Nat.reduceBEq, Nat.reduceAdd, Nat.reduceSub, Nat.reduceLeDiff, Nat.reduceEqDiff, Nat.reduceLT, reduceCtorEq, Aw.renR, Aw.pos]
  unfold bldB bldR
  rw [hsz]

set_option maxRecDepth 100000 in
theorem write_more (b s : ByteArray) (hl : b.size + s.size ≤ 140737488355328) : Aw.Spec Tryd.prog 25 (bldB (.ptr 0 0 0) b) [.ptr 0 0 0, S s] (fun rg v => rg = bldB (.ptr 0 0 0) (b ++ s) ∧ v = .tup [I s.size, .val .nilIface]) := by
  refine Aw.Spec.of k25 rfl fun E hn hnp hp => ?_
  replace hnp : E.np = 2 := hnp
  have pin1 := hp.arr 1 rfl
  unfold a25
  have happ := byC_app b s
  have hsz : (b ++ s).size = b.size + s.size := by simp [ByteArray.size_append]
  refine AWp.ofD [] [] hn mixed rfl ?_
  simp (config := { maxSteps := 2000000 }) only [go_sem, ↓reduceIte, Int.reduceToNat, Nat.reduceMul, Int.reduceBEq, Int.reduceBNe, Nat.reduceBEq, Nat.reduceAdd, Nat.reduceSub, Nat.reduceLeDiff, Nat.reduceEqDiff, Nat.reduceLT, reduceCtorEq]
  refine AWpL.callA [0, 1] (copy_used b.size (byC b)) rfl rfl (by rw [hn]; rfl) rfl (fun r hr => by { rcases List.mem_cons.1 hr with rfl | hr; exact .inl rfl; cases List.mem_singleton.1 hr; exact .inr pin1 }) fun rg v hv => ?_
  obtain ⟨rfl, rfl⟩ := hv
  refine ⟨Nat.le_refl _, AWpL.ofM hn rfl ?_⟩
  simp (config := { maxSteps := 2000000 }) only [go_sem, ↓reduceIte, Int.reduceToNat, Nat.reduceMul, Int.reduceBEq, Int.reduceBNe, Nat.reduceBEq, Nat.reduceAdd, Nat.reduceSub, Nat.reduceLeDiff, Nat.reduceEqDiff, Nat.reduceLT, reduceCtorEq, Aw.retS, Aw.retRg, Aw.kpM, Aw.bkM, Aw.pos, Aw.isBox]
  refine AWpL.apps (r := 1) (b := s) byteInfo rfl rfl rfl (by rw [hn]; rfl) (by rw [byC_len]) pin1 hl (AWpL.ofM hn rfl ?_)
  simp (config := { maxSteps := 2000000 }) only [go_sem, ↓reduceIte, Int.reduceToNat, Nat.reduceMul, Int.reduceBEq, Int.reduceBNe, Nat.reduceBEq, Nat.reduceAdd, Nat.reduceSub, Nat.reduceLeDiff, Nat.reduceEqDiff, Nat.reduceLT, reduceCtorEq, happ]
  refine Retn.ret (π := [0, 1]) hp hnp ⟨rfl, ?_⟩
  simp (config := { maxSteps := 2000000 }) only [go_sem, ↓reduceIte, Int.reduceToNat, Nat.reduceMul, Int.reduceBEq, Int.reduceBNe, Nat.reduceBEq, Nat.reduceAdd, Nat.reduceSub, Nat.reduceLeDiff, Nat.reduceEqDiff, Nat.reduceLT, reduceCtorEq, Aw.renR, Aw.pos]
  unfold bldB bldR
  rw [hsz]

theorem len_spec (b : ByteArray) : Aw.Spec Tryd.prog 27 (bldB (.ptr 0 0 0) b) [.ptr 0 0 0] (fun rg v => rg = bldB (.ptr 0 0 0) b ∧ v = I b.size) := by
  refine Aw.Spec.of k27 rfl fun E hn hnp hp => ?_
  replace hnp : E.np = 2 := hnp
  have pin1 := hp.arr 1 rfl
  unfold a27
  refine AWp.ofD [] [] hn mixed rfl ?_
  simp (config := { maxSteps := 2000000 }) only [go_sem, ↓reduceIte, Int.reduceToNat, Nat.reduceMul, Int.reduceBEq, Int.reduceBNe, Nat.reduceBEq, Nat.reduceAdd, Nat.reduceSub, Nat.reduceLeDiff, Nat.reduceEqDiff, Nat.reduceLT, reduceCtorEq]
  refine Retn.ret (π := [0, 1]) hp hnp ⟨rfl, ?_⟩
  simp (config := { maxSteps := 2000000 }) only [go_sem, ↓reduceIte, Int.reduceToNat, Nat.reduceMul, Int.reduceBEq, Int.reduceBNe, Nat.reduceBEq, Nat.reduceAdd, Nat.reduceSub, Nat.reduceLeDiff, Nat.reduceEqDiff, Nat.reduceLT, reduceCtorEq, Aw.renR, Aw.pos]
abbrev bldN : List Reg := [.box 64 [.val (.pointer none), .val (.slice none 0 0)]]
theorem len_none : Aw.Spec Tryd.prog 27 bldN [.ptr 0 0 0] (fun rg v => rg = bldN ∧ v = I 0) := by
  refine Aw.Spec.of k27 rfl fun E hn hnp hp => ?_
  replace hnp : E.np = 1 := hnp
  unfold a27
  refine AWp.ofD [] [] hn mixed rfl ?_
  simp (config := { maxSteps := 2000000 }) only [go_sem, ↓reduceIte, Int.reduceToNat, Nat.reduceMul, Int.reduceBEq, Int.reduceBNe, Nat.reduceBEq, Nat.reduceAdd, Nat.reduceSub, Nat.reduceLeDiff, Nat.reduceEqDiff, Nat.reduceLT, reduceCtorEq]
  refine Retn.ret (π := [0]) hp hnp ⟨rfl, ?_⟩
  simp (config := { maxSteps := 2000000 }) only [go_sem, ↓reduceIte, Int.reduceToNat, Nat.reduceMul, Int.reduceBEq, Int.reduceBNe, Nat.reduceBEq, Nat.reduceAdd, Nat.reduceSub, Nat.reduceLeDiff, Nat.reduceEqDiff, Nat.reduceLT, reduceCtorEq, Aw.renR, Aw.pos]
end Go.Proofs.YtocghkacngoblaaDoor
