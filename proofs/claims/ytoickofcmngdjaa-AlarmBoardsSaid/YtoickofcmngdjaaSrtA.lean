/- Texts in order: slices.Sort. -/
import Derived.Test.YtoickofcmngdjaaAwZl
import Derived.Test.YtoickofcmngdjaaLibA
import Derived.Shelf.Sort.Plain
import Derived.Shelf.Slices.In.SortNone
set_option linter.unusedVariables false
set_option linter.unusedSimpArgs false
namespace Go.Proofs.Ytoickofcmngdjaa
open Go.Proofs.Ytoickofcmngdjaa.Aw
attribute [local go_sem] Int.natCast_zero Int.natCast_one bne_self_eq_false beq_self_eq_true Bool.not_true Bool.not_false Option.isSome_none Option.isSome_some Aw.bkM_nil Option.getD_some Option.getD_none Nat.sub_zero Int.toNat_zero Aw.frzS Aw.frzT Aw.frzA Aw.frzL Aw.frzR Aw.frzO Aw.frzOL Aw.frzOT Aw.frzOR Aw.killS Aw.mapT Aw.mapR Aw.killM Aw.resAVs Aw.resAV Aw.quietOps Aw.wpP Aw.wpT Aw.wpS Aw.AOp.mild List.getElem?_cons_zero List.getElem?_cons_succ Bool.and_false Bool.and_self Bool.false_and Aw.opOb Aw.gdB Aw.Rnd Aw.subTm List.length_map Int.toNat_natCast and_self Aw.SeqC Aw.stops Aw.Ends Aw.looks Aw.renA Aw.renL Aw.renT Aw.renS Aw.wpO Aw.aop Aw.putTm Aw.St.ev Aw.St.put Aw.St.putO Aw.binAV Aw.intBin Aw.strBin Aw.pickAV Aw.optInt Aw.AV.strip Aw.AV.guard Aw.AV.cells Aw.gdOb Aw.AOp.opds Aw.AOp.still Aw.ptrCells Aw.St.reg Aw.fillAV Aw.fillOb Aw.elsOb Aw.splice Aw.firm Aw.cellish Aw.AV.shut Aw.shutAll Aw.Seq Aw.Blk Aw.retS_nil Aw.mapA Aw.mapL Aw.borA Aw.borOb Aw.allOb Aw.tupOf Aw.params Aw.Opd.of Array.toList Value.cells List.map_cons List.map_nil List.getD_cons_zero List.getD_cons_succ List.getD_nil List.length_cons List.length_nil List.take_succ_cons List.take_zero List.take_nil List.drop_zero List.drop_succ_cons List.drop_nil List.set_cons_zero List.set_cons_succ List.append_nil List.nil_append List.cons_append List.all_cons List.all_nil cond_false cond_true if_true if_false true_and and_true Bool.and_true Bool.true_and Option.map_some Option.map_none false_implies forall_const implies_true forall_eq imp_self Bool.cond_false_right Bool.cond_true_left beq_true beq_false Bool.not_eq_true' Bool.false_eq_true Nat.zero_add Nat.add_zero Aw.eqCells Aw.stopDraw Aw.skipS Aw.exactCap Aw.revealS Aw.srcEls Aw.srcSz
attribute [local go_sem ↓] Aw.look_nil Aw.look_ite Aw.wpL_nil Aw.wpL_op Aw.wpL_gd Aw.wpQ_nil Aw.wpQ_op Aw.wpQ_gd Aw.wpC_draw Aw.wpC_reg Aw.wpC_skip Aw.wpC_ret Aw.wpC_exit Aw.wpC_seq Aw.wpC_block Aw.wpC_loop Aw.wpC_cond Aw.stopAt_nil Aw.stopAt_cons Aw.wpD_skip Aw.wpD_ret Aw.wpD_exit Aw.wpD_region Aw.wpD_draw Aw.wpM_nil Aw.wpM_op Aw.wpM_gd Aw.wpD_seq Aw.wpD_block Aw.wpD_loop Aw.wpD_cond
def ren190 : Go.Shelf.Ren := ⟨fun f => if f = 125 then 33 else if f = 128 then 52 else if f = 129 then 53 else if f = 190 then 21 else if f = 258 then 32 else if f = 302 then 44 else if f = 303 then 45 else if f = 304 then 46 else if f = 305 then 47 else if f = 306 then 48 else if f = 307 then 49 else if f = 308 then 28 else if f = 309 then 50 else if f = 310 then 51 else if f = 329 then 58 else if f = 330 then 59 else if f = 333 then 57 else if f = 334 then 60 else if f = 335 then 61 else if f = 336 then 41 else if f = 344 then 71 else f, fun t => if t = 0 then 0 else if t = 3 then 3 else if t = 4 then 4 else if t = 5 then 5 else if t = 9 then 9 else if t = 31 then 23 else if t = 46 then 66 else if t = 51 then 86 else if t = 53 then 88 else if t = 131 then 83 else if t = 182 then 78 else if t = 183 then 79 else if t = 218 then 92 else if t = 222 then 96 else if t = 228 then 103 else if t = 229 then 104 else t, fun g => g⟩
set_option maxRecDepth 100000 in
theorem lays190 : Go.Proofs.Lays.n190 Try.prog ren190 := by
  constructor
  all_goals first
    | kernel_rfl
    | (intro w; rfl)
    | (intro w; exact Go.RowKit.run_isAgg_plain (by kernel_rfl) rfl)
/-- The order of texts. -/
def ltS (a b : ByteArray) : Bool := Op.bytesLess a.toList b.toList
theorem ltS_iff {a b : ByteArray} : ltS a b = true ↔ a.data.toList < b.data.toList := by
  unfold ltS
  rw [Go.Proofs.bytesLess_eq, Lib.toList_data, Lib.toList_data, decide_eq_true_eq]
theorem data_inj {a b : ByteArray} (h : a.data.toList = b.data.toList) : a = b := by
  cases a; cases b
  simp only at h
  rw [Array.toList_inj.1 h]
def ofL (b : List UInt8) : ByteArray := ⟨b.toArray⟩
theorem ofL_data (a : ByteArray) : ofL a.data.toList = a := rfl
theorem data_ofL (b : List UInt8) : (ofL b).data.toList = b := rfl
/-- The texts in order. -/
def sortS (l : List ByteArray) : List ByteArray := ((l.map fun a => a.data.toList).mergeSort fun x y => decide (x ≤ y)).map ofL
theorem sortS_perm (l : List ByteArray) : (sortS l).Perm l := by
  unfold sortS
  have h := (List.mergeSort_perm (l.map fun a => a.data.toList) fun x y => decide (x ≤ y)).map ofL
  refine h.trans ?_
  rw [List.map_map]
  have : (ofL ∘ fun a : ByteArray => a.data.toList) = id := by funext a; rfl
  rw [this, List.map_id]
theorem sortS_len (l : List ByteArray) : (sortS l).length = l.length := (sortS_perm l).length_eq
theorem sortS_mem {l : List ByteArray} {x : ByteArray} : x ∈ sortS l ↔ x ∈ l := (sortS_perm l).mem_iff
theorem sortS_sorted (l : List ByteArray) : (sortS l).Pairwise fun a b => ltS b a = false := by
  unfold sortS
  rw [List.pairwise_map]
  have h := List.pairwise_mergeSort (le := fun x y : List UInt8 => decide (x ≤ y)) (fun a b c h1 h2 => by
    simp only [decide_eq_true_eq] at *; exact List.le_trans h1 h2) (fun a b => by
    simp only [Bool.or_eq_true, decide_eq_true_eq]; exact List.le_total a b) (l.map fun a => a.data.toList)
  refine h.imp fun {a b} hab => ?_
  simp only [decide_eq_true_eq] at hab
  cases hc : ltS (ofL b) (ofL a) with
  | false => rfl
  | true =>
    rw [ltS_iff, data_ofL, data_ofL] at hc
    exact absurd hc (List.not_lt.2 hab)
section
variable {P : Program} {E : Env} {Q : Exit → Aw.St → Prop} {s : Aw.St}
theorem sc_enc (l : List ByteArray) : l.map sc = (l.map fun a => a.data.toList).map fun a => [AV.val (Go.Proofs.encStr a)] := by
  rw [List.map_map]; rfl
/-- slices.Sort of texts. -/
theorem sortStr {x : Opd} {dst : Option Nat} {gs : List GOp} {r n k : Nat} {ex : Bool} {e : TypeId} (l : List ByteArray) (hx : s.ev x = .hnd r 0 n k ex) (hg : s.reg r = .arr e 1 (l.map sc)) (hn : n = l.length) (hd : dstOk E.n dst = true) (hl : l.length < 4611686018427387904)
    (h : AWpL Try.prog E Q gs (St.putO { s with rg := s.rg.set r (.arr e 1 ((sortS l).map sc)) } dst (.val (.tuple #[])))) (he5 : e ≠ 5 := by decide) : AWpL Try.prog E Q (⟨dst, none, .call 21 [x]⟩ :: gs) s := by
  have hs : (sortS l).map sc = ((l.map fun a => a.data.toList).mergeSort fun x y => decide (x ≤ y)).map fun a => [AV.val (Go.Proofs.encStr a)] := by
    unfold sortS
    rw [List.map_map]; rfl
  rw [hs] at h
  rw [sc_enc] at hg
  refine AWpL.sort (enc := Go.Proofs.encStr) (srt := fun l => l.mergeSort fun x y => decide (x ≤ y)) (l.map fun a => a.data.toList) (List.length_mergeSort _) (fun blk off cap w hH hb hsz => ?_) (fun p cap w => ?_) hx hg (by simpa using hn) hd (by simpa using hl) h he5
  · exact Any.slices_Sort_string lays190 blk off cap _ w hH hb hsz
  · exact Any.slices_Sort_string_none lays190 p cap w
end
end Go.Proofs.Ytoickofcmngdjaa
