/- Texts: Trim with a set, Itoa, from the library; tables. -/
import Derived.Test.YtemgclhenkbikaaDoorAwZl
import Derived.Test.YtemgclhenkbikaaDoorAwZm
import Derived.Test.YtemgclhenkbikaaDoorLibA
import Derived.Shelf.Strings.SlTrimAscii
import Derived.Shelf.Strconv.Itoa3
import Derived.Sort.Grow
set_option linter.unusedVariables false
set_option linter.unusedSimpArgs false
namespace Go.Proofs.YtemgclhenkbikaaDoor
open Go.Proofs.YtemgclhenkbikaaDoor.Aw
attribute [local go_sem] Int.natCast_zero Int.natCast_one bne_self_eq_false beq_self_eq_true Bool.not_true Bool.not_false Option.isSome_none Option.isSome_some Aw.bkM_nil Option.getD_some Option.getD_none Nat.sub_zero Int.toNat_zero Aw.frzS Aw.frzT Aw.frzA Aw.frzL Aw.frzR Aw.frzO Aw.frzOL Aw.frzOT Aw.frzOR Aw.killS Aw.mapT Aw.mapR Aw.killM Aw.resAVs Aw.resAV Aw.quietOps Aw.wpP Aw.wpT Aw.wpS Aw.AOp.mild List.getElem?_cons_zero List.getElem?_cons_succ Bool.and_false Bool.and_self Bool.false_and Aw.opOb Aw.gdB Aw.Rnd Aw.subTm List.length_map Int.toNat_natCast and_self Aw.SeqC Aw.stops Aw.Ends Aw.looks Aw.renA Aw.renL Aw.renT Aw.renS Aw.wpO Aw.aop Aw.putTm Aw.St.ev Aw.St.put Aw.St.putO Aw.binAV Aw.intBin Aw.strBin Aw.pickAV Aw.optInt Aw.AV.strip Aw.AV.guard Aw.AV.cells Aw.gdOb Aw.AOp.opds Aw.AOp.still Aw.ptrCells Aw.St.reg Aw.fillAV Aw.fillOb Aw.elsOb Aw.splice Aw.firm Aw.cellish Aw.AV.shut Aw.shutAll Aw.Seq Aw.Blk Aw.retS_nil Aw.mapA Aw.mapL Aw.borA Aw.borOb Aw.allOb Aw.tupOf Aw.params Aw.Opd.of Array.toList Value.cells List.map_cons List.map_nil List.getD_cons_zero List.getD_cons_succ List.getD_nil List.length_cons List.length_nil List.take_succ_cons List.take_zero List.take_nil List.drop_zero List.drop_succ_cons List.drop_nil List.set_cons_zero List.set_cons_succ List.append_nil List.nil_append List.cons_append List.all_cons List.all_nil cond_false cond_true if_true if_false true_and and_true Bool.and_true Bool.true_and Option.map_some Option.map_none false_implies forall_const implies_true forall_eq imp_self Bool.cond_false_right Bool.cond_true_left beq_true beq_false Bool.not_eq_true' Bool.false_eq_true Nat.zero_add Nat.add_zero Aw.eqCells Aw.stopDraw Aw.skipS Aw.exactCap Aw.revealS Aw.srcEls Aw.srcSz
attribute [local go_sem ↓] Aw.look_nil Aw.look_ite Aw.wpL_nil Aw.wpL_op Aw.wpL_gd Aw.wpQ_nil Aw.wpQ_op Aw.wpQ_gd Aw.wpC_draw Aw.wpC_reg Aw.wpC_skip Aw.wpC_ret Aw.wpC_exit Aw.wpC_seq Aw.wpC_block Aw.wpC_loop Aw.wpC_cond Aw.stopAt_nil Aw.stopAt_cons Aw.wpD_skip Aw.wpD_ret Aw.wpD_exit Aw.wpD_region Aw.wpD_draw Aw.wpM_nil Aw.wpM_op Aw.wpM_gd Aw.wpD_seq Aw.wpD_block Aw.wpD_loop Aw.wpD_cond
def ren160 : Go.Shelf.Ren := ⟨fun f => if f = 119 then 98 else if f = 120 then 94 else if f = 137 then 97 else if f = 151 then 87 else if f = 152 then 93 else if f = 160 then 55 else if f = 197 then 78 else if f = 217 then 56 else if f = 224 then 58 else if f = 225 then 57 else if f = 227 then 71 else if f = 228 then 86 else if f = 231 then 69 else if f = 232 then 70 else if f = 233 then 72 else if f = 234 then 73 else if f = 235 then 74 else if f = 236 then 75 else if f = 260 then 89 else if f = 266 then 76 else if f = 271 then 88 else f, fun t => if t = 0 then 0 else if t = 3 then 3 else if t = 4 then 4 else if t = 5 then 5 else if t = 9 then 9 else if t = 21 then 21 else if t = 46 then 87 else if t = 105 then 103 else if t = 116 then 98 else if t = 117 then 99 else if t = 119 then 123 else if t = 124 then 102 else if t = 138 then 125 else if t = 139 then 126 else t, fun g => if g = 1 then 0 else if g = 3 then 6 else if g = 4 then 7 else g⟩
set_option maxRecDepth 100000 in
theorem lays160 : Go.Proofs.Lays.n160 Tryd.prog ren160 := by
  constructor
  all_goals first
    | kernel_rfl
    | (intro w; rfl)
    | (intro w; exact Go.RowKit.run_isAgg_plain (by kernel_rfl) rfl)
def ren171 : Go.Shelf.Ren := ⟨fun f => if f = 129 then 64 else if f = 171 then 43 else if f = 243 then 54 else if f = 246 then 68 else if f = 283 then 50 else if f = 284 then 51 else if f = 285 then 52 else if f = 286 then 53 else if f = 317 then 63 else if f = 318 then 65 else if f = 319 then 66 else if f = 320 then 67 else if f = 337 then 84 else if f = 338 then 85 else f, fun t => if t = 0 then 0 else if t = 2 then 2 else if t = 3 then 3 else if t = 4 then 4 else if t = 5 then 5 else if t = 9 then 9 else if t = 20 then 20 else if t = 37 then 45 else if t = 46 then 87 else if t = 51 then 72 else if t = 53 then 42 else if t = 171 then 80 else if t = 173 then 83 else if t = 212 then 91 else if t = 213 then 92 else if t = 232 then 120 else if t = 233 then 121 else t, fun g => if g = 17 then 1 else if g = 18 then 4 else if g = 19 then 5 else g⟩
set_option maxRecDepth 100000 in
theorem lays171 : Go.Proofs.Lays.n171 Tryd.prog ren171 := by
  constructor
  all_goals first
    | kernel_rfl
    | (intro w; rfl)
    | (intro w; exact Go.RowKit.run_isAgg_plain (by kernel_rfl) rfl)
set_option maxRecDepth 100000 in
theorem laysM171 : Go.Proofs.LaysM.n171 Tryd.prog ren171 := by
  constructor
  · exact lays171
  all_goals kernel_rfl
theorem s55 {Γ : List (Nat × Array Value)} (s cs : ByteArray) (hs : s.size ≤ 9223372036854775807) (hcs : cs.size < 4294967281) (ha : ∀ (j : Nat) b, cs.data.toList[j]? = some b → b.toNat < 128) :
    Aw.SpecG Γ Tryd.prog 55 [] [S s, S cs] (Gives (· = S ⟨(Lib.trimS s.data.toList cs.data.toList).toArray⟩)) :=
  SpecG.ofBelow (vs := [.string s, .string cs]) fun w _ => Any.strings_Trim_laid lays160 (by kernel_rfl) s cs w hs hcs ha
/-- The table of the powers of ten. -/
def powT : Nat × Array Value := (1, (Lib.pow10Tab.map fun z => Value.int .u64 z).toArray)
theorem grow_below (w : World) (k : Nat) (os : Array Obj) : Go.RowKit.Below w.heap.size w (Go.Sort.grow (w.drewN k) os) := by
  refine ⟨rfl, rfl, rfl, ?_, fun j hj => ?_⟩
  · show w.heap.size ≤ (w.heap ++ os).size
    rw [Array.size_append]; omega
  · show (w.heap ++ os)[j]? = _
    rw [Array.getElem?_append_left hj]
theorem s43 {Γ : List (Nat × Array Value)} (hΓ : powT ∈ Γ) (n : Int) (h0 : -9223372036854775808 ≤ n) (h1 : n ≤ 9223372036854775807) :
    Aw.SpecG Γ Tryd.prog 43 [] [I n] (Gives (· = S ⟨(Lib.itoa n).toArray⟩)) :=
  SpecG.ofBelow (vs := [.int .i64 n]) fun w hg => (Any.strconv_Itoa laysM171 n h0 h1 w (block_tab (by kernel_rfl) (hg _ hΓ))).mono fun e w' ⟨h1, k, os, h2⟩ => ⟨h1, by rw [h2]; exact grow_below w k os⟩
end Go.Proofs.YtemgclhenkbikaaDoor
