/- What functions of the slices package and of names compute. -/
import Derived.Test.YtocghkacngoblaaDoorAwZl
import Derived.Test.YtocghkacngoblaaDoorProg
import Derived.KernelRfl
import Derived.IntWalk
set_option linter.unusedVariables false
set_option linter.unusedSimpArgs false
namespace Go.Proofs.YtocghkacngoblaaDoor
open Go.Proofs.YtocghkacngoblaaDoor.Aw
attribute [local go_sem] Int.natCast_zero Int.natCast_one bne_self_eq_false beq_self_eq_true Bool.not_true Bool.not_false Option.isSome_none Option.isSome_some Aw.bkM_nil Option.getD_some Option.getD_none Nat.sub_zero Int.toNat_zero Aw.frzS Aw.frzT Aw.frzA Aw.frzL Aw.frzR Aw.frzO Aw.frzOL Aw.frzOT Aw.frzOR Aw.killS Aw.mapT Aw.mapR Aw.killM Aw.resAVs Aw.resAV Aw.quietOps Aw.wpP Aw.wpT Aw.wpS Aw.AOp.mild List.getElem?_cons_zero List.getElem?_cons_succ Bool.and_false Bool.and_self Bool.false_and Aw.opOb Aw.gdB Aw.Rnd Aw.subTm List.length_map Int.toNat_natCast and_self Aw.SeqC Aw.stops Aw.Ends Aw.looks Aw.renA Aw.renL Aw.renT Aw.renS Aw.wpO Aw.aop Aw.putTm Aw.St.ev Aw.St.put Aw.St.putO Aw.binAV Aw.intBin Aw.strBin Aw.pickAV Aw.optInt Aw.AV.strip Aw.AV.guard Aw.AV.cells Aw.gdOb Aw.AOp.opds Aw.AOp.still Aw.ptrCells Aw.St.reg Aw.fillAV Aw.fillOb Aw.elsOb Aw.splice Aw.firm Aw.cellish Aw.AV.shut Aw.shutAll Aw.Seq Aw.Blk Aw.retS_nil Aw.mapA Aw.mapL Aw.borA Aw.borOb Aw.allOb Aw.tupOf Aw.params Aw.Opd.of Array.toList Value.cells List.map_cons List.map_nil List.getD_cons_zero List.getD_cons_succ List.getD_nil List.length_cons List.length_nil List.take_succ_cons List.take_zero List.take_nil List.drop_zero List.drop_succ_cons List.drop_nil List.set_cons_zero List.set_cons_succ List.append_nil List.nil_append List.cons_append List.all_cons List.all_nil cond_false cond_true if_true if_false true_and and_true Bool.and_true Bool.true_and Option.map_some Option.map_none false_implies forall_const implies_true forall_eq imp_self Bool.cond_false_right Bool.cond_true_left beq_true beq_false Bool.not_eq_true' Bool.false_eq_true Nat.zero_add Nat.add_zero Aw.eqCells Aw.stopDraw Aw.skipS Aw.exactCap Aw.revealS Aw.srcEls Aw.srcSz
attribute [local go_sem ↓] Aw.look_nil Aw.look_ite Aw.wpL_nil Aw.wpL_op Aw.wpL_gd Aw.wpQ_nil Aw.wpQ_op Aw.wpQ_gd Aw.wpC_draw Aw.wpC_reg Aw.wpC_skip Aw.wpC_ret Aw.wpC_exit Aw.wpC_seq Aw.wpC_block Aw.wpC_loop Aw.wpC_cond Aw.stopAt_nil Aw.stopAt_cons Aw.wpD_skip Aw.wpD_ret Aw.wpD_exit Aw.wpD_region Aw.wpD_draw Aw.wpM_nil Aw.wpM_op Aw.wpM_gd Aw.wpD_seq Aw.wpD_block Aw.wpD_loop Aw.wpD_cond
theorem mixed : Tryd.prog.follows .mixedOrders = true := by kernel_rfl
abbrev I (n : Int) : AV := .val (.int .i64 n)
abbrev B (b : Bool) : AV := .val (.bool b)
abbrev S (s : ByteArray) : AV := .val (.string s)
abbrev sc (s : ByteArray) : List AV := [S s]
abbrev ss (nil : Option Bool) (full : Bool) (l : List ByteArray) : AV := .imm nil full 1 (l.map sc)
theorem w64 {n : Int} (h0 : -9223372036854775808 ≤ n) (h1 : n ≤ 9223372036854775807) : IntKind.i64.wrap n = n := IntWalk.i64_in n ⟨h0, h1⟩
theorem take_get {α : Type} {l : List α} {i : Nat} (h : i < l.length) : l.take (i + 1) = l.take i ++ [l[i]] := by simp
theorem getD_map {α : Type} {l : List α} (c : α → List AV) {i : Nat} (h : i < l.length) : (l.map c).getD i [] = c l[i] := by
  rw [List.getD_eq_getElem?_getD, List.getElem?_map, List.getElem?_eq_getElem h]; rfl
theorem getD_rng (g : Nat → List AV) {n i : Nat} (h : i < n) : ((List.range n).map g).getD i [] = g i := by
  rw [List.getD_eq_getElem?_getD, List.getElem?_map, List.getElem?_range h]; rfl
theorem set_rng {α : Type} (g : Nat → α) (n i : Nat) (v : α) : ((List.range n).map g).set i v = (List.range n).map fun k => if k = i then v else g k := by
  apply List.ext_getElem
  · simp
  · intro k h1 h2
    simp only [List.getElem_set, List.getElem_map, List.getElem_range]
    by_cases e : i = k
    · subst e; simp
    · rw [if_neg e, if_neg (Ne.symm e)]
theorem getD_mapD {α : Type} (d : α) {l : List α} (c : α → List AV) {i : Nat} (h : i < l.length) : (l.map c).getD i [] = c (l.getD i d) := by
  rw [List.getD_eq_getElem?_getD, List.getElem?_map, List.getElem?_eq_getElem h, List.getD_eq_getElem?_getD, List.getElem?_eq_getElem h]; rfl
/-- The first place where p holds. -/
def fIndex {α : Type} (p : α → Bool) : Nat → List α → Int
  | _, [] => -1
  | k, x :: l => if p x = true then (k : Int) else fIndex p (k + 1) l
theorem fIndex_drop {α : Type} {p : α → Bool} {l : List α} {i : Nat} (h : i < l.length) : fIndex p i (l.drop i) = if p l[i] = true then (i : Int) else fIndex p (i + 1) (l.drop (i + 1)) := by
  rw [List.drop_eq_getElem_cons h]; rfl
theorem fIndex_any {α : Type} (p : α → Bool) : ∀ (l : List α) (k : Nat), decide (fIndex p k l ≥ 0) = l.any p
  | [], k => by simp [fIndex]
  | y :: l, k => by
    unfold fIndex
    rw [List.any_cons]
    cases h : p y
    · simp only [Bool.false_eq_true, if_false, Bool.false_or]; exact fIndex_any p l (k + 1)
    · simp
/-- Equal strings. -/
def seq (a b : ByteArray) : Bool := a.toList == b.toList
/-- The first place of x. -/
def sIndex (x : ByteArray) : Nat → List ByteArray → Int
  | _, [] => -1
  | k, y :: l => if seq x y then k else sIndex x (k + 1) l
theorem sIndex_drop {x : ByteArray} {l : List ByteArray} {i : Nat} (h : i < l.length) : sIndex x i (l.drop i) = if seq x l[i] then (i : Int) else sIndex x (i + 1) (l.drop (i + 1)) := by
  rw [List.drop_eq_getElem_cons h]; rfl
theorem sIndex_any (x : ByteArray) : ∀ (l : List ByteArray) (k : Nat), decide (sIndex x k l ≥ 0) = l.any (seq x)
  | [], k => by simp [sIndex]
  | y :: l, k => by
    unfold sIndex
    rw [List.any_cons]
    cases h : seq x y
    · simp only [Bool.false_eq_true, if_false, Bool.false_or]; exact sIndex_any x l (k + 1)
    · simp
/-- The letters of a name, from place k on. -/
def nmOk : Nat → List UInt8 → Bool
  | _, [] => true
  | k, c :: cs => ((decide ((65 : Int) ≤ c.toNat) && decide ((c.toNat : Int) ≤ 90)) || (decide (0 < k) && decide ((48 : Int) ≤ c.toNat) && decide ((c.toNat : Int) ≤ 57))) && nmOk (k + 1) cs
theorem nmOk_drop {l : List UInt8} {i : Nat} (h : i < l.length) : nmOk i (l.drop i) = (((decide ((65 : Int) ≤ l[i].toNat) && decide ((l[i].toNat : Int) ≤ 90)) || (decide (0 < i) && decide ((48 : Int) ≤ l[i].toNat) && decide ((l[i].toNat : Int) ≤ 57))) && nmOk (i + 1) (l.drop (i + 1))) := by
  rw [List.drop_eq_getElem_cons h]; rfl
def nm (n : Int) (s : ByteArray) : Bool := nmOk 0 s.data.toList && (!(s.toList == (ByteArray.mk #[]).toList) && decide ((s.size : Int) ≤ n))
/-- A number cut into a range. -/
def cut (n a b : Int) : Int := a + n % (b - a + 1)
theorem cut_range (n a b : Int) (h : a ≤ b) : a ≤ cut n a b ∧ cut n a b ≤ b := by
  unfold cut
  have h1 := Int.emod_nonneg n (b := b - a + 1) (by omega)
  have h2 := Int.emod_lt_of_pos n (b := b - a + 1) (by omega)
  omega
end Go.Proofs.YtocghkacngoblaaDoor
