/- Texts: Index, Cut, Count, LastIndex, Atoi of the library. -/
import Derived.Test.YtemgclhenkbikaaDoorAwZl
import Derived.Test.YtemgclhenkbikaaDoorAwZm
import Derived.Test.YtemgclhenkbikaaDoorTxtP
import Derived.Test.YtemgclhenkbikaaDoorArB
import Derived.Shelf.Strings.LastIndex
import Derived.Shelf.Strconv.AtoiAll
set_option linter.unusedVariables false
set_option linter.unusedSimpArgs false
namespace Go.Proofs.YtemgclhenkbikaaDoor
open Go.Proofs.YtemgclhenkbikaaDoor.Aw
attribute [local go_sem] Int.natCast_zero Int.natCast_one bne_self_eq_false beq_self_eq_true Bool.not_true Bool.not_false Option.isSome_none Option.isSome_some Aw.bkM_nil Option.getD_some Option.getD_none Nat.sub_zero Int.toNat_zero Aw.frzS Aw.frzT Aw.frzA Aw.frzL Aw.frzR Aw.frzO Aw.frzOL Aw.frzOT Aw.frzOR Aw.killS Aw.mapT Aw.mapR Aw.killM Aw.resAVs Aw.resAV Aw.quietOps Aw.wpP Aw.wpT Aw.wpS Aw.AOp.mild List.getElem?_cons_zero List.getElem?_cons_succ Bool.and_false Bool.and_self Bool.false_and Aw.opOb Aw.gdB Aw.Rnd Aw.subTm List.length_map Int.toNat_natCast and_self Aw.SeqC Aw.stops Aw.Ends Aw.looks Aw.renA Aw.renL Aw.renT Aw.renS Aw.wpO Aw.aop Aw.putTm Aw.St.ev Aw.St.put Aw.St.putO Aw.binAV Aw.intBin Aw.strBin Aw.pickAV Aw.optInt Aw.AV.strip Aw.AV.guard Aw.AV.cells Aw.gdOb Aw.AOp.opds Aw.AOp.still Aw.ptrCells Aw.St.reg Aw.fillAV Aw.fillOb Aw.elsOb Aw.splice Aw.firm Aw.cellish Aw.AV.shut Aw.shutAll Aw.Seq Aw.Blk Aw.retS_nil Aw.mapA Aw.mapL Aw.borA Aw.borOb Aw.allOb Aw.tupOf Aw.params Aw.Opd.of Array.toList Value.cells List.map_cons List.map_nil List.getD_cons_zero List.getD_cons_succ List.getD_nil List.length_cons List.length_nil List.take_succ_cons List.take_zero List.take_nil List.drop_zero List.drop_succ_cons List.drop_nil List.set_cons_zero List.set_cons_succ List.append_nil List.nil_append List.cons_append List.all_cons List.all_nil cond_false cond_true if_true if_false true_and and_true Bool.and_true Bool.true_and Option.map_some Option.map_none false_implies forall_const implies_true forall_eq imp_self Bool.cond_false_right Bool.cond_true_left beq_true beq_false Bool.not_eq_true' Bool.false_eq_true Nat.zero_add Nat.add_zero Aw.eqCells Aw.stopDraw Aw.skipS Aw.exactCap Aw.revealS Aw.srcEls Aw.srcSz
attribute [local go_sem ↓] Aw.look_nil Aw.look_ite Aw.wpL_nil Aw.wpL_op Aw.wpL_gd Aw.wpQ_nil Aw.wpQ_op Aw.wpQ_gd Aw.wpC_draw Aw.wpC_reg Aw.wpC_skip Aw.wpC_ret Aw.wpC_exit Aw.wpC_seq Aw.wpC_block Aw.wpC_loop Aw.wpC_cond Aw.stopAt_nil Aw.stopAt_cons Aw.wpD_skip Aw.wpD_ret Aw.wpD_exit Aw.wpD_region Aw.wpD_draw Aw.wpM_nil Aw.wpM_op Aw.wpM_gd Aw.wpD_seq Aw.wpD_block Aw.wpD_loop Aw.wpD_cond
/- internal/stringslite.Cut -/
def a39 : ACode :=
  (.seq (.region false [] [
     ⟨(some 4), none, (.mov (.v (.string ⟨#[]⟩)))⟩,
     ⟨(some 5), none, (.mov (.v (.string ⟨#[]⟩)))⟩,
     ⟨(some 6), none, (.mov (.v (.bool false)))⟩])
  (.seq (.seq (.region false [] [
     ⟨(some 8), none, (.mov (.t 0))⟩,
     ⟨(some 9), none, (.mov (.t 1))⟩,
     ⟨(some 10), none, (.call 46 [(.t 8), (.t 9)])⟩,
     ⟨(some 7), none, (.mov (.t 10))⟩])
  (.seq (.region false [] [
     ⟨(some 11), none, (.mov (.t 7))⟩,
     ⟨(some 12), none, (.bin .geq 3 (.t 11) (.v (.int .i64 0)))⟩])
  (.cond (.t 12)
    (.seq (.region true [[], [], [0, 1], [], [], [], [5], [4, 6], [3, 7], [2, 0, 1, 2], [8, 9, 0, 1, 2, 3, 4, 5, 6, 7, 8, 9], [10, 0, 1, 2, 3, 4, 5, 6, 7, 8, 9, 10]] [
       ⟨(some 13), none, (.mov (.t 0))⟩,
       ⟨(some 14), none, (.mov (.t 7))⟩,
       ⟨(some 15), none, (.slcs (.t 13) none (some (.t 14)))⟩,
       ⟨(some 16), none, (.mov (.t 0))⟩,
       ⟨(some 17), none, (.mov (.t 7))⟩,
       ⟨(some 18), none, (.mov (.t 1))⟩,
       ⟨(some 19), none, (.lens (.t 18))⟩,
       ⟨(some 20), none, (.bin .add 3 (.t 17) (.t 19))⟩,
       ⟨(some 21), none, (.slcs (.t 16) (some (.t 20)) none)⟩,
       ⟨(some 4), none, (.mov (.t 15))⟩,
       ⟨(some 5), none, (.mov (.t 21))⟩,
       ⟨(some 6), none, (.mov (.v (.bool true)))⟩])
    .ret)
    .skip)))
  (.seq (.region false [] [
     ⟨(some 22), none, (.mov (.t 0))⟩,
     ⟨(some 4), none, (.mov (.t 22))⟩,
     ⟨(some 5), none, (.mov (.v (.string ⟨#[]⟩)))⟩,
     ⟨(some 6), none, (.mov (.v (.bool false)))⟩])
  .ret)))
theorem k39 : FnIs Tryd.prog 39 23 [.t 4, .t 5, .t 6] a39 := ⟨_, _, Tryd.func39, rfl, by kernel_rfl, by kernel_rfl, rfl⟩
/- strings.Cut -/
def a27 : ACode :=
  (.seq (.region false [] [
     ⟨(some 4), none, (.mov (.v (.string ⟨#[]⟩)))⟩,
     ⟨(some 5), none, (.mov (.v (.string ⟨#[]⟩)))⟩,
     ⟨(some 6), none, (.mov (.v (.bool false)))⟩])
  (.seq (.region false [] [
     ⟨(some 7), none, (.mov (.t 0))⟩,
     ⟨(some 8), none, (.mov (.t 1))⟩,
     ⟨(some 9), none, (.call 39 [(.t 7), (.t 8)])⟩,
     ⟨(some 10), none, (.ext 0 (.t 9))⟩,
     ⟨(some 11), none, (.ext 1 (.t 9))⟩,
     ⟨(some 12), none, (.ext 2 (.t 9))⟩,
     ⟨(some 4), none, (.mov (.t 10))⟩,
     ⟨(some 5), none, (.mov (.t 11))⟩,
     ⟨(some 6), none, (.mov (.t 12))⟩])
  .ret))
theorem k27 : FnIs Tryd.prog 27 13 [.t 4, .t 5, .t 6] a27 := ⟨_, _, Tryd.func27, rfl, by kernel_rfl, by kernel_rfl, rfl⟩

def ren219 : Go.Shelf.Ren := ⟨fun f => if f = 217 then 56 else if f = 219 then 46 else if f = 224 then 58 else if f = 225 then 57 else if f = 266 then 76 else if f = 267 then 59 else if f = 314 then 77 else f, fun t => if t = 3 then 3 else if t = 4 then 4 else if t = 5 then 5 else if t = 9 then 9 else if t = 46 then 87 else if t = 51 then 72 else if t = 146 then 73 else t, fun g => if g = 1 then 0 else if g = 3 then 6 else if g = 4 then 7 else g⟩
set_option maxRecDepth 100000 in
theorem lays219 : Go.Proofs.Lays.n219 Tryd.prog ren219 := by
  constructor
  all_goals first
    | kernel_rfl
    | (intro w; rfl)
    | (intro w; exact Go.RowKit.run_isAgg_plain (by kernel_rfl) rfl)
def ren138 : Go.Shelf.Ren := ⟨fun f => if f = 138 then 20 else if f = 143 then 35 else if f = 195 then 33 else if f = 217 then 56 else if f = 218 then 34 else if f = 219 then 46 else if f = 224 then 58 else if f = 225 then 57 else if f = 266 then 76 else if f = 267 then 59 else if f = 314 then 77 else f, fun t => if t = 0 then 0 else if t = 3 then 3 else if t = 4 then 4 else if t = 5 then 5 else if t = 9 then 9 else if t = 46 then 87 else if t = 51 then 72 else if t = 146 then 73 else t, fun g => if g = 1 then 0 else if g = 3 then 6 else if g = 4 then 7 else g⟩
set_option maxRecDepth 100000 in
theorem lays138 : Go.Proofs.Lays.n138 Tryd.prog ren138 := by
  constructor
  all_goals first
    | kernel_rfl
    | (intro w; rfl)
    | (intro w; exact Go.RowKit.run_isAgg_plain (by kernel_rfl) rfl)
def ren148 : Go.Shelf.Ren := ⟨fun f => if f = 148 then 21 else if f = 222 then 36 else if f = 223 then 37 else if f = 269 then 47 else f, fun t => if t = 3 then 3 else if t = 4 then 4 else if t = 5 then 5 else if t = 9 then 9 else if t = 46 then 87 else if t = 51 then 72 else if t = 146 then 73 else t, fun g => if g = 1 then 0 else if g = 3 then 6 else if g = 4 then 7 else g⟩
set_option maxRecDepth 100000 in
theorem lays148 : Go.Proofs.Lays.n148 Tryd.prog ren148 := by
  constructor
  all_goals first
    | kernel_rfl
    | (intro w; rfl)
    | (intro w; exact Go.RowKit.run_isAgg_plain (by kernel_rfl) rfl)
def ren172 : Go.Shelf.Ren := ⟨fun f => if f = 129 then 64 else if f = 171 then 43 else if f = 172 then 49 else if f = 205 then 92 else if f = 243 then 54 else if f = 244 then 61 else if f = 245 then 62 else if f = 246 then 68 else if f = 247 then 79 else if f = 279 then 80 else if f = 280 then 81 else if f = 281 then 82 else if f = 282 then 83 else if f = 283 then 50 else if f = 284 then 51 else if f = 285 then 52 else if f = 286 then 53 else if f = 287 then 90 else if f = 316 then 91 else if f = 317 then 63 else if f = 318 then 65 else if f = 319 then 66 else if f = 320 then 67 else if f = 321 then 95 else if f = 322 then 96 else if f = 337 then 84 else if f = 338 then 85 else f, fun t => if t = 0 then 0 else if t = 2 then 2 else if t = 3 then 3 else if t = 4 then 4 else if t = 5 then 5 else if t = 9 then 9 else if t = 20 then 20 else if t = 21 then 21 else if t = 37 then 45 else if t = 46 then 87 else if t = 51 then 72 else if t = 53 then 42 else if t = 75 then 77 else if t = 76 then 78 else if t = 80 then 39 else if t = 85 then 106 else if t = 127 then 128 else if t = 143 then 129 else if t = 145 then 131 else if t = 167 then 105 else if t = 168 then 108 else if t = 171 then 80 else if t = 173 then 83 else if t = 175 then 114 else if t = 210 then 118 else if t = 212 then 91 else if t = 213 then 92 else if t = 232 then 120 else if t = 233 then 121 else t, fun g => if g = 15 then 2 else if g = 16 then 3 else if g = 17 then 1 else if g = 18 then 4 else if g = 19 then 5 else g⟩
set_option maxRecDepth 100000 in
theorem lays172 : Go.Proofs.Lays.n172 Tryd.prog ren172 := by
  constructor
  all_goals first
    | kernel_rfl
    | (intro w; rfl)
    | (intro w; exact Go.RowKit.run_isAgg_plain (by kernel_rfl) rfl)
set_option maxRecDepth 100000 in
theorem laysM172 : Go.Proofs.LaysM.n172 Tryd.prog ren172 := by
  constructor
  · exact lays172
  all_goals first
    | kernel_rfl
    | (intro w; rfl)
    | (intro w; exact Go.RowKit.run_isAgg_plain (by kernel_rfl) rfl)
set_option maxRecDepth 100000 in
theorem laysC172 : Go.Proofs.LaysC.n172 Tryd.prog ren172 := by
  constructor
  · exact laysM172
  all_goals kernel_rfl
theorem SpecG.plain {P : Program} {f : FuncId} {rg : List Reg} {args : List AV} {Post : List Reg → AV → Prop} (h : SpecG [] P f rg args Post) : Aw.Spec P f rg args Post :=
  fun w ρ ok vals hm hr => h w ρ ok vals (fun x hx => by cases hx) (fun x hx => by cases hx) hm hr
theorem s46 (s : ByteArray) (b : UInt8) : Aw.Spec Tryd.prog 46 [] [S s, S ⟨#[b]⟩] (Gives (· = I (Lib.indexByte (lst s) b))) :=
  SpecG.plain (SpecG.ofBelow (vs := [.string s, .string ⟨#[b]⟩]) fun w _ => (Any.stringslite_Index_one lays219 s b w).mono fun e w' ⟨h1, h2⟩ => ⟨h1, by rw [h2]; exact Go.RowKit.Below.refl _ _⟩)
theorem s20 (s : ByteArray) (b : UInt8) : Aw.Spec Tryd.prog 20 [] [S s, S ⟨#[b]⟩] (Gives (· = I ((lst s).count b : Nat))) :=
  SpecG.plain (SpecG.ofBelow (vs := [.string s, .string ⟨#[b]⟩]) fun w _ => (Any.strings_Count_one lays138 s b w).mono fun e w' ⟨h1, h2⟩ => ⟨h1, by rw [h2]; exact Go.RowKit.Below.refl _ _⟩)
theorem s21 (s : ByteArray) (b : UInt8) (hs : s.size < 4611686018427387904) : Aw.Spec Tryd.prog 21 [] [S s, S ⟨#[b]⟩] (Gives (· = I (Lib.lastIndexByte s (b.toNat : Int)))) :=
  SpecG.plain (SpecG.ofBelow (vs := [.string s, .string ⟨#[b]⟩]) fun w _ => (Any.strings_LastIndex_one lays148 s ⟨#[b]⟩ rfl hs w).mono fun e w' ⟨h1, h2⟩ => ⟨h1, by rw [h2]; exact Go.RowKit.Below.refl _ _⟩)
section
variable {P : Program} {E : Env} {s : St} {m : Bool} {K : St → Prop} {d : Option Nat} {t : Nat} {want : Bool}
theorem AOne.guardT {op : AOp} (h : gdB (Aw.look s.tm t) want = some true) (k : AOne P E m ⟨d, none, op⟩ s K) : AOne P E m ⟨d, some (t, want), op⟩ s K := fun ops o hg a w hrel Q => by
  have h3 := k ops (bare o) (gop_bare hg) a w hrel Q
  obtain ⟨ρ, ok, hr⟩ := hrel
  obtain ⟨j, hg0, hg1⟩ := guard_inv hg
  rw [if_pos (wanted_none (o := bare o) rfl _)] at h3
  rw [if_pos (wanted_gd hr hg0 hg1 h)]
  exact h3
theorem AOne.guardF {op : AOp} (hd : dstOk E.n d = true) (h : gdB (Aw.look s.tm t) want = some false) (k : K (s.putO d (.opt false .any))) : AOne P E m ⟨d, some (t, want), op⟩ s K := fun ops o hg a w hrel Q => by
  obtain ⟨ρ, ok, hr⟩ := hrel
  obtain ⟨j, hg0, hg1⟩ := guard_inv hg
  obtain ⟨_, hdst, _⟩ := gop_guard hg
  rw [if_neg (by rw [wanted_gd hr hg0 hg1 h]; simp)]
  refine ⟨fun _ => Ext.refl w, _, k, ρ, ok, ?_⟩
  rw [← hdst]
  exact hr.putO hd (by unfold R; exact ⟨fun e => (by cases e), fun _ => rfl⟩)
theorem AOne.weakK {g : GOp} (h : AOne P E m g s fun x => ∃ y, Weak E x y ∧ K y) : AOne P E m g s K := fun ops o hg a w hrel Q => by
  have := h ops o hg a w hrel Q
  split at this
  · rename_i hw
    rw [if_pos hw]
    exact this.imp (Oper.wp_mono fun a' w' ⟨h1, s', ⟨y, h2, h4⟩, h3⟩ => ⟨h1, y, h4, h2 _ _ h3⟩) id
  · rename_i hw
    rw [if_neg hw]
    obtain ⟨h1, s', ⟨y, h2, h4⟩, h3⟩ := this
    exact ⟨h1, y, h4, h2 _ _ h3⟩
theorem AOne.gcalleT {f : FuncId} {xs : List Opd} {b : Bool} {y : AV} (hg : gdB (Aw.look s.tm t) want = some b)
    (hs : b = true → SpecAt E P f [] (xs.map fun x => (borA 4 s (s.ev x)).strip) (Gives (· = y))) (hy : plainA y = true) (hd : dstOk E.n d = true) (hb : b = true → allOb (borOb 4 s) (xs.map s.ev) ∧ allOb (fun x => x.guard = true) (xs.map s.ev))
    (h : K (s.putO d (.opt b y))) : AOne P E m ⟨d, some (t, want), .call f xs⟩ s K := by
  cases b with
  | true =>
    obtain ⟨h1, h2⟩ := hb rfl
    exact AOne.weakK (AOne.guardT hg (AOne.calleT ((hs rfl).args (EntL.strips fun x hx => allOb_mem h2 _ (List.mem_map_of_mem hx))) hy hd h1 ⟨_, weak_put Ent.opt, h⟩))
  | false => exact AOne.weakK (AOne.guardF hd hg ⟨_, weak_put Ent.off, h⟩)
theorem AWpQ.gcalleT {Q : Exit → St → Prop} {f : FuncId} {xs : List Opd} {gs : List GOp} {b : Bool} {y : Value} (hg : gdB (Aw.look s.tm t) want = some b)
    (hs : b = true → SpecAt E P f [] (xs.map fun x => (borA 4 s (s.ev x)).strip) (Gives (· = .val y))) (hd : dstOk E.n d = true) (hb : b = true → allOb (borOb 4 s) (xs.map s.ev) ∧ allOb (fun x => x.guard = true) (xs.map s.ev))
    (h : AWpQ P E Q gs (s.putO d (.opt b (.val y)))) : AWpQ P E Q (⟨d, some (t, want), .call f xs⟩ :: gs) s := by
  cases b with
  | true =>
    obtain ⟨h1, h2⟩ := hb rfl
    exact AWpQ.guardT hg (AWpQ.calleT ((hs rfl).args (EntL.strips fun x hx => allOb_mem h2 _ (List.mem_map_of_mem hx))) hd h1 (AWpQ.weak (weak_put Ent.opt) h))
  | false => exact AWpQ.guardF hd hg (AWpQ.weak (weak_put Ent.off) h)
end
/-- strconv.Atoi: the number, and whether there is one. -/
def numF (s : ByteArray) : Int × Bool := match Lib.atoiAll (lst s) with
  | .ok v => (v, true)
  | .«syntax» => (0, false)
  | .range => (Lib.atoiSat (lst s), false)
theorem numF_range (s : ByteArray) : -9223372036854775808 ≤ (numF s).1 ∧ (numF s).1 ≤ 9223372036854775807 := by
  unfold numF
  cases h : Lib.atoiAll (lst s) with
  | ok v => have := Lib.atoiAll_bounds h; dsimp only; omega
  | «syntax» => dsimp only; omega
  | range => have := Lib.atoiSat_bounds (lst s); dsimp only; omega
/-- An error's value. -/
def errV (ok : Bool) (x : Value) : Prop := if ok = true then x = .nilIface else ∃ t v, x = .iface t v
def errT (g : Nat) (ev : Value) : Nat × Array Value := (g, #[ev])
/-- A function that makes new blocks at most, and returns a number and an error. -/
theorem SpecG.ofPair {Γ : List (Nat × Array Value)} {P : Program} {f : FuncId} {vs : List Value} {n : Int} {A : Value → Prop} (h : ∀ w, GOk Γ w → Calls P f vs.toArray w fun e w' => ∃ x, e = .returned (.tuple #[.int .i64 n, x]) ∧ A x ∧ Go.RowKit.Below w.heap.size w w') :
    SpecG Γ P f [] (vs.map AV.val) (fun rg v => rg = [] ∧ ∃ x, A x ∧ v = .tup [I n, .val x]) := by
  intro w ρ ok vals hgo hsep hm hr
  have hv : vals = vs.toArray := by
    have h1 := rlist_vals vs vals.toList hr
    rw [← h1]
  subst hv
  refine (h w hgo).mono ?_
  rintro e w' ⟨x, rfl, hx, hb⟩
  refine ⟨[], .tup [I n, .val x], _, fun _ => none, fun _ => False, rfl, ⟨rfl, x, hx, rfl⟩, Mem.none fun _ h => h.elim, ?_, fun b h => h.elim, fun r p h => (by cases h), ⟨hb.os, hb.tape, hb.output, hb.size, fun k hk _ => hb.block k hk⟩, fun r e cs h => (by cases h)⟩
  unfold R
  refine ⟨_, rfl, ?_⟩
  simp only [RList, R]
  exact ⟨_, _, rfl, rfl, _, _, rfl, rfl, rfl⟩
theorem s49 {Γ : List (Nat × Array Value)} (e1 e2 : Value) (h1 : errT 2 e1 ∈ Γ) (h2 : errT 3 e2 ∈ Γ) (k1 : e1 = .nilIface ∨ ∃ t v, e1 = .iface t v) (k2 : e2 = .nilIface ∨ ∃ t v, e2 = .iface t v) (s : ByteArray) (hs : s.size ≤ 1000000) :
    Aw.SpecG Γ Tryd.prog 49 [] [S s] (fun rg v => rg = [] ∧ ∃ x, errV (numF s).2 x ∧ v = .tup [I (numF s).1, .val x]) :=
  SpecG.ofPair (vs := [.string s]) fun w hg => by
    cases h : Lib.atoiAll (lst s) with
    | ok v =>
      have e : numF s = (v, true) := by unfold numF; rw [h]
      rw [e]
      refine (Any.strconv_Atoi_ok laysC172 s (by omega) v h w).mono fun e w' ⟨h1, h2⟩ => ⟨_, h1, by unfold errV; rw [if_pos rfl], ?_⟩
      rcases h2 with rfl | ⟨t, rfl⟩
      · exact Go.RowKit.Below.refl _ _
      · exact Lib.bytesWorld_below _ _ _
    | «syntax» =>
      have e : numF s = (0, false) := by unfold numF; rw [h]
      rw [e]
      obtain ⟨t, m, hc⟩ := hg _ h1
      exact (Any.strconv_Atoi_syntax laysC172 s (by omega) h e1 w (by rw [show (⟨ren172.g 15, 0, none⟩ : Addr) = ⟨2, 0, none⟩ from rfl, cell_of0 (b := 2) (o := 0) hc]; rfl) k1).mono fun e w' ⟨N, h1, h2, h3, h4⟩ => ⟨_, h1, by unfold errV; rw [if_neg Bool.false_ne_true]; exact ⟨_, _, rfl⟩, h4⟩
    | range =>
      have e : numF s = (Lib.atoiSat (lst s), false) := by unfold numF; rw [h]
      rw [e]
      obtain ⟨t, m, hc⟩ := hg _ h2
      exact (Any.strconv_Atoi_range laysC172 s (by omega) h e2 w (by rw [show (⟨ren172.g 16, 0, none⟩ : Addr) = ⟨3, 0, none⟩ from rfl, cell_of0 (b := 3) (o := 0) hc]; rfl) k2).mono fun e w' ⟨N, h1, h2, h3, h4⟩ => ⟨_, h1, by unfold errV; rw [if_neg Bool.false_ne_true]; exact ⟨_, _, rfl⟩, h4⟩
/-- strings.Cut at one byte: what comes before it, what comes after, whether it is there. -/
def cutF (s : ByteArray) (b : UInt8) : ByteArray × ByteArray × Bool := if 0 ≤ Lib.indexByte (lst s) b then (s.extract 0 (Lib.indexByte (lst s) b).toNat, s.extract ((Lib.indexByte (lst s) b).toNat + 1) s.size, true) else (s, ⟨#[]⟩, false)
theorem idx_lt {s : ByteArray} {b : UInt8} (h : 0 ≤ Lib.indexByte (lst s) b) : Lib.indexByte (lst s) b < s.size := by
  by_cases hb : b ∈ lst s
  · obtain ⟨p, r, rfl, hp⟩ := txt_split hb
    rw [idx_txt hp, ByteArray.size_append, ByteArray.size_append]
    show (p.size : Int) < ((p.size + 1 + r.size : Nat) : Int)
    omega
  · rw [idx_miss hb] at h; omega
theorem cut_miss {s : ByteArray} {b : UInt8} (h : b ∉ lst s) : cutF s b = (s, ⟨#[]⟩, false) := by
  unfold cutF
  rw [idx_miss h, if_neg (by decide)]
theorem cut_hit {p r : ByteArray} {b : UInt8} (h : b ∉ lst p) : cutF (p ++ ⟨#[b]⟩ ++ r) b = (p, r, true) := by
  obtain ⟨h1, h2⟩ := ext_hit p r b
  unfold cutF
  rw [idx_txt h, if_pos (by omega), Int.toNat_natCast, h1, h2]
theorem s39 (s : ByteArray) (b : UInt8) (hs : s.size ≤ 1000000) : Aw.Spec Tryd.prog 39 [] [S s, S ⟨#[b]⟩] (Gives (· = .tup [S (cutF s b).1, S (cutF s b).2.1, B (cutF s b).2.2])) := by
  refine Aw.Spec.givesD k39 mixed rfl rfl rfl fun E hn hnp hp => ?_
  unfold a39
  simp (config := { maxSteps := 2000000 }) only [go_sem, ↓reduceIte, Int.reduceToNat, Nat.reduceMul, Int.reduceBEq, Int.reduceBNe, Nat.reduceBEq, Nat.reduceAdd, Nat.reduceSub, Nat.reduceLeDiff, Nat.reduceEqDiff, Nat.reduceLT, reduceCtorEq]
  (refine AWpL.calle (s46 s b) rfl (by rw [hn]; rfl) (by simp (config := { maxSteps := 2000000 }) only [go_sem, ↓reduceIte, Int.reduceToNat, Nat.reduceMul, Int.reduceBEq, Int.reduceBNe, Nat.reduceBEq, Nat.reduceAdd, Nat.reduceSub, Nat.reduceLeDiff, Nat.reduceEqDiff, Nat.reduceLT, reduceCtorEq]) (AWpL.ofM hn rfl ?_); simp (config := { maxSteps := 2000000 }) only [go_sem, ↓reduceIte, Int.reduceToNat, Nat.reduceMul, Int.reduceBEq, Int.reduceBNe, Nat.reduceBEq, Nat.reduceAdd, Nat.reduceSub, Nat.reduceLeDiff, Nat.reduceEqDiff, Nat.reduceLT, reduceCtorEq])
  refine ⟨fun h => ?_, fun h => ?_⟩
  · have h0 : 0 ≤ Lib.indexByte (lst s) b := by simpa using h
    have hlt := idx_lt h0
    have e1 : IntKind.i64.wrap (Lib.indexByte (lst s) b + ((#[b] : Array UInt8).size : Nat)) = Lib.indexByte (lst s) b + 1 := w64 (by show _ ≤ _ + 1; omega) (by show _ + 1 ≤ _; omega)
    have e2 : (Lib.indexByte (lst s) b + 1).toNat = (Lib.indexByte (lst s) b).toNat + 1 := by omega
    rw [e1, e2]
    unfold cutF
    rw [if_pos h0]
    exact ⟨⟨by omega, by omega, by omega⟩, ⟨by omega, by omega, by omega⟩, rfl⟩
  · have h0 : ¬ 0 ≤ Lib.indexByte (lst s) b := by simpa using h
    unfold cutF
    rw [if_neg h0]
theorem s27 (s : ByteArray) (b : UInt8) (hs : s.size ≤ 1000000) : Aw.Spec Tryd.prog 27 [] [S s, S ⟨#[b]⟩] (Gives (· = .tup [S (cutF s b).1, S (cutF s b).2.1, B (cutF s b).2.2])) := by
  refine Aw.Spec.givesD k27 mixed rfl rfl rfl fun E hn hnp hp => ?_
  unfold a27
  simp (config := { maxSteps := 2000000 }) only [go_sem, ↓reduceIte, Int.reduceToNat, Nat.reduceMul, Int.reduceBEq, Int.reduceBNe, Nat.reduceBEq, Nat.reduceAdd, Nat.reduceSub, Nat.reduceLeDiff, Nat.reduceEqDiff, Nat.reduceLT, reduceCtorEq]
  (refine AWpL.calle (s39 s b hs) rfl (by rw [hn]; rfl) (by simp (config := { maxSteps := 2000000 }) only [go_sem, ↓reduceIte, Int.reduceToNat, Nat.reduceMul, Int.reduceBEq, Int.reduceBNe, Nat.reduceBEq, Nat.reduceAdd, Nat.reduceSub, Nat.reduceLeDiff, Nat.reduceEqDiff, Nat.reduceLT, reduceCtorEq]) (AWpL.ofM hn rfl ?_); simp (config := { maxSteps := 2000000 }) only [go_sem, ↓reduceIte, Int.reduceToNat, Nat.reduceMul, Int.reduceBEq, Int.reduceBNe, Nat.reduceBEq, Nat.reduceAdd, Nat.reduceSub, Nat.reduceLeDiff, Nat.reduceEqDiff, Nat.reduceLT, reduceCtorEq])
end Go.Proofs.YtemgclhenkbikaaDoor
