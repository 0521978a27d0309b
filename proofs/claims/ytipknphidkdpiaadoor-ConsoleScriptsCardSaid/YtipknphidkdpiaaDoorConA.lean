/- The console: numbers printed and read, texts cut and counted: from the library. -/
import Derived.Test.YtipknphidkdpiaaDoorAwZl
import Derived.Test.YtipknphidkdpiaaDoorAwZm
import Derived.Test.YtipknphidkdpiaaDoorTxtR
import Derived.Shelf.Strconv.Itoa3
import Derived.Shelf.Strconv.AtoiAll
import Derived.Sort.Grow
import Derived.Lib.ItoaLen
set_option linter.unusedVariables false
set_option linter.unusedSimpArgs false
namespace Go.Proofs.YtipknphidkdpiaaDoor
open Go.Proofs.YtipknphidkdpiaaDoor.Aw
attribute [local go_sem] Int.natCast_zero Int.natCast_one bne_self_eq_false beq_self_eq_true Bool.not_true Bool.not_false Option.isSome_none Option.isSome_some Aw.bkM_nil Option.getD_some Option.getD_none Nat.sub_zero Int.toNat_zero Aw.frzS Aw.frzT Aw.frzA Aw.frzL Aw.frzR Aw.frzO Aw.frzOL Aw.frzOT Aw.frzOR Aw.killS Aw.mapT Aw.mapR Aw.killM Aw.resAVs Aw.resAV Aw.quietOps Aw.wpP Aw.wpT Aw.wpS Aw.AOp.mild List.getElem?_cons_zero List.getElem?_cons_succ Bool.and_false Bool.and_self Bool.false_and Aw.opOb Aw.gdB Aw.Rnd Aw.subTm List.length_map Int.toNat_natCast and_self Aw.SeqC Aw.stops Aw.Ends Aw.looks Aw.renA Aw.renL Aw.renT Aw.renS Aw.wpO Aw.aop Aw.putTm Aw.St.ev Aw.St.put Aw.St.putO Aw.binAV Aw.intBin Aw.strBin Aw.pickAV Aw.optInt Aw.AV.strip Aw.AV.guard Aw.AV.cells Aw.gdOb Aw.AOp.opds Aw.AOp.still Aw.ptrCells Aw.St.reg Aw.fillAV Aw.fillOb Aw.elsOb Aw.splice Aw.firm Aw.cellish Aw.AV.shut Aw.shutAll Aw.Seq Aw.Blk Aw.retS_nil Aw.mapA Aw.mapL Aw.borA Aw.borOb Aw.allOb Aw.tupOf Aw.params Aw.Opd.of Array.toList Value.cells List.map_cons List.map_nil List.getD_cons_zero List.getD_cons_succ List.getD_nil List.length_cons List.length_nil List.take_succ_cons List.take_zero List.take_nil List.drop_zero List.drop_succ_cons List.drop_nil List.set_cons_zero List.set_cons_succ List.append_nil List.nil_append List.cons_append List.all_cons List.all_nil cond_false cond_true if_true if_false true_and and_true Bool.and_true Bool.true_and Option.map_some Option.map_none false_implies forall_const implies_true forall_eq imp_self Bool.cond_false_right Bool.cond_true_left beq_true beq_false Bool.not_eq_true' Bool.false_eq_true Nat.zero_add Nat.add_zero Aw.eqCells Aw.stopDraw Aw.skipS Aw.exactCap Aw.revealS Aw.srcEls Aw.srcSz
attribute [local go_sem ↓] Aw.look_nil Aw.look_ite Aw.wpL_nil Aw.wpL_op Aw.wpL_gd Aw.wpQ_nil Aw.wpQ_op Aw.wpQ_gd Aw.wpC_draw Aw.wpC_reg Aw.wpC_skip Aw.wpC_ret Aw.wpC_exit Aw.wpC_seq Aw.wpC_block Aw.wpC_loop Aw.wpC_cond Aw.stopAt_nil Aw.stopAt_cons Aw.wpD_skip Aw.wpD_ret Aw.wpD_exit Aw.wpD_region Aw.wpD_draw Aw.wpM_nil Aw.wpM_op Aw.wpM_gd Aw.wpD_seq Aw.wpD_block Aw.wpD_loop Aw.wpD_cond
def ren171 : Go.Shelf.Ren := ⟨fun f => if f = 129 then 51 else if f = 171 then 14 else if f = 243 then 24 else if f = 246 then 29 else if f = 283 then 40 else if f = 284 then 41 else if f = 285 then 42 else if f = 286 then 43 else if f = 317 then 50 else if f = 318 then 52 else if f = 319 then 53 else if f = 320 then 54 else if f = 337 then 58 else if f = 338 then 59 else f, fun t => if t = 0 then 0 else if t = 2 then 2 else if t = 3 then 3 else if t = 4 then 4 else if t = 5 then 5 else if t = 9 then 9 else if t = 20 then 20 else if t = 37 then 63 else if t = 46 then 73 else if t = 51 then 88 else if t = 53 then 75 else if t = 171 then 74 else if t = 173 then 78 else if t = 212 then 92 else if t = 213 then 93 else if t = 232 then 106 else if t = 233 then 107 else t, fun g => if g = 17 then 3 else if g = 18 then 6 else if g = 19 then 7 else g⟩
set_option maxRecDepth 100000 in
theorem lays171 : Go.Proofs.Lays.n171 Tryd.prog ren171 := by
  constructor
  all_goals first
    | kernel_rfl
    | (intro w; rfl)
    | (intro w; exact Go.RowKit.run_isAgg_plain (by kernel_rfl) rfl)
set_option maxRecDepth 100000 in
theorem laysM171 : Go.Proofs.LaysM.n171 Tryd.prog ren171 := by
  constructor
  · exact lays171
  all_goals kernel_rfl

def ren138 : Go.Shelf.Ren := ⟨fun f => if f = 138 then 12 else if f = 143 then 20 else if f = 195 then 18 else if f = 217 then 36 else if f = 218 then 19 else if f = 219 then 28 else if f = 224 then 38 else if f = 225 then 37 else if f = 266 then 48 else if f = 267 then 39 else if f = 314 then 49 else f, fun t => if t = 0 then 0 else if t = 3 then 3 else if t = 4 then 4 else if t = 5 then 5 else if t = 9 then 9 else if t = 46 then 73 else if t = 51 then 88 else if t = 146 then 89 else t, fun g => if g = 1 then 0 else if g = 3 then 4 else if g = 4 then 5 else g⟩
set_option maxRecDepth 100000 in
theorem lays138 : Go.Proofs.Lays.n138 Tryd.prog ren138 := by
  constructor
  all_goals first
    | kernel_rfl
    | (intro w; rfl)
    | (intro w; exact Go.RowKit.run_isAgg_plain (by kernel_rfl) rfl)

def ren172 : Go.Shelf.Ren := ⟨fun f => if f = 129 then 51 else if f = 171 then 14 else if f = 172 then 16 else if f = 205 then 47 else if f = 243 then 24 else if f = 244 then 26 else if f = 245 then 27 else if f = 246 then 29 else if f = 247 then 31 else if f = 279 then 32 else if f = 280 then 33 else if f = 281 then 34 else if f = 282 then 35 else if f = 283 then 40 else if f = 284 then 41 else if f = 285 then 42 else if f = 286 then 43 else if f = 287 then 45 else if f = 316 then 46 else if f = 317 then 50 else if f = 318 then 52 else if f = 319 then 53 else if f = 320 then 54 else if f = 321 then 56 else if f = 322 then 57 else if f = 337 then 58 else if f = 338 then 59 else f, fun t => if t = 0 then 0 else if t = 2 then 2 else if t = 3 then 3 else if t = 4 then 4 else if t = 5 then 5 else if t = 9 then 9 else if t = 20 then 20 else if t = 21 then 21 else if t = 37 then 63 else if t = 46 then 73 else if t = 51 then 88 else if t = 53 then 75 else if t = 75 then 51 else if t = 76 then 52 else if t = 80 then 108 else if t = 85 then 67 else if t = 127 then 97 else if t = 143 then 98 else if t = 145 then 100 else if t = 167 then 66 else if t = 168 then 69 else if t = 171 then 74 else if t = 173 then 78 else if t = 175 then 82 else if t = 210 then 86 else if t = 212 then 92 else if t = 213 then 93 else if t = 232 then 106 else if t = 233 then 107 else t, fun g => if g = 15 then 1 else if g = 16 then 2 else if g = 17 then 3 else if g = 18 then 6 else if g = 19 then 7 else g⟩
set_option maxRecDepth 100000 in
theorem lays172 : Go.Proofs.Lays.n172 Tryd.prog ren172 := by
  constructor
  all_goals first
    | kernel_rfl
    | (intro w; rfl)
    | (intro w; exact Go.RowKit.run_isAgg_plain (by kernel_rfl) rfl)
set_option maxRecDepth 100000 in
theorem laysM172 : Go.Proofs.LaysM.n172 Tryd.prog ren172 := by
  constructor
  · exact lays172
  all_goals first
    | kernel_rfl
    | (intro w; rfl)
    | (intro w; exact Go.RowKit.run_isAgg_plain (by kernel_rfl) rfl)

/-- The table of the powers of ten. -/
def powT : Nat × Array Value := (3, (Lib.pow10Tab.map fun z => Value.int .u64 z).toArray)
theorem grow_below (w : World) (k : Nat) (os : Array Obj) : Go.RowKit.Below w.heap.size w (Go.Sort.grow (w.drewN k) os) := by
  refine ⟨rfl, rfl, rfl, ?_, fun j hj => ?_⟩
  · show w.heap.size ≤ (w.heap ++ os).size
    rw [Array.size_append]; omega
  · show (w.heap ++ os)[j]? = _
    rw [Array.getElem?_append_left hj]
theorem s14 {Γ : List (Nat × Array Value)} (hΓ : powT ∈ Γ) (n : Int) (h0 : -9223372036854775808 ≤ n) (h1 : n ≤ 9223372036854775807) :
    Aw.SpecG Γ Tryd.prog 14 [] [I n] (Gives (· = S ⟨(Lib.itoa n).toArray⟩)) :=
  SpecG.ofBelow (vs := [.int .i64 n]) fun w hg => (Any.strconv_Itoa laysM171 n h0 h1 w (block_tab (by kernel_rfl) (hg _ hΓ))).mono fun e w' ⟨h1, k, os, h2⟩ => ⟨h1, by rw [h2]; exact grow_below w k os⟩
set_option maxRecDepth 100000 in
theorem laysC172 : Go.Proofs.LaysC.n172 Tryd.prog ren172 := by
  constructor
  · exact laysM172
  all_goals kernel_rfl
theorem SpecG.plain {P : Program} {f : FuncId} {rg : List Reg} {args : List AV} {Post : List Reg → AV → Prop} (h : SpecG [] P f rg args Post) : Aw.Spec P f rg args Post :=
  fun w ρ ok vals hm hr => h w ρ ok vals (fun x hx => by cases hx) (fun x hx => by cases hx) hm hr
theorem s12 (s : ByteArray) (b : UInt8) : Aw.Spec Tryd.prog 12 [] [S s, S ⟨#[b]⟩] (Gives (· = I ((lst s).count b : Nat))) :=
  SpecG.plain (SpecG.ofBelow (vs := [.string s, .string ⟨#[b]⟩]) fun w _ => (Any.strings_Count_one lays138 s b w).mono fun e w' ⟨h1, h2⟩ => ⟨h1, by rw [h2]; exact Go.RowKit.Below.refl _ _⟩)
section
variable {P : Program} {E : Env} {s : St} {m : Bool} {K : St → Prop} {d : Option Nat} {t : Nat} {want : Bool}
theorem AOne.guardT {op : AOp} (h : gdB (Aw.look s.tm t) want = some true) (k : AOne P E m ⟨d, none, op⟩ s K) : AOne P E m ⟨d, some (t, want), op⟩ s K := fun ops o hg a w hrel Q => by
  have h3 := k ops (bare o) (gop_bare hg) a w hrel Q
  obtain ⟨ρ, ok, hr⟩ := hrel
  obtain ⟨j, hg0, hg1⟩ := guard_inv hg
  rw [if_pos (wanted_none (o := bare o) rfl _)] at h3
  rw [if_pos (wanted_gd hr hg0 hg1 h)]
  exact h3
theorem AOne.guardF {op : AOp} (hd : dstOk E.n d = true) (h : gdB (Aw.look s.tm t) want = some false) (k : K (s.putO d (.opt false .any))) : AOne P E m ⟨d, some (t, want), op⟩ s K := fun ops o hg a w hrel Q => by
  obtain ⟨ρ, ok, hr⟩ := hrel
  obtain ⟨j, hg0, hg1⟩ := guard_inv hg
  obtain ⟨_, hdst, _⟩ := gop_guard hg
  rw [if_neg (by rw [wanted_gd hr hg0 hg1 h]; simp)]
  refine ⟨fun _ => Ext.refl w, _, k, ρ, ok, ?_⟩
  rw [← hdst]
  exact hr.putO hd (by unfold R; exact ⟨fun e => (by cases e), fun _ => rfl⟩)
theorem AOne.weakK {g : GOp} (h : AOne P E m g s fun x => ∃ y, Weak E x y ∧ K y) : AOne P E m g s K := fun ops o hg a w hrel Q => by
  have := h ops o hg a w hrel Q
  split at this
  · rename_i hw
    rw [if_pos hw]
    exact this.imp (Oper.wp_mono fun a' w' ⟨h1, s', ⟨y, h2, h4⟩, h3⟩ => ⟨h1, y, h4, h2 _ _ h3⟩) id
  · rename_i hw
    rw [if_neg hw]
    obtain ⟨h1, s', ⟨y, h2, h4⟩, h3⟩ := this
    exact ⟨h1, y, h4, h2 _ _ h3⟩
theorem AOne.gcalleT {f : FuncId} {xs : List Opd} {b : Bool} {y : AV} (hg : gdB (Aw.look s.tm t) want = some b)
    (hs : b = true → SpecAt E P f [] (xs.map fun x => (borA 4 s (s.ev x)).strip) (Gives (· = y))) (hy : plainA y = true) (hd : dstOk E.n d = true) (hb : b = true → allOb (borOb 4 s) (xs.map s.ev) ∧ allOb (fun x => x.guard = true) (xs.map s.ev))
    (h : K (s.putO d (.opt b y))) : AOne P E m ⟨d, some (t, want), .call f xs⟩ s K := by
  cases b with
  | true =>
    obtain ⟨h1, h2⟩ := hb rfl
    exact AOne.weakK (AOne.guardT hg (AOne.calleT ((hs rfl).args (EntL.strips fun x hx => allOb_mem h2 _ (List.mem_map_of_mem hx))) hy hd h1 ⟨_, weak_put Ent.opt, h⟩))
  | false => exact AOne.weakK (AOne.guardF hd hg ⟨_, weak_put Ent.off, h⟩)
theorem AWpQ.gcalleT {Q : Exit → St → Prop} {f : FuncId} {xs : List Opd} {gs : List GOp} {b : Bool} {y : Value} (hg : gdB (Aw.look s.tm t) want = some b)
    (hs : b = true → SpecAt E P f [] (xs.map fun x => (borA 4 s (s.ev x)).strip) (Gives (· = .val y))) (hd : dstOk E.n d = true) (hb : b = true → allOb (borOb 4 s) (xs.map s.ev) ∧ allOb (fun x => x.guard = true) (xs.map s.ev))
    (h : AWpQ P E Q gs (s.putO d (.opt b (.val y)))) : AWpQ P E Q (⟨d, some (t, want), .call f xs⟩ :: gs) s := by
  cases b with
  | true =>
    obtain ⟨h1, h2⟩ := hb rfl
    exact AWpQ.guardT hg (AWpQ.calleT ((hs rfl).args (EntL.strips fun x hx => allOb_mem h2 _ (List.mem_map_of_mem hx))) hd h1 (AWpQ.weak (weak_put Ent.opt) h))
  | false => exact AWpQ.guardF hd hg (AWpQ.weak (weak_put Ent.off) h)
end
/-- strconv.Atoi: the number, and whether there is one. -/
def numF (s : ByteArray) : Int × Bool := match Lib.atoiAll (lst s) with
  | .ok v => (v, true)
  | .«syntax» => (0, false)
  | .range => (Lib.atoiSat (lst s), false)
theorem numF_range (s : ByteArray) : -9223372036854775808 ≤ (numF s).1 ∧ (numF s).1 ≤ 9223372036854775807 := by
  unfold numF
  cases h : Lib.atoiAll (lst s) with
  | ok v => have := Lib.atoiAll_bounds h; dsimp only; omega
  | «syntax» => dsimp only; omega
  | range => have := Lib.atoiSat_bounds (lst s); dsimp only; omega
/-- An error's value. -/
def errV (ok : Bool) (x : Value) : Prop := if ok = true then x = .nilIface else ∃ t v, x = .iface t v
def errT (g : Nat) (ev : Value) : Nat × Array Value := (g, #[ev])
/-- A function that makes new blocks at most, and returns a number and an error. -/
theorem SpecG.ofPair {Γ : List (Nat × Array Value)} {P : Program} {f : FuncId} {vs : List Value} {n : Int} {A : Value → Prop} (h : ∀ w, GOk Γ w → Calls P f vs.toArray w fun e w' => ∃ x, e = .returned (.tuple #[.int .i64 n, x]) ∧ A x ∧ Go.RowKit.Below w.heap.size w w') :
    SpecG Γ P f [] (vs.map AV.val) (fun rg v => rg = [] ∧ ∃ x, A x ∧ v = .tup [I n, .val x]) := by
  intro w ρ ok vals hgo hsep hm hr
  have hv : vals = vs.toArray := by
    have h1 := rlist_vals vs vals.toList hr
    rw [← h1]
  subst hv
  refine (h w hgo).mono ?_
  rintro e w' ⟨x, rfl, hx, hb⟩
  refine ⟨[], .tup [I n, .val x], _, fun _ => none, fun _ => False, rfl, ⟨rfl, x, hx, rfl⟩, Mem.none fun _ h => h.elim, ?_, fun b h => h.elim, fun r p h => (by cases h), ⟨hb.os, hb.tape, hb.output, hb.size, fun k hk _ => hb.block k hk⟩, fun r e cs h => (by cases h)⟩
  unfold R
  refine ⟨_, rfl, ?_⟩
  simp only [RList, R]
  exact ⟨_, _, rfl, rfl, _, _, rfl, rfl, rfl⟩
theorem s16 {Γ : List (Nat × Array Value)} (e1 e2 : Value) (h1 : errT 1 e1 ∈ Γ) (h2 : errT 2 e2 ∈ Γ) (k1 : e1 = .nilIface ∨ ∃ t v, e1 = .iface t v) (k2 : e2 = .nilIface ∨ ∃ t v, e2 = .iface t v) (s : ByteArray) (hs : s.size ≤ 1000000) :
    Aw.SpecG Γ Tryd.prog 16 [] [S s] (fun rg v => rg = [] ∧ ∃ x, errV (numF s).2 x ∧ v = .tup [I (numF s).1, .val x]) :=
  SpecG.ofPair (vs := [.string s]) fun w hg => by
    cases h : Lib.atoiAll (lst s) with
    | ok v =>
      have e : numF s = (v, true) := by unfold numF; rw [h]
      rw [e]
      refine (Any.strconv_Atoi_ok laysC172 s (by omega) v h w).mono fun e w' ⟨h1, h2⟩ => ⟨_, h1, by unfold errV; rw [if_pos rfl], ?_⟩
      rcases h2 with rfl | ⟨t, rfl⟩
      · exact Go.RowKit.Below.refl _ _
      · exact Lib.bytesWorld_below _ _ _
    | «syntax» =>
      have e : numF s = (0, false) := by unfold numF; rw [h]
      rw [e]
      obtain ⟨t, m, hc⟩ := hg _ h1
      exact (Any.strconv_Atoi_syntax laysC172 s (by omega) h e1 w (by rw [show (⟨ren172.g 15, 0, none⟩ : Addr) = ⟨1, 0, none⟩ from rfl, cell_of (b := 1) (o := 0) hc]; rfl) k1).mono fun e w' ⟨N, h1, h2, h3, h4⟩ => ⟨_, h1, by unfold errV; rw [if_neg Bool.false_ne_true]; exact ⟨_, _, rfl⟩, h4⟩
    | range =>
      have e : numF s = (Lib.atoiSat (lst s), false) := by unfold numF; rw [h]
      rw [e]
      obtain ⟨t, m, hc⟩ := hg _ h2
      exact (Any.strconv_Atoi_range laysC172 s (by omega) h e2 w (by rw [show (⟨ren172.g 16, 0, none⟩ : Addr) = ⟨2, 0, none⟩ from rfl, cell_of (b := 2) (o := 0) hc]; rfl) k2).mono fun e w' ⟨N, h1, h2, h3, h4⟩ => ⟨_, h1, by unfold errV; rw [if_neg Bool.false_ne_true]; exact ⟨_, _, rfl⟩, h4⟩
def itoaB (n : Int) : ByteArray := ⟨(Lib.itoa n).toArray⟩
/-- The errors' values are interface values. -/
structure Errs (Γ : List (Nat × Array Value)) (e1 e2 : Value) : Prop where
  m1 : errT 1 e1 ∈ Γ
  m2 : errT 2 e2 ∈ Γ
  k1 : e1 = .nilIface ∨ ∃ t v, e1 = .iface t v
  k2 : e2 = .nilIface ∨ ∃ t v, e2 = .iface t v
def numB (s : ByteArray) : Int × Bool := ((numF s).1, (numF s).2 && ((itoaB (numF s).1).toList == s.toList))
end Go.Proofs.YtipknphidkdpiaaDoor
