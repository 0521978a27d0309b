/- A logic of abstract states for walks: what an operation does to a state is what it does. Part 1. -/
import Derived.Test.YtmkodhpbjedfkaaAwC
set_option linter.unusedVariables false
set_option linter.unusedSimpArgs false
namespace Go.Proofs.Ytmkodhpbjedfkaa.Aw
open Go.RowKit

/-- The operation's result, and what holds behind it. 'st': it is the same in every world that has what this one has. -/
def Outc (E : Env) (s' : St) (z : AV) (a : Act) (w : World) (st mild : Bool) (r : World → Result Next) : Prop :=
  (∃ v ρ' ok', (∀ w', Ext w w' → r w' = .ok (.value v) w') ∧ RelM E s' a w ρ' ok' ∧ R w ok' ρ' z v) ∨
  (st = false ∧ ∃ v w' ρ' ok', (r w = .ok (.value v) w' ∨ (r w = .ok .skip w' ∧ v = undef)) ∧ RelM E s' a w' ρ' ok' ∧ R w' ok' ρ' z v ∧ (mild = true → Ext w w'))

section
variable {P : Program} {E : Env} {s s' : St} {a : Act} {w : World} {ρ : Nat → Option (Option Place)} {ok : Nat → Prop} {ev : Opd → AV} {z : AV}

theorem run_value {x : Sem Value} {v : Value} {w' : World} (h : x.run P w = .ok v w') : (do pure (Next.value (← x)) : Sem Next).run P w = .ok (.value v) w' := by simp [h]
theorem run_unit {x : Sem Unit} {w' : World} (h : x.run P w = .ok () w') : (do x; pure Next.skip : Sem Next).run P w = .ok .skip w' := by simp [h]
theorem Outc.same (hr : RelM E s a w ρ ok) {v : Value} {r : World → Result Next} {st m : Bool} (h : ∀ w', Ext w w' → r w' = .ok (.value v) w') (hz : R w ok ρ z v) : Outc E s z a w st m r :=
  .inl ⟨v, ρ, ok, h, hr, hz⟩
theorem Outc.new {v : Value} {w' : World} {ρ' ok'} {r : World → Result Next} {m : Bool} (h : r w = .ok (.value v) w' ∨ (r w = .ok .skip w' ∧ v = undef)) (hr : RelM E s' a w' ρ' ok') (hz : R w' ok' ρ' z v) (hm : m = true → Ext w w') : Outc E s' z a w false m r :=
  .inr ⟨rfl, v, w', ρ', ok', h, hr, hz, hm⟩

theorem Ext.cell {w w' : World} (he : Ext w w') {b o : Nat} {v : Value} (h : w.cell? ⟨b, o, none⟩ = some v) : w'.cell? ⟨b, o, none⟩ = some v := by
  have hb : b < w.heap.size := by
    rcases Nat.lt_or_ge b w.heap.size with h1 | h1
    · exact h1
    · simp [World.cell?, Array.getElem?_eq_none h1] at h
  rw [cell_same (he.block b hb)]; exact h
/-! #### Opening -/
theorem R_val {x v : Value} (h : R w ok ρ (.val x) v) : v = x := by unfold R at h; exact h
theorem R_val_mk (x : Value) : R w ok ρ (.val x) x := by unfold R; rfl
theorem R_agg {cs : List AV} {v : Value} (h : R w ok ρ (.agg cs) v) : ∃ vs : Array Value, v = .agg vs ∧ RList w ok ρ cs vs.toList := by unfold R at h; exact h
theorem R_tup {cs : List AV} {v : Value} (h : R w ok ρ (.tup cs) v) : ∃ vs : Array Value, v = .tuple vs ∧ RList w ok ρ cs vs.toList := by unfold R at h; exact h
theorem R_agg_mk {cs : List AV} {vs : Array Value} (h : RList w ok ρ cs vs.toList) : R w ok ρ (.agg cs) (.agg vs) := by unfold R; exact ⟨vs, rfl, h⟩
theorem R_strip {x : AV} {v : Value} (hg : x.guard = true) (h : R w ok ρ x v) : R w ok ρ x.strip v := by
  cases x with
  | opt c y => unfold R at h; exact h.1 hg
  | _ => exact h

theorem pickAV_ok {b : Bool} {x y : AV} {vx vy : Value} (hx : b = true → R w ok ρ x vx) (hy : b = false → R w ok ρ y vy) : R w ok ρ (pickAV b x y) (bif b then vx else vy) := by
  unfold pickAV
  split
  · cases b
    · have := R_val (hy rfl); simp [this]; exact R_val_mk _
    · have := R_val (hx rfl); simp [this]; exact R_val_mk _
  · split
    · rename_i hk
      cases b
      · have := R_val (hy rfl); simp [this, hk]; exact R_val_mk _
      · have := R_val (hx rfl); simp [this, hk]; exact R_val_mk _
    · unfold R; trivial
  · cases b
    · have := R_val (hy rfl); simp [this]; exact R_val_mk _
    · have := R_val (hx rfl); simp [this]; exact R_val_mk _
  · unfold R; trivial

theorem run_intDiv_quo {k : IntKind} {x y : Int} (h : y ≠ 0) : (Op.intDiv .quo k x y).run P w = .ok (.int k (k.wrap (x.tdiv y))) w := by
  unfold Op.intDiv; rw [if_neg h]; rfl
theorem run_intDiv_rem {k : IntKind} {x y : Int} (h : y ≠ 0) : (Op.intDiv .rem k x y).run P w = .ok (.int k (x.tmod y)) w := by
  unfold Op.intDiv; rw [if_neg h]; rfl
theorem intBin_ok {op : BinOp} {k : IntKind} {x y : Int} {ob : Prop} (h : intBin op k x y = some (z, ob)) (hob : ob) (hs : op ≠ .shl ∧ op ≠ .shr) (ty : TypeId) :
    ∃ v, z = .val v ∧ ∀ w, (binOp op ty (.int k x) (.int k y)).run P w = .ok v w := by
  cases op <;> simp only [intBin, Option.some.injEq, Prod.mk.injEq, reduceCtorEq] at h
  case quo =>
    obtain ⟨rfl, rfl⟩ := h
    refine ⟨_, rfl, fun w => ?_⟩
    simp only [binOp, ne_eq, not_true_eq_false, if_false]
    exact run_intDiv_quo hob
  case rem =>
    obtain ⟨rfl, rfl⟩ := h
    refine ⟨_, rfl, fun w => ?_⟩
    simp only [binOp, ne_eq, not_true_eq_false, if_false]
    exact run_intDiv_rem hob
  all_goals
    obtain ⟨rfl, rfl⟩ := h
    refine ⟨_, rfl, fun w => ?_⟩
    simp [binOp, Op.intArith, Op.intBits, Op.intCmp]

theorem strBin_ok {op : BinOp} {x y : ByteArray} {ob : Prop} (h : strBin op x y = some (z, ob)) (hob : ob) (ty : TypeId) :
    ∃ v, z = .val v ∧ ∀ w, (binOp op ty (.string x) (.string y)).run P w = .ok v w := by
  cases op <;> simp only [strBin, Option.some.injEq, Prod.mk.injEq, reduceCtorEq] at h
  case add =>
    obtain ⟨rfl, rfl⟩ := h
    refine ⟨_, rfl, fun w => ?_⟩
    have hm : ¬ ((x.size + y.size : Nat) : Int) > IntKind.i64.max := by
      have : IntKind.i64.max = 9223372036854775807 := by decide
      omega
    simp only [binOp, Op.stringOp]
    rw [if_neg hm]; rfl
  all_goals
    obtain ⟨rfl, rfl⟩ := h
    refine ⟨_, rfl, fun w => ?_⟩
    simp [binOp, Op.stringOp]

theorem binAV_ok {op : BinOp} {x y : AV} {vx vy : Value} {ob : Prop} (h : binAV op x y = some (z, ob)) (hob : ob) (hx : R w ok ρ x vx) (hy : R w ok ρ y vy) (ty : TypeId) (ox oy : Operand) :
    ∃ v, (∀ w, (do eqGuard op ty ox oy vx vy; binOp op ty vx vy : Sem Value).run P w = .ok v w) ∧ R w ok ρ z v := by
  unfold binAV at h
  split at h
  · rename_i k x1 k' y1
    obtain rfl := R_val hx
    obtain rfl := R_val hy
    have hg : ∀ w, (eqGuard op ty ox oy (.int k x1) (.int k' y1)).run P w = .ok () w := fun w => by unfold eqGuard; cases op <;> rfl
    split at h
    · simp only [Option.some.injEq, Prod.mk.injEq] at h
      obtain ⟨rfl, rfl⟩ := h
      refine ⟨_, fun w => ?_, R_val_mk _⟩
      simp only [Sem.run_bind, hg, Result.andThen_ok]
      simp only [binOp, Op.shift]
      rw [if_neg (by omega)]; rfl
    · simp only [Option.some.injEq, Prod.mk.injEq] at h
      obtain ⟨rfl, rfl⟩ := h
      refine ⟨_, fun w => ?_, R_val_mk _⟩
      simp only [Sem.run_bind, hg, Result.andThen_ok]
      simp only [binOp, Op.shift]
      rw [if_neg (by omega)]; rfl
    · rename_i h1 h2
      split at h
      · rename_i hk
        subst hk
        obtain ⟨v, rfl, hv⟩ := intBin_ok (P := P) h hob ⟨fun e => h1 e, fun e => h2 e⟩ ty
        refine ⟨v, fun w => ?_, R_val_mk _⟩
        simp only [Sem.run_bind, hg, Result.andThen_ok]
        exact hv w
      · cases h
  · rename_i x1 y1
    obtain rfl := R_val hx
    obtain rfl := R_val hy
    obtain ⟨v, rfl, hv⟩ := strBin_ok (P := P) h hob ty
    have hg : ∀ w, (eqGuard op ty ox oy (.string x1) (.string y1)).run P w = .ok () w := fun w => by unfold eqGuard; cases op <;> rfl
    refine ⟨v, fun w => ?_, R_val_mk _⟩
    simp only [Sem.run_bind, hg, Result.andThen_ok]
    exact hv w
  · cases h

/-! #### Pointers -/
theorem reg_some {rg : List Reg} {r : Nat} {g : Reg} (h : rg.getD r .dead = g) (hg : g ≠ .dead) : rg[r]? = some g := by
  rw [List.getD_eq_getElem?_getD] at h
  cases hr : rg[r]? with
  | none => rw [hr] at h; exact absurd h.symm hg
  | some g' => rw [hr] at h; simpa using h

theorem flatten_get {els : List (List AV)} {sz : Nat} (hl : ∀ el ∈ els, el.length = sz) : ∀ (i j : Nat) (el : List AV) (x : AV), els[i]? = some el → el[j]? = some x → els.flatten[i * sz + j]? = some x := by
  induction els with
  | nil => intro i j el x h; simp at h
  | cons e els ih =>
    intro i j el x h hx
    have he : e.length = sz := hl e List.mem_cons_self
    cases i with
    | zero =>
      obtain rfl : e = el := by simpa using h
      have hj : j < e.length := (List.getElem?_eq_some_iff.1 hx).1
      simp only [List.flatten_cons, Nat.zero_mul, Nat.zero_add]
      rw [List.getElem?_append_left hj]; exact hx
    | succ i =>
      have h1 := ih (fun el hm => hl el (List.mem_cons_of_mem _ hm)) i j el x (by simpa using h) hx
      simp only [List.flatten_cons]
      rw [List.getElem?_append_right (by rw [he, Nat.succ_mul]; omega), he, show (i + 1) * sz + j - sz = i * sz + j by rw [Nat.succ_mul]; omega]
      exact h1

theorem ptrCells_ok (hr : RelM E s a w ρ ok) {x : AV} {v : Value} {cs : List AV} {o : Nat} {ob : Prop} (h : ptrCells s x = some (cs, o, ob)) (hob : ob) (hx : R w ok ρ x v) :
    ∃ b o', v = .pointer (some ⟨b, o', none⟩) ∧ ∀ j y, cs[o + j]? = some y → ∃ u, w.cell? ⟨b, o' + j, none⟩ = some u ∧ R w ok ρ y u := by
  unfold ptrCells at h
  split at h
  · simp only [Option.some.injEq, Prod.mk.injEq] at h; obtain ⟨rfl, rfl, rfl⟩ := h
    unfold R Rc at hx
    obtain ⟨b, o', rfl, h1, h2⟩ := hx
    refine ⟨b, o', rfl, fun j y hy => ?_⟩
    obtain ⟨u, h3, h4⟩ := RcCells_get h2 j y (by simpa using hy)
    exact ⟨u, h3, R_of_Rc _ _ h4⟩
  · rename_i r i o1
    unfold R at hx
    obtain ⟨p, h1, rfl⟩ := hx
    split at h
    · rename_i e cs' hg
      simp only [Option.some.injEq, Prod.mk.injEq] at h; obtain ⟨rfl, rfl, rfl⟩ := h
      obtain ⟨b, C, h2, h3, h4⟩ := hr.mem.reg r _ (reg_some hg (by simp))
      rw [h1] at h2
      obtain rfl := by simpa using h2
      refine ⟨b, _, rfl, fun j y hy => ?_⟩
      obtain ⟨u, h5, h6⟩ := RList_get h4 _ y hy
      refine ⟨u, ?_, h6⟩
      rw [cell_of h3]
      simp only [hob, Nat.zero_mul, Nat.zero_add]
      rw [← Array.getElem?_toList]; exact h5
    · rename_i e sz els hg
      simp only [Option.some.injEq, Prod.mk.injEq] at h; obtain ⟨rfl, rfl, rfl⟩ := h
      rcases hr.mem.reg r _ (reg_some hg (by simp)) with ⟨b, d, C, pre, vs, rest, h2, h3, h4, h5, h6, h7⟩ | ⟨h2, h3⟩
      · rw [h1] at h2
        obtain rfl := by simpa using h2
        refine ⟨b, _, rfl, fun j y hy => ?_⟩
        have hel : els[i]? = some (els.getD i []) := by
          rw [List.getD_eq_getElem?_getD, List.getElem?_eq_getElem hob]; rfl
        have hfl := flatten_get h6 i (o1 + j) _ y hel hy
        obtain ⟨u, h8, h9⟩ := RcList_get h7 _ y hfl
        refine ⟨u, ?_, R_of_Rc _ _ h9⟩
        rw [cell_of h3, ← Array.getElem?_toList, h4]
        dsimp only
        rw [List.getElem?_append_right (by omega), h5, show d + i * sz + o1 + j - d = i * sz + (o1 + j) by omega]
        have hlt : i * sz + (o1 + j) < vs.length := (List.getElem?_eq_some_iff.1 h8).1
        rw [List.getElem?_append_left hlt]; exact h8
      · rw [h2] at hob; simp at hob
    · cases h
  · cases h

theorem run_isAgg {d : TypeDesc} {ty : TypeId} (hd : P.underlying ty = some d) : (isAgg ty).run P w = .ok (isAg d) w := by
  unfold isAgg underlying
  simp [hd]
  cases d <;> rfl
theorem run_sizeOf {i : TypeInfo} {ty : TypeId} (hi : P.info? ty = some i) : (sizeOf ty).run P w = .ok i.size w := by
  unfold sizeOf typeInfo
  simp [hi]
theorem run_underlying {d : TypeDesc} {ty : TypeId} (hd : P.underlying ty = some d) : (underlying ty).run P w = .ok d w := by
  unfold underlying
  simp [hd]

theorem load_ok (hr : RelM E s a w ρ ok) {d : TypeDesc} {i : TypeInfo} {ty : TypeId} (hd : P.underlying ty = some d) (hi : P.info? ty = some i) {x : AV} {v : Value} (hx : R w ok ρ x v)
    {cs : List AV} {o : Nat} {ob : Prop} (h : ptrCells s x = some (cs, o, ob)) (hob : ob) (hn : o + i.size ≤ cs.length) (h1 : isAg d = false → i.size = 1) :
    ∃ b o' u, v = .pointer (some ⟨b, o', none⟩) ∧ (∀ w', Ext w w' → (loadVar ty ⟨b, o', none⟩).run P w' = .ok u w') ∧ R w ok ρ (bif isAg d then .agg ((cs.drop o).take i.size) else cs.getD o .any) u := by
  obtain ⟨b, o', rfl, hc⟩ := ptrCells_ok hr h hob hx
  have hat : CellsAt w ok ρ b o' ((cs.drop o).take i.size) := fun j y hy => by
    have hj : j < i.size := by
      rcases Nat.lt_or_ge j i.size with h | h
      · exact h
      · rw [List.getElem?_take, if_neg (by omega)] at hy; cases hy
    rw [List.getElem?_take, if_pos hj, List.getElem?_drop] at hy
    exact hc j y hy
  obtain ⟨us, h2, h3⟩ := hat.vals
  have hl : us.length = i.size := by rw [RList_length h2]; simp; omega
  cases hag : isAg d with
  | true =>
    refine ⟨b, o', .agg us.toArray, rfl, fun w' he => ?_, R_agg_mk h2⟩
    have := run_loadCells (P := P) (w := w') (b := b) (o := o') us 0 #[] (fun j u hu => Ext.cell he (by simpa using h3 j u hu))
    rw [hl] at this
    simp [loadVar, run_isAgg hd, hag, run_sizeOf hi, loadCells, this]
  | false =>
    have hs := h1 hag
    obtain ⟨y, hy⟩ : ∃ y, cs[o]? = some y := ⟨_, List.getElem?_eq_getElem (by omega)⟩
    obtain ⟨u, h4, h5⟩ := hc 0 y (by simpa using hy)
    refine ⟨b, o', u, rfl, fun w' he => ?_, ?_⟩
    · simp only [Nat.add_zero] at h4
      replace h4 := Ext.cell he h4
      simp [loadVar, run_isAgg hd, hag, h4]
    · simp only [cond_false, List.getD_eq_getElem?_getD, hy]; exact h5
theorem snd_load (hr : RelM E s a w ρ ok) {d : TypeDesc} {i : TypeInfo} {ty : TypeId} (hd : P.underlying ty = some d) (hi : P.info? ty = some i) {x : AV} {v : Value} (hx : R w ok ρ x v)
    {cs : List AV} {o : Nat} {ob : Prop} (h : ptrCells s x = some (cs, o, ob)) (hob : ob) (hn : o + i.size ≤ cs.length) (h1 : isAg d = false → i.size = 1) :
    Outc E s (bif isAg d then .agg ((cs.drop o).take i.size) else cs.getD o .any) a w true true (fun w => (do pure (Next.value (← Instr.loadAt ty v)) : Sem Next).run P w) := by
  obtain ⟨b, o', u, rfl, h2, h3⟩ := load_ok (P := P) hr hd hi hx h hob hn h1
  refine Outc.same hr (fun w' he => run_value ?_) h3
  simp [Instr.loadAt, Instr.sureAddr, h2 w' he]
end
end Go.Proofs.Ytmkodhpbjedfkaa.Aw
