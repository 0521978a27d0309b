/- A logic of abstract states for walks: calls, continued. -/
import Derived.Test.YtmkodhpbjedfkaaAwM
set_option linter.unusedVariables false
set_option linter.unusedSimpArgs false
namespace Go.Proofs.Ytmkodhpbjedfkaa.Aw
open Go.RowKit

section
variable {w : World} {ok : Nat → Prop} {ρ ρ' : Nat → Option (Option Place)} {m : Nat → Option Nat}
mutual
theorem R_map2 (h : ∀ r j, m r = some j → ρ' j = ρ r ∨ ρ r = none) : ∀ (x : AV) (v : Value), R w ok ρ x v → R w ok ρ' (mapA m x) v
  | .hnd r off n k ex, v, hx => by
    unfold mapA
    split
    · rename_i j hj
      unfold R at hx ⊢
      rcases h r j hj with h1 | h1
      · rw [h1]; exact hx
      · rw [h1] at hx
        rcases hx with ⟨p, cc, ad, h2, _⟩ | ⟨h2, _⟩ <;> cases h2
    · unfold R; trivial
  | .ptr r i o, v, hx => by
    unfold mapA
    split
    · rename_i j hj
      unfold R at hx ⊢
      rcases h r j hj with h1 | h1
      · rw [h1]; exact hx
      · rw [h1] at hx
        obtain ⟨p, h2, _⟩ := hx; cases h2
    · unfold R; trivial
  | .fn f caps, v, hx => by
    unfold mapA; unfold R at hx ⊢
    obtain ⟨vs, h1, h2⟩ := hx
    exact ⟨vs, h1, RList_map2 h _ _ h2⟩
  | .agg cs, v, hx => by
    unfold mapA; unfold R at hx ⊢
    obtain ⟨vs, h1, h2⟩ := hx
    exact ⟨vs, h1, RList_map2 h _ _ h2⟩
  | .tup cs, v, hx => by
    unfold mapA; unfold R at hx ⊢
    obtain ⟨vs, h1, h2⟩ := hx
    exact ⟨vs, h1, RList_map2 h _ _ h2⟩
  | .opt c x, v, hx => by
    unfold mapA; unfold R at hx ⊢
    exact ⟨fun hc => R_map2 h x v (hx.1 hc), hx.2⟩
  | .any, v, hx => by unfold mapA R; trivial
  | .val x, v, hx => by unfold mapA; unfold R at hx ⊢; exact hx
  | .imm a b c d, v, hx => by unfold mapA; unfold R at hx ⊢; exact hx
  | .pim cs, v, hx => by unfold mapA; unfold R at hx ⊢; exact hx
theorem RList_map2 (h : ∀ r j, m r = some j → ρ' j = ρ r ∨ ρ r = none) : ∀ (xs : List AV) (vs : List Value), RList w ok ρ xs vs → RList w ok ρ' (mapL m xs) vs
  | [], vs, hx => by unfold mapL; unfold RList at hx ⊢; exact hx
  | x :: xs, vs, hx => by
    unfold mapL; unfold RList at hx ⊢
    obtain ⟨v, vs', e, h1, h2⟩ := hx
    exact ⟨v, vs', e, R_map2 h x v h1, RList_map2 h xs vs' h2⟩
end
end
/-- A function of the program with a body of its own. -/
def fnOk (P : Program) (f : FuncId) : Bool := match P.funcs[f]? with
  | some fn => fn.body.isSome && fn.name != "runtime.NumGoroutine"
  | none => false

section
variable {P : Program} {E : Env} {Q : Exit → St → Prop} {s s' : St} {a : Act} {w : World} {ρ : Nat → Option (Option Place)} {ok : Nat → Prop}

theorem run_callFunc {f : FuncId} (h : fnOk P f = true) (vals : Array Value) : (callFunc f vals).run P w = .ok (.enter f vals) w := by
  unfold fnOk at h
  split at h
  · rename_i fn hf
    simp only [Bool.and_eq_true, bne_iff_ne, ne_eq] at h
    have hb : ¬ fn.body = none := fun e => by rw [e] at h; simp at h
    simp [callFunc, hf, h.2, hb]
  · cases h

set_option maxHeartbeats 1000000 in
theorem call_inv {o : Oper} {f : FuncId} {xs : List Opd} (hc : comp P o = some (.call f xs)) : fnOk P f = true ∧ ∃ vals : Array Value, vals.toList = xs.map (Opd.cv a) ∧ (execOp a.eval o).run P w = .ok (.enter f vals) w := by
  replace hc := comp0_of hc (by simp)
  obtain ⟨dst, op, type, ps, after, guard⟩ := o
  cases op <;> simp only [comp0, Option.some.injEq, reduceCtorEq] at hc
  case call c =>
    obtain ⟨callee, args, argTypes⟩ := c
    dsimp only at hc
    cases callee with
    | invoke r m => simp only [reduceCtorEq] at hc
    | builtin b =>
      cases b <;> simp only [reduceCtorEq] at hc
      all_goals (repeat' (split at hc)) <;> simp only [Option.some.injEq, reduceCtorEq] at hc
    | value g =>
      cases g <;> simp only [Option.some.injEq, reduceCtorEq] at hc
      rename_i f'
      split at hc <;> first | (cases hc; done) | skip
      rename_i fn hf
      split at hc <;> first | (cases hc; done) | skip
      rename_i hcond
      simp only [Option.some.injEq, AOp.call.injEq] at hc
      obtain ⟨rfl, rfl⟩ := hc
      have hok : fnOk P f' = true := by unfold fnOk; rw [hf]; simp [hcond.1, hcond.2]
      refine ⟨hok, args.map a.eval, ?_, ?_⟩
      · simp only [Array.toList_map, List.map_map]
        refine List.map_congr_left fun x _ => ?_
        exact (Opd.cv_of a x).symm
      · simp only [execOp, resolve, Act.eval, Deferred.ofValue, Sem.run_bind, Sem.run_pure, Result.andThen_ok, invoke]
        have := run_callFunc (w := w) hok (args.map a.eval)
        simpa using this
  case makeFunc fn first caps =>
    cases fn <;> simp only [reduceCtorEq] at hc
    split at hc <;> simp only [Option.some.injEq, reduceCtorEq] at hc
  all_goals (repeat' (split at hc)) <;> first | (simp only [Option.some.injEq, reduceCtorEq] at hc; done) | (simp only [Option.map_eq_some_iff, reduceCtorEq, and_false, exists_false] at hc; done) | skip


set_option maxHeartbeats 1000000 in
theorem callv_inv {o : Oper} {g : Opd} {xs : List Opd} (hc : comp P o = some (.callv g xs)) {f : FuncId} {caps : Array Value} (hg : g.cv a = .func (.func f) #[] caps) (hok : fnOk P f = true) :
    ∃ vals : Array Value, vals.toList = xs.map (Opd.cv a) ∧ (execOp a.eval o).run P w = .ok (.enter f (vals ++ caps)) w := by
  replace hc := comp0_of hc (by simp)
  obtain ⟨dst, op, type, ps, after, guard⟩ := o
  cases op <;> simp only [comp0, Option.some.injEq, reduceCtorEq] at hc
  case call c =>
    obtain ⟨callee, args, argTypes⟩ := c
    dsimp only at hc
    cases callee with
    | invoke r m => simp only [reduceCtorEq] at hc
    | builtin b =>
      cases b <;> simp only [reduceCtorEq] at hc
      all_goals (repeat' (split at hc)) <;> simp only [Option.some.injEq, reduceCtorEq] at hc
    | value g' =>
      have key : g = .of g' → xs = args.toList.map .of → ∃ vals : Array Value, vals.toList = xs.map (Opd.cv a) ∧ (execOp a.eval { dst := dst, op := .call { callee := .value g', args := args, argTypes := argTypes }, type := type, pos := ps, after := after, guard := guard }).run P w = .ok (.enter f (vals ++ caps)) w := by
        rintro rfl rfl
        rw [Opd.cv_of] at hg
        refine ⟨args.map a.eval, ?_, ?_⟩
        · simp only [Array.toList_map, List.map_map]
          refine List.map_congr_left fun x _ => ?_
          exact (Opd.cv_of a x).symm
        · simp only [execOp, resolve, hg, Deferred.ofValue, Sem.run_bind, Sem.run_pure, Result.andThen_ok, invoke]
          have := run_callFunc (w := w) hok (args.map a.eval ++ caps)
          simpa using this
      cases g' with
      | func f' =>
        dsimp only at hc
        split at hc <;> first | (cases hc; done) | skip
        split at hc <;> simp only [Option.some.injEq, reduceCtorEq] at hc
      | tmp t => simp only [Option.some.injEq, AOp.callv.injEq] at hc; exact key hc.1.symm hc.2.symm
      | const t => simp only [Option.some.injEq, AOp.callv.injEq] at hc; exact key hc.1.symm hc.2.symm
      | global t => simp only [Option.some.injEq, AOp.callv.injEq] at hc; exact key hc.1.symm hc.2.symm
  case makeFunc fn first caps =>
    cases fn <;> simp only [reduceCtorEq] at hc
    split at hc <;> simp only [Option.some.injEq, reduceCtorEq] at hc
  all_goals (repeat' (split at hc)) <;> first | (simp only [Option.some.injEq, reduceCtorEq] at hc; done) | (simp only [Option.map_eq_some_iff, reduceCtorEq, and_false, exists_false] at hc; done) | skip

/-! ### Coming back from a call that was lent the regions of π -/
def kpM (s : St) (π : List Nat) : Nat → Option Nat := fun r => match pos π r with
  | some _ => bif isBox (s.reg r) then some r else none
  | none => some r
def bkM (π : List Nat) (L : Nat) : Nat → Option Nat := fun i => match π[i]? with
  | some r => some r
  | none => some (L + (i - π.length))
def retRg (s : St) (π : List Nat) (rg : List Reg) : Nat → List Reg → List Reg
  | _, [] => (rg.drop π.length).map (mapR (bkM π s.rg.length))
  | r, g :: l => (match pos π r with
    | some i => mapR (bkM π s.rg.length) (rg.getD i .dead)
    | none => mapR (kpM s π) g) :: retRg s π rg (r + 1) l
def retS (s : St) (π : List Nat) (dst : Option Nat) (rg : List Reg) (x : AV) : St :=
  St.putO ⟨mapT (kpM s π) s.tm, retRg s π rg 0 s.rg⟩ dst (mapA (bkM π s.rg.length) x)

theorem retRg_get (s : St) (π : List Nat) (rg : List Reg) : ∀ (l : List Reg) (r i : Nat), (retRg s π rg r l)[i]? =
    if i < l.length then (match pos π (r + i) with | some j => some (mapR (bkM π s.rg.length) (rg.getD j .dead)) | none => (l[i]?).map (mapR (kpM s π)))
    else ((rg.drop π.length).map (mapR (bkM π s.rg.length)))[i - l.length]?
  | [], r, i => by simp [retRg]
  | g :: l, r, 0 => by
    simp only [retRg, List.getElem?_cons_zero, List.length_cons, Nat.zero_lt_succ, if_true, Nat.add_zero, Option.map_some]
    cases pos π r <;> rfl
  | g :: l, r, i + 1 => by
    simp only [retRg, List.getElem?_cons_succ, List.length_cons, Nat.add_lt_add_iff_right, Nat.add_sub_add_right]
    rw [retRg_get s π rg l (r + 1) i, show r + 1 + i = r + (i + 1) by omega]
theorem retRg_len (s : St) (π : List Nat) (rg : List Reg) : ∀ (l : List Reg) (r : Nat), (retRg s π rg r l).length = l.length + (rg.length - π.length)
  | [], r => by simp [retRg]
  | g :: l, r => by simp only [retRg, List.length_cons, retRg_len s π rg l (r + 1)]; omega

def piOk (len : Nat) (π : List Nat) : Bool := ((List.range π.length).all fun j => pos π (π.getD j 0) == some j) && π.all (fun r => Nat.blt r len)
theorem piOk_inj {len : Nat} {π : List Nat} (h : piOk len π = true) : (∀ j r, π[j]? = some r → pos π r = some j) ∧ ∀ r ∈ π, r < len := by
  simp only [piOk, Bool.and_eq_true] at h
  refine ⟨fun j r hj => ?_, fun r hm => ?_⟩
  · have hlt := (List.getElem?_eq_some_iff.1 hj).1
    have := List.all_eq_true.1 h.1 j (List.mem_range.2 hlt)
    rw [List.getD_eq_getElem?_getD, hj] at this
    simpa using this
  · have := List.all_eq_true.1 h.2 r hm
    simpa [Nat.blt_eq] using this

theorem RegOk_map {okA okB : Nat → Prop} {w' : World} {ρ' ρN : Nat → Option (Option Place)} {m : Nat → Option Nat} (hk : ∀ b, okA b → okB b) (hm : ∀ r j, m r = some j → ρN j = ρ' r) {i r : Nat} (hi : ρN r = ρ' i) {g : Reg} (h : RegOk w' okA ρ' i g) : RegOk w' okB ρN r (mapR m g) := by
  have hrd : Reads okA w' w' := fun _ _ _ _ h => h
  cases g with
  | dead => exact hi.trans h
  | box e cs =>
    obtain ⟨b, C, h1, h2, h3⟩ := h
    exact ⟨b, C, by rw [hi, mapL_length]; exact h1, h2, RList_frame hrd hk (fun _ _ x => x) _ _ (RList_map hm _ _ h3)⟩
  | arr e sz els =>
    rcases h with ⟨b, d, C, pre, vs, rest, h1, h2, h3, h4, h5, h6⟩ | ⟨h1, h2⟩
    · exact .inl ⟨b, d, C, pre, vs, rest, hi.trans h1, h2, h3, h4, h5, RcList_frame hrd hk _ _ h6⟩
    · exact .inr ⟨h1, hi.trans h2⟩

theorem ret_core (hr : RelM E s a w ρ ok) {π : List Nat} (hπ : piOk s.rg.length π = true) (hpin : ∀ r ∈ π, isBox (s.reg r) = true ∨ E.pin r = none)
    {w' : World} {okX : Nat → Prop} {ρ' : Nat → Option (Option Place)} {rg : List Reg} {x : AV} {v : Value} {dst : Option Nat} (hd : dstOk E.n dst = true)
    (hm : Mem w' okX ρ' rg) (hx : R w' okX ρ' x v) (hok : ∀ b, okX b → ok b ∨ w.heap.size ≤ b ∨ ∃ r0 p0, pl π ρ r0 = some (some p0) ∧ p0.b = b) (hlen : π.length ≤ rg.length)
    (hown : ∀ r p, ρ' r = some (some p) → w.heap.size ≤ p.b ∨ ∃ r0 p0, pl π ρ r0 = some (some p0) ∧ p0.b = p.b)
    (hK : Keeps w.heap.size (fun b => ∃ r0 p0, pl π ρ r0 = some (some p0) ∧ p0.b = b) w w')
    (hbox : ∀ r, isBox (s.reg (π.getD r 0)) = true → r < π.length → ρ' r = pl π ρ r) :
    RelM E (retS s π dst rg x) (a.put dst v) w' (fun r => if r < s.rg.length then (match pos π r with | some i => ρ' i | none => ρ r) else ρ' (r - s.rg.length + π.length)) (fun b => ok b ∨ okX b) := by
  obtain ⟨hinj, hlt⟩ := piOk_inj hπ
  generalize hN : (fun r => if r < s.rg.length then (match pos π r with | some i => ρ' i | none => ρ r) else ρ' (r - s.rg.length + π.length)) = ρN
  have hpl : ∀ {r i}, pos π r = some i → pl π ρ i = ρ r := fun h => pl_of h
  have hposlt : ∀ {r i}, pos π r = some i → i < π.length := fun h => (List.getElem?_eq_some_iff.1 (pos_get h)).1
  have hN1 : ∀ {r i}, pos π r = some i → ρN r = ρ' i := fun {r i} h => by
    have : r < s.rg.length := hlt r (List.mem_of_getElem? (pos_get h))
    rw [← hN]; simp only [this, if_true, h]
  have hN2 : ∀ {r}, pos π r = none → r < s.rg.length → ρN r = ρ r := fun {r} h h' => by
    rw [← hN]; simp only [h', if_true, h]
  have hN3 : ∀ {r}, s.rg.length ≤ r → ρN r = ρ' (r - s.rg.length + π.length) := fun {r} h => by
    rw [← hN]; simp only [show ¬ r < s.rg.length by omega, if_false]
  have hkp : ∀ r j, kpM s π r = some j → ρN j = ρ r ∨ (s.rg.length ≤ r ∧ ρ r = none) := fun r j h => by
    unfold kpM at h
    split at h
    · rename_i i hi
      obtain ⟨h1, h2⟩ := cond_some' h
      simp only [Option.some.injEq] at h2
      subst h2
      left
      rw [hN1 hi, ← hpl hi]
      refine hbox i ?_ (hposlt hi)
      rw [List.getD_eq_getElem?_getD, pos_get hi]; exact h1
    · rename_i hi
      simp only [Option.some.injEq] at h
      subst h
      rcases Nat.lt_or_ge r s.rg.length with h1 | h1
      · exact .inl (hN2 hi h1)
      · exact .inr ⟨h1, hr.mem.out r h1⟩
  have hbk : ∀ r j, bkM π s.rg.length r = some j → ρN j = ρ' r := fun r j h => by
    unfold bkM at h
    split at h
    · rename_i q hq
      simp only [Option.some.injEq] at h
      subst h
      exact hN1 (hinj _ _ hq)
    · rename_i hq
      simp only [Option.some.injEq] at h
      subst h
      have : π.length ≤ r := by simpa using hq
      rw [hN3 (by omega), show s.rg.length + (r - π.length) - s.rg.length + π.length = r by omega]
  have hsz : w.heap.size ≤ w'.heap.size := hK.size
  have hsame : ∀ b, b < w.heap.size → (∀ r0 p0, pl π ρ r0 = some (some p0) → p0.b ≠ b) → w'.heap[b]? = w.heap[b]? := fun b hb hno => hK.block b hb fun ⟨r0, p0, h1, h2⟩ => hno r0 p0 h1 h2
  have hokno : ∀ b, ok b → ∀ r0 p0, pl π ρ r0 = some (some p0) → p0.b ≠ b := fun b hb r0 p0 h1 e => by
    unfold pl at h1
    obtain ⟨q, _, h2⟩ := Option.bind_eq_some_iff.1 h1
    exact (hr.mem.own q p0 h2).2 (e ▸ hb)
  have hrd : Reads ok w w' := Reads.of_same fun b hb => hsame b (hr.mem.okl b hb) (hokno b hb)
  have holdno : ∀ {r p}, pos π r = none → ρ r = some (some p) → ∀ r0 p0, pl π ρ r0 = some (some p0) → p0.b ≠ p.b := fun {r p} h h' r0 p0 h1 e => by
    unfold pl at h1
    obtain ⟨q, h2, h3⟩ := Option.bind_eq_some_iff.1 h1
    have := hr.mem.inj q r p0 p h3 h' e
    subst this
    rw [hinj _ _ h2] at h; cases h
  have hokm : ∀ b, ok b → ok b ∨ okX b := fun b h => .inl h
  have hokx : ∀ b, okX b → ok b ∨ okX b := fun b h => .inr h
  -- an old value
  have hold : ∀ y u, R w ok ρ y u → R w' (fun b => ok b ∨ okX b) ρN (mapA (kpM s π) y) u := fun y u hy => by
    have h1 : R w' (fun b => ok b ∨ okX b) ρ y u := R_frame hrd hokm (fun _ _ x => x) _ _ hy
    -- a number beyond the regions stands for nothing
    refine R_map2 (fun r j hj => ?_) _ _ h1
    exact hkp r j hj |>.elim .inl fun h => .inr h.2
  have hregs : ∀ r g, (retRg s π rg 0 s.rg)[r]? = some g → RegOk w' (fun b => ok b ∨ okX b) ρN r g := fun r g hg => by
    rw [retRg_get] at hg
    split at hg
    · rename_i hlt'
      rw [Nat.zero_add] at hg
      split at hg
      · rename_i i hi
        simp only [Option.some.injEq] at hg
        subst hg
        have hil : i < rg.length := Nat.lt_of_lt_of_le (hposlt hi) hlen
        exact RegOk_map hokx hbk (hN1 hi) (hm.reg i (rg.getD i .dead) (by rw [List.getD_eq_getElem?_getD, List.getElem?_eq_getElem hil]; rfl))
      · rename_i hi
        obtain ⟨g0, hg0, rfl⟩ := Option.map_eq_some_iff.1 hg
        have h0 := hr.mem.reg r g0 hg0
        cases g0 with
        | dead => exact (hN2 hi hlt').trans h0
        | box e cs =>
          obtain ⟨b, C, h1, h2, h3⟩ := h0
          refine ⟨b, C, by rw [hN2 hi hlt', mapL_length]; exact h1, ?_, ?_⟩
          · rw [hsame b (hr.mem.own _ _ h1).1 (holdno hi h1)]; exact h2
          · have h4 : RList w' (fun b => ok b ∨ okX b) ρ cs C.toList := RList_frame hrd hokm (fun _ _ x => x) _ _ h3
            exact RList_map2 (fun r j hj => hkp r j hj |>.elim .inl fun h => .inr h.2) _ _ h4
        | arr e sz els =>
          rcases h0 with ⟨b, d, C, pre, vs, rest, h1, h2, h3, h4, h5, h6⟩ | ⟨h1, h2⟩
          · exact .inl ⟨b, d, C, pre, vs, rest, (hN2 hi hlt').trans h1, by rw [hsame b (hr.mem.own _ _ h1).1 (holdno hi h1)]; exact h2, h3, h4, h5, RcList_frame hrd hokm _ _ h6⟩
          · exact .inr ⟨h1, (hN2 hi hlt').trans h2⟩
    · rename_i hge
      rw [List.getElem?_map, Option.map_eq_some_iff] at hg
      obtain ⟨g0, hg0, rfl⟩ := hg
      rw [List.getElem?_drop] at hg0
      refine RegOk_map hokx hbk ?_ (hm.reg _ g0 hg0)
      rw [hN3 (by omega), Nat.add_comm]
  have hNcase : ∀ r p, ρN r = some (some p) → (∃ i, ρ' i = some (some p) ∧ (pos π r = some i ∨ (s.rg.length ≤ r ∧ i = r - s.rg.length + π.length))) ∨ (pos π r = none ∧ ρ r = some (some p)) := fun r p h => by
    rcases Nat.lt_or_ge r s.rg.length with h1 | h1
    · cases hp : pos π r with
      | some i => rw [hN1 hp] at h; exact .inl ⟨i, h, .inl rfl⟩
      | none => rw [hN2 hp h1] at h; exact .inr ⟨rfl, h⟩
    · rw [hN3 h1] at h; exact .inl ⟨_, h, .inr ⟨h1, rfl⟩⟩
  have hmix : ∀ {i r p q}, ρ' i = some (some p) → pos π r = none → ρ r = some (some q) → p.b ≠ q.b := fun {i r p q} h1 h2 h3 e => by
    rcases hown i p h1 with h4 | ⟨r0, p0, h4, h5⟩
    · have := (hr.mem.own r q h3).1; omega
    · exact holdno h2 h3 r0 p0 h4 (h5.trans e)
  have hmem : Mem w' (fun b => ok b ∨ okX b) ρN (retRg s π rg 0 s.rg) := by
    refine ⟨fun b hb => ?_, fun r r' p p' h1 h2 h3 => ?_, fun r p h => ?_, hregs, fun r h => ?_⟩
    · rcases hb with hb | hb
      · exact Nat.lt_of_lt_of_le (hr.mem.okl b hb) hsz
      · exact hm.okl b hb
    · rcases hNcase r p h1 with ⟨i, h4, h5⟩ | ⟨h4, h5⟩ <;> rcases hNcase r' p' h2 with ⟨i', h6, h7⟩ | ⟨h6, h7⟩
      · have e := hm.inj i i' p p' h4 h6 h3
        subst e
        rcases h5 with h5 | ⟨h5, h5'⟩ <;> rcases h7 with h7 | ⟨h7, h7'⟩
        · have e1 := pos_get h5; have e2 := pos_get h7
          rw [e1] at e2; exact Option.some.inj e2
        · have := hposlt h5; omega
        · have := hposlt h7; omega
        · omega
      · exact absurd h3 (hmix h4 h6 h7)
      · exact absurd h3.symm (hmix h6 h4 h5)
      · exact hr.mem.inj r r' p p' h5 h7 h3
    · rcases hNcase r p h with ⟨i, h4, _⟩ | ⟨h4, h5⟩
      · refine ⟨(hm.own i p h4).1, fun h6 => ?_⟩
        rcases h6 with h6 | h6
        · rcases hown i p h4 with h7 | ⟨r0, p0, h7, h8⟩
          · have := hr.mem.okl _ h6; omega
          · exact hokno _ h6 r0 p0 h7 h8
        · exact (hm.own i p h4).2 h6
      · have h6 := hr.mem.own r p h5
        refine ⟨Nat.lt_of_lt_of_le h6.1 hsz, fun h7 => ?_⟩
        rcases h7 with h7 | h7
        · exact h6.2 h7
        · rcases hok _ h7 with h8 | h8 | ⟨r0, p0, h8, h9⟩
          · exact h6.2 h8
          · omega
          · exact holdno h4 h5 r0 p0 h8 h9
    · rw [retRg_len] at h
      rw [hN3 (by omega)]
      exact hm.out _ (by omega)
  have hrel : RelM E ⟨mapT (kpM s π) s.tm, retRg s π rg 0 s.rg⟩ a w' ρN (fun b => ok b ∨ okX b) := by
    refine ⟨hmem, fun n => ?_, hr.siz, hr.dfr, ⟨hK.os.trans hr.kps.os, hK.tape.trans hr.kps.tape, hK.output.trans hr.kps.output, Nat.le_trans hr.kps.size hsz, fun k hk hno => ?_⟩, Nat.le_trans hr.bas hsz, fun r p h => ?_, fun b hb => ?_, fun r p h => ?_⟩
    · show R w' _ ρN (look (mapT (kpM s π) s.tm) n) _
      rw [look_map]; exact hold _ _ (hr.tm n)
    · rw [hsame k (Nat.lt_of_lt_of_le hk hr.bas) fun r0 p0 h1 e => ?_]
      · exact hr.kps.block k hk hno
      · unfold pl at h1
        obtain ⟨q, _, h2⟩ := Option.bind_eq_some_iff.1 h1
        rcases hr.ownr q p0 h2 with h3 | h3
        · omega
        · exact hno (e ▸ h3)
    · rcases hNcase r p h with ⟨i, h4, _⟩ | ⟨_, h5⟩
      · rcases hown i p h4 with h7 | ⟨r0, p0, h7, h8⟩
        · left; have := hr.bas; omega
        · unfold pl at h7
          obtain ⟨q, _, h9⟩ := Option.bind_eq_some_iff.1 h7
          rw [← h8]; exact hr.ownr q p0 h9
      · exact hr.ownr r p h5
    · rcases hb with hb | hb
      · exact hr.okr b hb
      · rcases hok b hb with h1 | h1 | ⟨r0, p0, h1, e1⟩
        · exact hr.okr b h1
        · right; left; have := hr.bas; omega
        · unfold pl at h1
          obtain ⟨q, _, h2⟩ := Option.bind_eq_some_iff.1 h1
          rcases hr.ownr q p0 h2 with h3 | h3
          · right; left; rw [← e1]; exact h3
          · right; right; rw [← e1]; exact h3
    · have h1 := hr.pin r p h
      have hlt' : r < s.rg.length := by
        rcases Nat.lt_or_ge r s.rg.length with h2 | h2
        · exact h2
        · rw [hr.mem.out r h2] at h1; cases h1
      cases hp : pos π r with
      | none => rw [hN2 hp hlt']; exact h1
      | some i =>
        rw [hN1 hp]
        have hmemr : r ∈ π := List.mem_of_getElem? (pos_get hp)
        rcases hpin r hmemr with h2 | h2
        · rw [hbox i (by rw [List.getD_eq_getElem?_getD, pos_get hp]; exact h2) (hposlt hp), hpl hp]; exact h1
        · rw [h2] at h; cases h
  unfold retS
  exact hrel.putO hd (R_frame (fun _ _ _ _ h => h) hokx (fun _ _ x => x) _ _ (R_map hbk _ _ hx))
end
end Go.Proofs.Ytmkodhpbjedfkaa.Aw
