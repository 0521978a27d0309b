/- A logic of abstract states for walks: rules for calls, and for regions that draw their order. -/
import Derived.Test.YtoickofcmngdjaaAwN
import Derived.Laws.Append
set_option linter.unusedVariables false
set_option linter.unusedSimpArgs false
namespace Go.Proofs.Ytoickofcmngdjaa.Aw
open Go.RowKit

/-! ### Values without parts that are only read -/
mutual
def NI : AV → Prop
  | .any => True
  | .val _ => True
  | .imm .. => False
  | .pim _ => False
  | .hnd .. => True
  | .ptr .. => True
  | .fn _ caps => NIL caps
  | .agg cs => NIL cs
  | .tup cs => NIL cs
  | .opt _ x => NI x
def NIL : List AV → Prop
  | [] => True
  | x :: xs => NI x ∧ NIL xs
end
def NIR : Reg → Prop
  | .dead => True
  | .box _ cs => NIL cs
  | .arr _ _ els => ∀ el ∈ els, NIL el
  | .tab _ cs => NIL cs
section
variable {w : World} {okA okB : Nat → Prop} {ρ : Nat → Option (Option Place)}
mutual
theorem Rc_ni : ∀ (x : AV) (v : Value), NI x → Rc w okA x v → Rc w okB x v
  | .any, v, _, _ => by unfold Rc; trivial
  | .val x, v, _, h => by unfold Rc at h ⊢; exact h
  | .imm .., v, hn, _ => by unfold NI at hn; exact hn.elim
  | .pim _, v, hn, _ => by unfold NI at hn; exact hn.elim
  | .hnd .., v, _, h => by unfold Rc at h; exact h.elim
  | .ptr .., v, _, h => by unfold Rc at h; exact h.elim
  | .fn f caps, v, hn, h => by
    unfold NI at hn; unfold Rc at h ⊢
    obtain ⟨vs, h1, h2⟩ := h
    exact ⟨vs, h1, RcList_ni _ _ hn h2⟩
  | .agg cs, v, hn, h => by
    unfold NI at hn; unfold Rc at h ⊢
    obtain ⟨vs, h1, h2⟩ := h
    exact ⟨vs, h1, RcList_ni _ _ hn h2⟩
  | .tup cs, v, hn, h => by
    unfold NI at hn; unfold Rc at h ⊢
    obtain ⟨vs, h1, h2⟩ := h
    exact ⟨vs, h1, RcList_ni _ _ hn h2⟩
  | .opt c x, v, hn, h => by
    unfold NI at hn; unfold Rc at h ⊢
    exact ⟨fun hc => Rc_ni x v hn (h.1 hc), h.2⟩
theorem RcList_ni : ∀ (xs : List AV) (vs : List Value), NIL xs → RcList w okA xs vs → RcList w okB xs vs
  | [], vs, _, h => by unfold RcList at h ⊢; exact h
  | x :: xs, vs, hn, h => by
    unfold NIL at hn; unfold RcList at h ⊢
    obtain ⟨v, vs', e, h1, h2⟩ := h
    exact ⟨v, vs', e, Rc_ni x v hn.1 h1, RcList_ni xs vs' hn.2 h2⟩
end
mutual
theorem R_ni : ∀ (x : AV) (v : Value), NI x → R w okA ρ x v → R w okB ρ x v
  | .any, v, _, _ => by unfold R; trivial
  | .val x, v, _, h => by unfold R at h ⊢; exact h
  | .imm .., v, hn, _ => by unfold NI at hn; exact hn.elim
  | .pim _, v, hn, _ => by unfold NI at hn; exact hn.elim
  | .hnd .., v, _, h => by unfold R at h ⊢; exact h
  | .ptr .., v, _, h => by unfold R at h ⊢; exact h
  | .fn f caps, v, hn, h => by
    unfold NI at hn; unfold R at h ⊢
    obtain ⟨vs, h1, h2⟩ := h
    exact ⟨vs, h1, RList_ni _ _ hn h2⟩
  | .agg cs, v, hn, h => by
    unfold NI at hn; unfold R at h ⊢
    obtain ⟨vs, h1, h2⟩ := h
    exact ⟨vs, h1, RList_ni _ _ hn h2⟩
  | .tup cs, v, hn, h => by
    unfold NI at hn; unfold R at h ⊢
    obtain ⟨vs, h1, h2⟩ := h
    exact ⟨vs, h1, RList_ni _ _ hn h2⟩
  | .opt c x, v, hn, h => by
    unfold NI at hn; unfold R at h ⊢
    exact ⟨fun hc => R_ni x v hn (h.1 hc), h.2⟩
theorem RList_ni : ∀ (xs : List AV) (vs : List Value), NIL xs → RList w okA ρ xs vs → RList w okB ρ xs vs
  | [], vs, _, h => by unfold RList at h ⊢; exact h
  | x :: xs, vs, hn, h => by
    unfold NIL at hn; unfold RList at h ⊢
    obtain ⟨v, vs', e, h1, h2⟩ := h
    exact ⟨v, vs', e, R_ni x v hn.1 h1, RList_ni xs vs' hn.2 h2⟩
end
theorem NIL_flatten : ∀ {els : List (List AV)}, (∀ el ∈ els, NIL el) → NIL els.flatten
  | [], _ => by simp [NIL]
  | el :: els, h => by
    rw [List.flatten_cons]
    have : ∀ (a b : List AV), NIL a → NIL b → NIL (a ++ b) := by
      intro a
      induction a with
      | nil => intro b _ hb; exact hb
      | cons x a ih => intro b ha hb; unfold NIL at ha; show NIL (x :: (a ++ b)); unfold NIL; exact ⟨ha.1, ih b ha.2 hb⟩
    exact this _ _ (h el List.mem_cons_self) (NIL_flatten fun x hx => h x (List.mem_cons_of_mem _ hx))
theorem Mem.ni {rg : List Reg} (h : Mem w okA ρ rg) (hn : ∀ g ∈ rg, NIR g) : Mem w (fun _ => False) ρ rg := by
  refine ⟨fun b hb => hb.elim, h.inj, fun r p hp => ⟨(h.own r p hp).1, fun x => x⟩, fun r g hg => ?_, h.out⟩
  have h0 := h.reg r g hg
  have hng := hn g (List.mem_of_getElem? hg)
  cases g with
  | dead => exact h0
  | box e cs =>
    obtain ⟨b, C, h1, h2, h3⟩ := h0
    exact ⟨b, C, h1, h2, RList_ni _ _ hng h3⟩
  | arr e sz els =>
    rcases h0 with ⟨b, d, C, pre, vs, rest, h1, h2, h3, h4, h5, h6⟩ | h0
    · exact .inl ⟨b, d, C, pre, vs, rest, h1, h2, h3, h4, h5, RcList_ni _ _ (NIL_flatten hng) h6⟩
    · exact .inr h0
  | tab e cs =>
    rcases h0 with ⟨b, d, C, pre, vs, rest, h1, h2, h3, h4, h6⟩ | h0
    · exact .inl ⟨b, d, C, pre, vs, rest, h1, h2, h3, h4, RList_ni _ _ hng h6⟩
    · exact .inr h0
end

section
variable {P : Program} {E : Env} {Q : Exit → St → Prop} {s s' : St} {a : Act} {w : World} {ρ : Nat → Option (Option Place)} {ok : Nat → Prop}

theorem args_ren (hr : RelM E s a w ρ ok) (π : List Nat) : ∀ (xs : List Opd), RList w ok (pl π ρ) (xs.map fun x => renA π (s.ev x)) (xs.map (Opd.cv a))
  | [] => by unfold List.map RList; rfl
  | x :: xs => by
    show RList w ok (pl π ρ) (renA π (s.ev x) :: xs.map fun x => renA π (s.ev x)) (x.cv a :: xs.map (Opd.cv a))
    unfold RList
    exact ⟨_, _, rfl, R_ren _ _ (hr.ev x), args_ren hr π xs⟩
theorem args_bor (hr : RelM E s a w ρ ok) : ∀ (xs : List Opd), (∀ x ∈ xs, borOb 4 s (s.ev x)) → RcList w (fun b => b < w.heap.size) (xs.map fun x => borA 4 s (s.ev x)) (xs.map (Opd.cv a))
  | [], _ => by unfold List.map RcList; rfl
  | x :: xs, h => by
    show RcList w _ (borA 4 s (s.ev x) :: xs.map fun x => borA 4 s (s.ev x)) (x.cv a :: xs.map (Opd.cv a))
    unfold RcList
    exact ⟨_, _, rfl, borA_ok hr 4 _ _ (h x List.mem_cons_self) (hr.ev x), args_bor hr xs fun y hy => h y (List.mem_cons_of_mem _ hy)⟩

theorem map_getD (l : List Nat) (g : Nat → Reg) (i : Nat) (h : i < l.length) : (l.map g)[i]? = some (g (l.getD i 0)) := by
  rw [List.getElem?_map, List.getD_eq_getElem?_getD, List.getElem?_eq_getElem h]; rfl

/-- What is handed to a callee that gets the regions of π. -/
def lent (s : St) (π : List Nat) : List Reg := π.map fun r => renR π (s.rg.getD r .dead)

theorem call_strict (hr : RelM E s a w ρ ok) {f : FuncId} {π : List Nat} {args : List AV} {vals : Array Value} {Post : List Reg → AV → Prop} (hs : Spec P f (lent s π) args Post)
    (hπ : piOk s.rg.length π = true) (hpin : ∀ r ∈ π, isBox (s.reg r) = true ∨ E.pin r = none) (ha : RList w ok (pl π ρ) args vals.toList) {dst : Option Nat} (hd : dstOk E.n dst = true) {K : Act → World → Prop}
    (h : ∀ rg x, Post rg x → π.length ≤ rg.length ∧ ∀ v w', Rel E (retS s π dst rg x) (a.put dst v) w' → K (a.put dst v) w') :
    Calls P f vals w fun e w' => ∃ v, e = .returned v ∧ K (a.put dst v) w' := by
  obtain ⟨hinj, hlt⟩ := piOk_inj hπ
  refine (hs w (pl π ρ) ok vals (hr.mem.ren hinj hlt) ha).mono ?_
  rintro e w' ⟨rg, x, v, ρ', ok', rfl, hp, hm, hx, h1, h2, h3, h4⟩
  obtain ⟨h5, h6⟩ := h rg x hp
  refine ⟨v, rfl, h6 v w' ⟨_, _, ret_core hr hπ hpin hd hm hx h1 h5 h2 h3 fun r hb hlt' => ?_⟩⟩
  have hreg : (lent s π)[r]? = some (renR π (s.reg (π.getD r 0))) := map_getD π _ r hlt'
  cases hg : s.reg (π.getD r 0) with
  | box e cs => rw [hg] at hreg; exact h4 r e (renL π cs) hreg
  | arr => rw [hg] at hb; cases hb
  | tab => rw [hg] at hb; cases hb
  | dead => rw [hg] at hb; cases hb

theorem pl_nil (ρ : Nat → Option (Option Place)) : pl [] ρ = fun _ => none := by funext r; simp [pl]
theorem Mem.none {w : World} {ok : Nat → Prop} (h : ∀ b, ok b → b < w.heap.size) : Mem w ok (fun _ => none) [] :=
  ⟨h, fun _ _ _ _ h => (by cases h), fun _ _ h => (by cases h), fun _ _ h => (by simp at h), fun _ _ => rfl⟩

theorem call_lent (hr : RelM E s a w ρ ok) {f : FuncId} {args : List AV} {vals : Array Value} {Post : List Reg → AV → Prop} (hs : Spec P f [] args Post)
    (ha : RcList w (fun b => b < w.heap.size) args vals.toList) {dst : Option Nat} (hd : dstOk E.n dst = true) {K : Act → World → Prop}
    (h : ∀ rg x, Post rg x → (NI x ∧ ∀ g ∈ rg, NIR g) ∧ ∀ v w', Rel E (retS s [] dst rg x) (a.put dst v) w' → K (a.put dst v) w') :
    Calls P f vals w fun e w' => ∃ v, e = .returned v ∧ K (a.put dst v) w' := by
  refine (hs w (fun _ => none) (fun b => b < w.heap.size) vals (Mem.none fun _ h => h) (RList_of_Rc _ _ ha)).mono ?_
  rintro e w' ⟨rg, x, v, ρ', ok', rfl, hp, hm, hx, h1, h2, h3, h4⟩
  obtain ⟨⟨h5, h5'⟩, h6⟩ := h rg x hp
  refine ⟨v, rfl, h6 v w' ⟨_, _, ret_core hr (π := []) rfl (fun r hr => by cases hr) hd (hm.ni h5') (R_ni x v h5 hx) (fun b hb => hb.elim) (Nat.zero_le _) (fun r p hp => ?_) ⟨h3.os, h3.tape, h3.output, h3.size, fun k hk _ => h3.block k hk fun ⟨r0, p0, h7, _⟩ => by cases h7⟩ fun r hb hlt' => by simp at hlt'⟩⟩
  rcases h2 r p hp with h7 | ⟨r0, p0, h7, _⟩
  · exact .inl h7
  · cases h7

theorem upon_enter {o : Oper} {f : FuncId} {vals : Array Value} {dst : Option Nat} (hd : o.dst = dst) {K : Act → World → Prop} {Q' : Exit → Act → World → Prop} (h : Calls P f vals w fun e w' => ∃ v, e = .returned v ∧ K (a.put dst v) w') :
    Oper.upon P o a K Q' (.ok (.enter f vals) w) := by
  rw [Oper.upon_enter]
  refine h.mono ?_
  rintro e w' ⟨v, rfl, hk⟩
  rw [hd]; exact hk

/-- A call, the callee getting the regions of π. -/
theorem AWpL.call (π : List Nat) {f : FuncId} {xs : List Opd} {dst : Option Nat} {gs : List GOp} {Post : List Reg → AV → Prop} (hs : Spec P f (lent s π) (xs.map fun x => renA π (s.ev x)) Post)
    (hd : dstOk E.n dst = true) (hπ : piOk s.rg.length π = true) (hpin : ∀ r ∈ π, isBox (s.reg r) = true ∨ E.pin r = none)
    (h : ∀ rg x, Post rg x → π.length ≤ rg.length ∧ AWpL P E Q gs (retS s π dst rg x)) : AWpL P E Q (⟨dst, none, .call f xs⟩ :: gs) s := fun ops l hl a w hrel => by
  obtain ⟨o, l', rfl, h1, h2⟩ := gops_cons hl
  obtain ⟨ρ, ok, hr⟩ := hrel
  obtain ⟨hc, hdst, hg⟩ := gop_guard h1
  rcases hg with ⟨hg0, _⟩ | ⟨_, _, _, _, _, hg⟩
  case inr => cases hg
  unfold wpList
  rw [if_pos (wanted_none hg0 _)]
  left
  obtain ⟨_, vals, hv, hrun⟩ := call_inv (a := a) (w := w) hc
  unfold Oper.wp
  rw [hrun]
  refine upon_enter hdst.symm (call_strict hr hs hπ hpin (by rw [hv]; exact args_ren hr π xs) hd fun rg x hp => ?_)
  obtain ⟨h3, h4⟩ := h rg x hp
  exact ⟨h3, fun v w' hr' => h4 ops l' h2 _ _ hr'⟩

/-- A call, the callee only reading. -/
theorem AWpL.callb {f : FuncId} {xs : List Opd} {dst : Option Nat} {gs : List GOp} {Post : List Reg → AV → Prop} (hs : Spec P f [] (xs.map fun x => borA 4 s (s.ev x)) Post)
    (hd : dstOk E.n dst = true) (hb : allOb (borOb 4 s) (xs.map s.ev))
    (h : ∀ rg x, Post rg x → (NI x ∧ ∀ g ∈ rg, NIR g) ∧ AWpL P E Q gs (retS s [] dst rg x)) : AWpL P E Q (⟨dst, none, .call f xs⟩ :: gs) s := fun ops l hl a w hrel => by
  obtain ⟨o, l', rfl, h1, h2⟩ := gops_cons hl
  obtain ⟨ρ, ok, hr⟩ := hrel
  obtain ⟨hc, hdst, hg⟩ := gop_guard h1
  rcases hg with ⟨hg0, _⟩ | ⟨_, _, _, _, _, hg⟩
  case inr => cases hg
  unfold wpList
  rw [if_pos (wanted_none hg0 _)]
  left
  obtain ⟨_, vals, hv, hrun⟩ := call_inv (a := a) (w := w) hc
  unfold Oper.wp
  rw [hrun]
  refine upon_enter hdst.symm (call_lent hr hs (by rw [hv]; exact args_bor hr xs fun x hx => allOb_mem hb _ (List.mem_map.2 ⟨x, hx, rfl⟩)) hd fun rg x hp => ?_)
  obtain ⟨h3, h4⟩ := h rg x hp
  exact ⟨h3, fun v w' hr' => h4 ops l' h2 _ _ hr'⟩

/-- A call of a function value. -/
theorem AWpL.callv {g : Opd} {f : FuncId} {caps : List AV} {xs : List Opd} {dst : Option Nat} {gs : List GOp} {Post : List Reg → AV → Prop} (hg : s.ev g = .fn f caps) (hf : fnOk P f = true)
    (hs : Spec P f [] (xs.map (fun x => renA [] (s.ev x)) ++ renL [] caps) Post)
    (hd : dstOk E.n dst = true) (h : ∀ rg x, Post rg x → AWpL P E Q gs (retS s [] dst rg x)) : AWpL P E Q (⟨dst, none, .callv g xs⟩ :: gs) s := fun ops l hl a w hrel => by
  obtain ⟨o, l', rfl, h1, h2⟩ := gops_cons hl
  obtain ⟨ρ, ok, hr⟩ := hrel
  obtain ⟨hc, hdst, hgd⟩ := gop_guard h1
  rcases hgd with ⟨hg0, _⟩ | ⟨_, _, _, _, _, hgd⟩
  case inr => cases hgd
  unfold wpList
  rw [if_pos (wanted_none hg0 _)]
  left
  have hfv := hr.ev g
  rw [hg] at hfv
  unfold R at hfv
  obtain ⟨vs, hv1, hv2⟩ := hfv
  obtain ⟨vals, hv, hrun⟩ := callv_inv (a := a) (w := w) hc hv1 hf
  unfold Oper.wp
  rw [hrun]
  refine upon_enter hdst.symm (call_strict (π := []) hr hs rfl (fun r hr => by cases hr) (by rw [Array.toList_append, hv]; exact RList_append (args_ren hr [] xs) (RList_ren _ _ hv2)) hd fun rg x hp => ?_)
  exact ⟨Nat.zero_le _, fun v w' hr' => h rg x hp ops l' h2 _ _ hr'⟩

/-! ### Regions that draw their order and only read -/
def AWpQ (P : Program) (E : Env) (Q : Exit → St → Prop) (gs : List GOp) (s : St) : Prop :=
  ∀ (ops : Array Oper) (l : List Oper), gops P ops l = some gs → ∀ a w, Rel E s a w → wpQuiet P ops (Ext w) (fun a' => ∀ w', Ext w w' → conc E Q .normal a' w') l a
theorem AWp.draw (hm : P.follows .mixedOrders = true) {af : List (List Nat)} {gs : List GOp} (h : AWpQ P E Q gs s) : AWp P E Q (.region true af gs) s := fun code hc a w hr => by
  cases hc with
  | @draw id ops _ hg hB => exact wp_region_quiet (C := Ext w) hm hB (Ext.drawn w _) (h ops _ hg a w hr)
theorem AWpQ.nil (h : Q .normal s) : AWpQ P E Q [] s := fun ops l hl a w hrel => by
  rw [gops_nil hl]
  obtain ⟨ρ, ok, hr⟩ := hrel
  exact fun w' he => ⟨s, h, ρ, ok, hr.ext he⟩
theorem AWpQ.cons {g : GOp} {gs : List GOp} {ob : Prop} (hst : g.op.still = true) (hs : stepOp E.n s g = some (s', ob)) (hob : ob) (h : AWpQ P E Q gs s') : AWpQ P E Q (g :: gs) s := fun ops l hl a w hrel => by
  obtain ⟨o, l', rfl, h1, h2⟩ := gops_cons hl
  obtain ⟨ρ, ok, hr⟩ := hrel
  unfold wpQuiet
  rcases stepOp_sound h1 hs hob hr with ⟨hw, v, w1, ρ', ok', h3, h4, _, h5⟩ | ⟨hw, ρ', ok', h4⟩
  · rw [if_pos hw]
    obtain ⟨rfl, h6⟩ := h5 hst
    refine ⟨v, fun w' he => ?_, h ops l' h2 _ _ ⟨ρ', ok', h4⟩⟩
    unfold Oper.quietAt
    rw [h6 w' he]
    exact ⟨rfl, rfl⟩
  · rw [if_neg (by rw [hw]; simp)]
    exact h ops l' h2 _ _ ⟨ρ', ok', h4⟩
def allStill : List GOp → Bool
  | [] => true
  | g :: gs => g.op.still && allStill gs
theorem AWpQ.run : ∀ {gs hs : List GOp} {s s' : St} {ob : Prop}, allStill gs = true → runOps E.n gs s = some (s', ob) → ob → AWpQ P E Q hs s' → AWpQ P E Q (gs ++ hs) s
  | [], hs, s, s', ob, _, h, hob, k => by
    simp only [runOps, Option.some.injEq, Prod.mk.injEq] at h
    obtain ⟨rfl, rfl⟩ := h
    exact k
  | g :: gs, hs, s, s', ob, hst, h, hob, k => by
    simp only [allStill, Bool.and_eq_true] at hst
    unfold runOps at h
    split at h <;> first | (cases h; done) | skip
    rename_i s1 ob1 h1
    split at h <;> first | (cases h; done) | skip
    rename_i s2 ob2 h2
    simp only [Option.some.injEq, Prod.mk.injEq] at h
    obtain ⟨rfl, rfl⟩ := h
    exact AWpQ.cons hst.1 h1 hob.1 (AWpQ.run hst.2 h2 hob.2 k)
theorem AWpQ.take (n : Nat) {gs : List GOp} {ob : Prop} (hst : allStill (gs.take n) = true) (h : runOps E.n (gs.take n) s = some (s', ob)) (hob : ob) (k : AWpQ P E Q (gs.drop n) s') : AWpQ P E Q gs s := by
  have := AWpQ.run hst h hob k
  rwa [List.take_append_drop] at this
theorem AWpQ.all {gs : List GOp} {ob : Prop} (hst : allStill gs = true) (h : runOps E.n gs s = some (s', ob)) (hob : ob) (k : Q .normal s') : AWpQ P E Q gs s := by
  have := AWpQ.run hst h hob (AWpQ.nil (P := P) k)
  rwa [List.append_nil] at this
/-- A call that only reads and gives a value without memory. -/
theorem AWpQ.callb {f : FuncId} {xs : List Opd} {dst : Option Nat} {gs : List GOp} {y : Value} (hs : Spec P f [] (xs.map fun x => borA 4 s (s.ev x)) fun _ x => x = .val y)
    (hd : dstOk E.n dst = true) (hb : allOb (borOb 4 s) (xs.map s.ev)) (h : AWpQ P E Q gs (s.putO dst (.val y))) : AWpQ P E Q (⟨dst, none, .call f xs⟩ :: gs) s := fun ops l hl a w hrel => by
  obtain ⟨o, l', rfl, h1, h2⟩ := gops_cons hl
  obtain ⟨ρ, ok, hr⟩ := hrel
  obtain ⟨hc, hdst, hg⟩ := gop_guard h1
  rcases hg with ⟨hg0, _⟩ | ⟨_, _, _, _, _, hg⟩
  case inr => cases hg
  unfold wpQuiet
  rw [if_pos (wanted_none hg0 _)]
  refine ⟨y, fun w' he => ?_, ?_⟩
  · obtain ⟨_, vals, hv, hrun⟩ := call_inv (a := a) (w := w') hc
    unfold Oper.quietAt
    rw [hrun]
    refine ⟨rfl, ?_⟩
    have hr' := hr.ext he
    refine (hs w' (fun _ => none) (fun b => b < w'.heap.size) vals (Mem.none fun _ h => h) (RList_of_Rc _ _ (by rw [hv]; exact args_bor hr' xs fun x hx => allOb_mem hb _ (List.mem_map.2 ⟨x, hx, rfl⟩)))).mono ?_
    rintro e w'' ⟨rg, x, v, ρ', ok', rfl, rfl, hm, hx, h3, h4, h5, h6⟩
    refine ⟨by rw [R_val hx], he.trans ⟨h5.os, h5.tape, h5.output, h5.size, fun k hk => h5.block k hk fun ⟨r0, p0, h7, _⟩ => by cases h7⟩⟩
  · exact h ops l' h2 _ _ ⟨ρ, ok, by rw [← hdst]; exact hr.putO hd (R_val_mk y)⟩
end
end Go.Proofs.Ytoickofcmngdjaa.Aw

/- A logic of abstract states for walks: append and copy. -/
set_option linter.unusedVariables false
set_option linter.unusedSimpArgs false
namespace Go.Proofs.Ytoickofcmngdjaa.Aw
open Go.RowKit

def killM (r : Nat) : Nat → Option Nat := fun k => bif k == r then none else some k
/-- Region r has a new content, perhaps in a new place: what looked at it is forgotten. -/
def killS (s : St) (r : Nat) (g : Reg) : St := ⟨mapT (killM r) s.tm, (s.rg.map (mapR (killM r))).set r g⟩

/-- The elements of a slice that is only read. -/
def srcEls (s : St) : AV → Option (List (List AV) × Prop)
  | .imm _ _ _ els => some (els, True)
  | .hnd r off n _ _ => match s.reg r with
    | .arr _ _ els => some ((els.drop off).take n, off + n ≤ els.length)
    | _ => none
  | .val (.slice none 0 0) => some ([], True)
  | _ => none
def srcSz (s : St) : AV → Nat → Bool
  | .imm _ _ sz _, n => sz == n
  | .hnd r _ _ _ _, n => match s.reg r with
    | .arr _ sz _ => sz == n
    | _ => false
  | _, _ => true

section
variable {P : Program} {E : Env} {Q : Exit → St → Prop} {s s' : St} {a : Act} {w : World} {ρ : Nat → Option (Option Place)} {ok : Nat → Prop}

/-- A slice's cells in memory. -/
def Src (w : World) (sz n : Nat) (v : Value) (news : List Value) : Prop :=
  ∃ A c, v = .slice A n c ∧ news.length = n * sz ∧ (A = none → n = 0) ∧ ∀ ad, A = some ad → ∀ j u, news[j]? = some u → w.cell? (ad.add j) = some u

theorem RcEls_vals {b sz : Nat} : ∀ {els : List (List AV)} {o : Nat}, RcEls w ok b sz o els → ∃ us, RcList w ok els.flatten us ∧ us.length = els.length * sz ∧ ∀ j u, us[j]? = some u → w.cell? ⟨b, o + j, none⟩ = some u
  | [], o, _ => ⟨[], by simp [RcList], by simp, fun j u h => by simp at h⟩
  | el :: els, o, h => by
    unfold RcEls at h
    obtain ⟨h0, h1, h2⟩ := h
    obtain ⟨us, h3, h4, h5⟩ := RcEls_vals h2
    have cells : ∀ {xs : List AV} {o : Nat}, RcCells w ok b o xs → ∃ vs, RcList w ok xs vs ∧ ∀ j u, vs[j]? = some u → w.cell? ⟨b, o + j, none⟩ = some u := by
      intro xs
      induction xs with
      | nil => intro o _; exact ⟨[], by simp [RcList], fun j u h => by simp at h⟩
      | cons x xs ih =>
        intro o h
        unfold RcCells at h
        obtain ⟨⟨v, h1, h2⟩, h3⟩ := h
        obtain ⟨vs, h4, h5⟩ := ih h3
        refine ⟨v :: vs, by unfold RcList; exact ⟨v, vs, rfl, h2, h4⟩, fun j u hj => ?_⟩
        cases j with
        | zero => obtain rfl : v = u := by simpa using hj
                  exact h1
        | succ j =>
          have := h5 j u (by simpa using hj)
          rw [show o + (j + 1) = o + 1 + j by omega]; exact this
    obtain ⟨vs, h6, h7⟩ := cells h1
    have hl : vs.length = sz := by rw [RcList_length h6, h0]
    refine ⟨vs ++ us, by rw [List.flatten_cons]; exact RcList_append h6 h3, by simp [hl, h4, Nat.succ_mul]; omega, fun j u hj => ?_⟩
    rcases Nat.lt_or_ge j vs.length with h8 | h8
    · rw [List.getElem?_append_left h8] at hj; exact h7 j u hj
    · rw [List.getElem?_append_right h8] at hj
      have := h5 _ u hj
      rw [show o + j = o + sz + (j - vs.length) by omega]; exact this

theorem src_ok (hr : RelM E s a w ρ ok) {x : AV} {v : Value} (hx : R w ok ρ x v) {ys : List (List AV)} {ob : Prop} {sz : Nat} (h : srcEls s x = some (ys, ob)) (hsz : srcSz s x sz = true) (hob : ob) :
    ∃ news, Src w sz ys.length v news ∧ RcList w ok ys.flatten news ∧ ∀ el ∈ ys, el.length = sz := by
  unfold srcEls at h
  split at h
  · rename_i nl fu sz' els
    simp only [Option.some.injEq, Prod.mk.injEq] at h
    obtain ⟨rfl, rfl⟩ := h
    obtain rfl : sz' = sz := by simpa [srcSz] using hsz
    unfold R Rc at hx
    obtain ⟨A, c, rfl, h2, h3, h4, h5, h6⟩ := hx
    cases A with
    | none =>
      have : els = [] := List.eq_nil_of_length_eq_zero (by have := h4 rfl; omega)
      subst this
      exact ⟨[], ⟨none, c, rfl, by simp, fun _ => rfl, fun ad h => by cases h⟩, by simp [RcList], fun el h => by cases h⟩
    | some ad =>
      by_cases hne : els = []
      · subst hne
        exact ⟨[], ⟨some ad, c, rfl, by simp, fun _ => rfl, fun ad h j u hj => by simp at hj⟩, by simp [RcList], fun el h => by cases h⟩
      · obtain ⟨h7, h8, h9⟩ := h6 ad rfl hne
        obtain ⟨b, o, sp⟩ := ad
        simp only at h7 h8 h9
        subst h7
        obtain ⟨us, h10, h11, h12⟩ := RcEls_vals h9
        refine ⟨us, ⟨some ⟨b, o, none⟩, c, rfl, h11, fun h => (by cases h), fun ad had j u hj => ?_⟩, h10, fun el hm => ?_⟩
        · injection had with had
          subst had
          rw [add_plain]; exact h12 j u hj
        · obtain ⟨i, hi, rfl⟩ := List.getElem_of_mem hm
          exact (RcEls_get h9 i _ (List.getElem?_eq_getElem hi)).1
  · rename_i r off n k ex
    split at h <;> first | (cases h; done) | skip
    rename_i e sz' els hg
    simp only [Option.some.injEq, Prod.mk.injEq] at h
    obtain ⟨rfl, rfl⟩ := h
    have hsz' : sz' = sz := by simpa [srcSz, hg] using hsz
    subst hsz'
    have hlen : ((els.drop off).take n).length = n := by simp; omega
    unfold R at hx
    rcases hr.mem.reg r _ (reg_some hg (by simp)) with ⟨b, d, C, pre, vs, rest, h1, h2, h3, h4, h5, h6⟩ | ⟨h1, h2⟩
    · rcases hx with ⟨p, cc, ad, h7, rfl, h8, h9, h10, h11, h12⟩ | ⟨h7, _⟩
      · rw [h1] at h7
        obtain rfl := by simpa using h7
        rcases sub_els h5 h6 off n with h13 | h13
        · refine ⟨_, ⟨some ad, cc, by rw [hlen], ?_, fun h => (by cases h), fun ad' had j u hj => ?_⟩, h13, fun el hm => h5 el (List.mem_of_mem_drop (List.mem_of_mem_take hm))⟩
          · rw [RcList_length h13, flatten_length (fun el hm => h5 el (List.mem_of_mem_drop (List.mem_of_mem_take hm)))]
          · injection had with had
            subst had
            have hjl := (List.getElem?_eq_some_iff.1 hj).1
            rw [List.length_take, hlen] at hjl
            have hn0 : n ≠ 0 := fun e => by subst e; simp at hjl
            rcases h8 with h8 | rfl
            · omega
            rw [List.getElem?_take, if_pos (by rw [hlen]; omega), List.getElem?_drop] at hj
            rw [add_plain, cell_of h2, ← Array.getElem?_toList, h3]
            dsimp only
            rw [List.getElem?_append_right (by omega), h4, show d + off * sz' + j - d = off * sz' + j by omega]
            have := (List.getElem?_eq_some_iff.1 hj).1
            rw [List.getElem?_append_left this]; exact hj
        · omega
      · rw [h1] at h7; injection h7 with h7; cases h7
    · rcases hx with ⟨p, cc, ad, h7, _⟩ | ⟨h7, rfl, h8, h9, h10⟩
      · rw [h2] at h7; injection h7 with h7; cases h7
      · subst h1 h9
        exact ⟨[], ⟨none, 0, by simp, by simp, fun _ => by simp, fun ad h => by cases h⟩, by simp [RcList], fun el h => by simp at h⟩
  · simp only [Option.some.injEq, Prod.mk.injEq] at h
    obtain ⟨rfl, rfl⟩ := h
    obtain rfl := R_val hx
    exact ⟨[], ⟨none, 0, rfl, by simp, fun _ => rfl, fun ad h => by cases h⟩, by simp [RcList], fun el h => by cases h⟩
  · cases h

theorem run_first {sz n : Nat} {v : Value} {news : List Value} (h : Src w sz n v news) {w' : World} (he : ∀ ad j u, w.cell? (Addr.add ad j) = some u → w'.cell? (Addr.add ad j) = some u) : (Builtin.firstCells sz n v).run P w' = .ok news.toArray w' := by
  obtain ⟨A, c, rfl, h1, h2, h3⟩ := h
  cases A with
  | none =>
    have : n = 0 := h2 rfl
    subst this
    have : news = [] := List.eq_nil_of_length_eq_zero (by simpa using h1)
    subst this
    simp [Builtin.firstCells]
  | some ad =>
    have hrun : ∀ (us : List Value) (i : Nat) (acc : Array Value), (∀ j u, us[j]? = some u → w'.cell? (ad.add (i + j)) = some u) → (loadCellsFrom ad i us.length acc).run P w' = .ok (acc ++ us.toArray) w' := by
      intro us
      induction us with
      | nil => intro i acc _; simp [loadCellsFrom]
      | cons u us ih =>
        intro i acc h
        have h0 := h 0 u rfl
        have ih' := ih (i + 1) (acc.push u) fun j x hx => by
          have := h (j + 1) x (by simpa using hx)
          rw [show i + 1 + j = i + (j + 1) by omega]; exact this
        simp only [List.length_cons, loadCellsFrom]
        simp only [Nat.add_zero] at h0
        show ((load (ad.add i)).bind fun v => loadCellsFrom ad (i + 1) us.length (acc.push v)).run P w' = _
        simp only [load, Sem.bind, Sem.run, h0]
        rw [ih']; simp
    have := hrun news 0 #[] fun j u hj => by rw [Nat.zero_add]; exact he _ _ _ (h3 ad rfl j u hj)
    rw [h1] at this
    simp [Builtin.firstCells, loadCells, this]

/-- What append does: it writes behind the elements, or makes a new row. -/
theorem run_app {tx ty ty' e : TypeId} {i : TypeInfo} {z : Value} (hx : P.underlying tx = some (.slice e)) {e' : TypeId} (hy : P.underlying ty = some (.slice e')) (hi : P.info? e = some i) (hz : i.zero = some z) (hzs : z.cells.size = i.size)
    {A : Option Addr} {n c m : Nat} {olds news : List Value} {y : Value} (hold : Src w i.size n (.slice A n c) olds) (hnew : Src w i.size m y news) (hbytes : (n + m) * i.bytes ≤ 140737488355328) (h63 : n + m ≤ 9223372036854775807) :
    (n + m ≤ c ∧ (Builtin.append_ #[tx, ty] ty' #[.slice A n c, y]).run P w = (match A with
      | some ad => (storeCells (ad.add (n * i.size)) news).run P w
      | none => .ok () w).andThen fun _ w' => .ok (.slice A (n + m) c) w') ∨
    (c < n + m ∧ ∃ w' C, ∃ cap rest, (Builtin.append_ #[tx, ty] ty' #[.slice A n c, y]).run P w = .ok (.slice (some ⟨w.heap.size, 0, none⟩) (n + m) cap) w' ∧ Ext w w' ∧ w'.heap[w.heap.size]? = some (.cells C e (0, 0)) ∧ C.toList = olds ++ (news ++ rest) ∧ C.size = cap * i.size ∧ n + m ≤ cap) := by
  have hyl : ∃ B c', y = .slice B m c' := by obtain ⟨B, c', rfl, _⟩ := hnew; exact ⟨B, c', rfl⟩
  obtain ⟨B, c', rfl⟩ := hyl
  by_cases hroom : n + m ≤ c
  · left
    refine ⟨hroom, ?_⟩
    have hf := run_first (P := P) hnew (w' := w) (fun _ _ _ h => h)
    cases A with
    | none => simp [Builtin.append_, run_underlying hx, run_underlying hy, run_sizeOf hi, Builtin.lenOf, hroom, hf]
    | some ad => simp [Builtin.append_, run_underlying hx, run_underlying hy, run_sizeOf hi, Builtin.lenOf, hroom, hf]
  · right
    refine ⟨by omega, ?_⟩
    have hfit := growslice_fits (old := c) (need := n + m) (by omega) hbytes
    have hno : ¬ ((n + m : Nat) : Int) > IntKind.i64.max := by
      have : IntKind.i64.max = 9223372036854775807 := by decide
      omega
    have hno' : ¬ (Builtin.nextslicecap (n + m) c * i.bytes > 2 ^ 48) := by omega
    generalize hcap : (Question.appendCap (n + m) c e).cut (w.tape w.drawn (.appendCap (n + m) c e)) = cap
    have hle : n + m ≤ cap := by rw [← hcap]; exact Nat.le_add_right _ _
    have hfn := run_first (P := P) hnew (w' := { w with drawn := w.drawn + 1 }) (fun _ _ _ h => h)
    have hfo := run_first (P := P) hold (w' := { w with drawn := w.drawn + 1 }) (fun _ _ _ h => h)
    obtain ⟨_, _, _, hol, _⟩ := hold
    obtain ⟨_, _, _, hnl, _⟩ := hnew
    refine ⟨{ w with drawn := w.drawn + 1, heap := w.heap.push (.cells (olds.toArray ++ news.toArray ++ Builtin.zeroCells z.cells (cap - (n + m))) e) }, olds.toArray ++ news.toArray ++ Builtin.zeroCells z.cells (cap - (n + m)), cap, (Builtin.zeroCells z.cells (cap - (n + m))).toList, ?_, ⟨rfl, rfl, rfl, by simp, fun k hk => by simp [Array.getElem?_push]; omega⟩, by simp, by simp, ?_, hle⟩
    · simp only [Builtin.append_, Sem.run_bind, run_underlying hx, run_underlying hy, run_sizeOf hi, Builtin.lenOf, Sem.run_pure, Result.andThen_ok]
      simp only [List.getElem?_toArray, List.getElem?_cons_zero, List.getElem?_cons_succ, Sem.run_bind, run_underlying hx, run_underlying hy, run_sizeOf hi, Sem.run_pure, Result.andThen_ok, typeInfo, run_program, hi]
      simp only [Bool.false_eq_true, if_false, hroom, hno, hno', false_and, Sem.run_bind, Sem.run_pure, Result.andThen_ok, run_choose, Question.forced, hcap, run_askRoom, hfo, hfn, zeroValue, typeInfo, run_program, hi, hz, newRow, run_newObj]
      have hfn' : (Builtin.firstCells i.size m (.slice B m c')).run P w.drew = .ok news.toArray w.drew := hfn
      have hfo' : (Builtin.firstCells i.size n (.slice A n c)).run P w.drew = .ok olds.toArray w.drew := hfo
      simp [run_underlying hx, run_underlying hy, run_sizeOf hi, Builtin.lenOf, hroom, hno, hno', hcap, hfo', hfn', hz, hi, zeroValue, typeInfo, newRow, Question.forced]
      simp only [World.alloc, World.drew, Result.ok.injEq, true_and, World.mk.injEq, and_true]
      congr 2
      apply Array.ext'
      simp
    · simp only [Array.size_append, List.size_toArray, hol, hnl, Builtin.zeroCells, Array.size_map, Array.size_range, hzs]
      rw [← Nat.add_mul, ← Nat.add_mul]
      congr 1; omega

theorem killM_ne {r k j : Nat} (h : killM r k = some j) : j = k ∧ k ≠ r := by
  unfold killM at h
  cases hk : (k == r)
  · rw [hk] at h; simp only [cond_false, Option.some.injEq] at h; exact ⟨h.symm, by simpa using hk⟩
  · rw [hk] at h; cases h

/-- Region r gets a new content and perhaps a new place; the rest of memory stays. -/
theorem RelM.move (h : RelM E s a w ρ ok) {r : Nat} {q : Option Place} (hq : ρ r = some q) (hnp : E.pin r = none) {w' : World} {p' : Place} {g' : Reg} (hsz : w.heap.size ≤ w'.heap.size)
    (ho : w'.os = w.os) (ht : w'.tape = w.tape) (hu : w'.output = w.output) (hp' : p'.b < w'.heap.size) (hnew : q = some p' ∨ w.heap.size ≤ p'.b)
    (hb : ∀ k, k < w.heap.size → (∀ p, q = some p → p.b ≠ k) → w'.heap[k]? = w.heap[k]?)
    (hg : RegOk w' ok (fun k => if k = r then some (some p') else ρ k) r g') : RelM E (killS s r g') a w' (fun k => if k = r then some (some p') else ρ k) ok := by
  have hno : ∀ {b}, ok b → ∀ p, q = some p → p.b ≠ b := fun {b} hb' p hp e => by subst hp; exact (h.mem.own r p hq).2 (e ▸ hb')
  have hrd : Reads ok w w' := Reads.of_same fun b hb' => hb b (h.mem.okl b hb') (hno hb')
  have hrlt : r < s.rg.length := by
    rcases Nat.lt_or_ge r s.rg.length with h1 | h1
    · exact h1
    · rw [h.mem.out r h1] at hq; cases hq
  have hoth : ∀ {k p}, k ≠ r → ρ k = some (some p) → ∀ p0, q = some p0 → p0.b ≠ p.b := fun {k p} hk hp p0 hp0 e => by
    subst hp0
    exact hk (h.mem.inj _ _ _ _ hq hp e).symm
  have hkill : ∀ k j, killM r k = some j → (fun k => if k = r then some (some p') else ρ k) j = ρ k := fun k j hk => by
    obtain ⟨rfl, hne⟩ := killM_ne hk
    simp only [hne, if_false]
  have hval : ∀ x v, R w ok ρ x v → R w' ok (fun k => if k = r then some (some p') else ρ k) (mapA (killM r) x) v := fun x v hx =>
    R_map hkill _ _ (R_frame hrd (fun _ x => x) (fun _ _ x => x) _ _ hx)
  refine ⟨⟨fun b hb' => Nat.lt_of_lt_of_le (h.mem.okl b hb') hsz, fun k k' p q' h1 h2 h3 => ?_, fun k p h1 => ?_, fun k g hk => ?_, fun k hk => ?_⟩, fun n => ?_, h.siz, h.dfr, ⟨ho.trans h.kps.os, ht.trans h.kps.tape, hu.trans h.kps.output, Nat.le_trans h.kps.size hsz, fun k hk hno' => ?_⟩, Nat.le_trans h.bas hsz, fun k p h1 => ?_, h.okr, fun k p h1 => ?_⟩
  · by_cases e1 : k = r <;> by_cases e2 : k' = r <;> simp only [e1, e2, if_true, if_false] at h1 h2
    · rw [e1, e2]
    · simp only [Option.some.injEq] at h1; subst h1
      rcases hnew with rfl | h4
      · exact absurd h3 (hoth e2 h2 _ rfl)
      · have := (h.mem.own k' q' h2).1; omega
    · simp only [Option.some.injEq] at h2; subst h2
      rcases hnew with rfl | h4
      · exact absurd h3.symm (hoth e1 h1 _ rfl)
      · have := (h.mem.own k p h1).1; omega
    · exact h.mem.inj k k' p q' h1 h2 h3
  · by_cases e1 : k = r <;> simp only [e1, if_true, if_false] at h1
    · simp only [Option.some.injEq] at h1; subst h1
      refine ⟨hp', fun hk => ?_⟩
      rcases hnew with rfl | h4
      · exact (h.mem.own r _ hq).2 hk
      · have := h.mem.okl _ hk; omega
    · exact ⟨Nat.lt_of_lt_of_le (h.mem.own k p h1).1 hsz, (h.mem.own k p h1).2⟩
  · by_cases e1 : k = r
    · subst e1
      rw [killS, List.getElem?_set] at hk
      simp only [if_true, List.length_map, hrlt] at hk
      obtain rfl : g' = g := by simpa using hk
      exact hg
    · rw [killS, List.getElem?_set_ne (Ne.symm e1), List.getElem?_map, Option.map_eq_some_iff] at hk
      obtain ⟨g0, hg0, rfl⟩ := hk
      have h0 := h.mem.reg k g0 hg0
      cases g0 with
      | dead => show (if k = r then _ else ρ k) = none; rw [if_neg e1]; exact h0
      | box e cs =>
        obtain ⟨b, C, h1, h2, h3⟩ := h0
        refine ⟨b, C, ?_, ?_, ?_⟩
        · show (if k = r then _ else ρ k) = _
          rw [if_neg e1, mapL_length]; exact h1
        · exact (hpB_same (hb b (h.mem.own _ _ h1).1 (hoth e1 h1))).trans h2
        · exact RList_map hkill _ _ (RList_frame hrd (fun _ x => x) (fun _ _ x => x) _ _ h3)
      | arr e sz els =>
        rcases h0 with ⟨b, d, C, pre, vs, rest, h1, h2, h3, h4, h5, h6⟩ | ⟨h1, h2⟩
        · exact .inl ⟨b, d, C, pre, vs, rest, by (show (if k = r then _ else ρ k) = _); rw [if_neg e1]; exact h1, (hpB_same (hb b (h.mem.own _ _ h1).1 (hoth e1 h1))).trans h2, h3, h4, h5, RcList_frame hrd (fun _ x => x) _ _ h6⟩
        · exact .inr ⟨h1, by (show (if k = r then _ else ρ k) = _); rw [if_neg e1]; exact h2⟩
      | tab e cs =>
        rcases h0 with ⟨b, d, C, pre, vs, rest, h1, h2, h3, h4, h6⟩ | ⟨h1, h2⟩
        · exact .inl ⟨b, d, C, pre, vs, rest, by (show (if k = r then _ else ρ k) = _); rw [if_neg e1]; exact h1, (hpB_same (hb b (h.mem.own _ _ h1).1 (hoth e1 h1))).trans h2, h3, h4, RList_map hkill _ _ (RList_frame hrd (fun _ x => x) (fun _ _ x => x) _ _ h6)⟩
        · exact .inr ⟨by rw [h1]; rfl, by (show (if k = r then _ else ρ k) = _); rw [if_neg e1]; exact h2⟩
  · have : s.rg.length ≤ k := by simpa [killS] using hk
    show (if k = r then _ else ρ k) = none
    rw [if_neg (by omega)]; exact h.mem.out k this
  · show R w' ok _ (look (mapT (killM r) s.tm) n) _
    rw [look_map]; exact hval _ _ (h.tm n)
  · rw [hb k (Nat.lt_of_lt_of_le hk h.bas) fun p hp e => ?_]
    · exact h.kps.block k hk hno'
    · subst hp
      rcases h.ownr r p hq with h1 | h1
      · omega
      · exact hno' (e ▸ h1)
  · by_cases e1 : k = r <;> simp only [e1, if_true, if_false] at h1
    · simp only [Option.some.injEq] at h1; subst h1
      rcases hnew with rfl | h4
      · exact h.ownr r _ hq
      · left; have := h.bas; omega
    · exact h.ownr k p h1
  · by_cases e1 : k = r
    · subst e1; rw [hnp] at h1; cases h1
    · show (if k = r then _ else ρ k) = _
      rw [if_neg e1]; exact h.pin k p h1

theorem cellish_all : ∀ {xs : List AV} {vs : List Value}, (∀ x ∈ xs, cellish x = true) → RcList w ok xs vs → ∀ u ∈ vs, u.oneCell' = true
  | [], vs, _, h, u, hu => by unfold RcList at h; subst h; cases hu
  | x :: xs, vs, hc, h, u, hu => by
    unfold RcList at h
    obtain ⟨v, vs', rfl, h1, h2⟩ := h
    rcases List.mem_cons.1 hu with rfl | hu
    · exact (cellish_one (ρ := fun _ => none) (hc x List.mem_cons_self) (R_of_Rc _ _ h1)).1
    · exact cellish_all (fun y hy => hc y (List.mem_cons_of_mem _ hy)) h2 u hu

/-- append to an array of the call's own, behind its last element. -/
theorem snd_app (hr : RelM E s a w ρ ok) {tx ty ty' e : TypeId} {i : TypeInfo} {zv : Value} (hx : P.underlying tx = some (.slice e)) {e' : TypeId} (hy : P.underlying ty = some (.slice e')) (hi : P.info? e = some i) (hz : i.zero = some zv) (hzs : zv.cells.size = i.size)
    {r n k : Nat} {ex : Bool} {vx vy : Value} (hvx : R w ok ρ (.hnd r 0 n k ex) vx) {ay : AV} (hvy : R w ok ρ ay vy) {e'' : TypeId} {els ys : List (List AV)} {ob : Prop} (hg : s.reg r = .arr e'' i.size els) (he : e'' = e) (hn : n = els.length) (hnp : E.pin r = none)
    (hs : srcEls s ay = some (ys, ob)) (hsz : srcSz s ay i.size = true) (hob : ob) (hcell : ∀ el ∈ ys, ∀ x ∈ el, cellish x = true)
    (hbytes : (n + ys.length) * i.bytes ≤ 140737488355328) (h63 : n + ys.length ≤ 9223372036854775807) :
    ∃ v w' ρ', (Builtin.append_ #[tx, ty] ty' #[vx, vy]).run P w = .ok v w' ∧ RelM E (killS s r (.arr e i.size (els ++ ys))) a w' ρ' ok ∧ R w' ok ρ' (.hnd r 0 (n + ys.length) (n + ys.length) false) v := by
  subst he hn
  obtain ⟨news, hsrc, hnews, hyl⟩ := src_ok hr hvy hs hsz hob
  have hnl : news.length = ys.length * i.size := by rw [RcList_length hnews, flatten_length hyl]
  have hall : ∀ el ∈ els ++ ys, el.length = i.size → el.length = i.size := fun _ _ h => h
  unfold R at hvx
  rcases hr.mem.reg r _ (reg_some hg (by simp)) with ⟨b, d, C, pre, vs, rest, h1, h2, h3, h4, h5, h6⟩ | ⟨h1, h2⟩
  · rcases hvx with ⟨p, cc, ad, h7, rfl, h8, h9, h10, h11, h12⟩ | ⟨h7, _⟩
    · rw [h1] at h7
      obtain rfl := by simpa using h7
      dsimp only at h8 h11
      have hvl : vs.length = els.length * i.size := by rw [RcList_length h6, flatten_length h5]
      have hold : Src w i.size els.length (.slice (some ad) els.length cc) vs := by
        refine ⟨some ad, cc, rfl, hvl, fun h => (by cases h), fun ad' had j u hj => ?_⟩
        injection had with had
        subst had
        have hjl := (List.getElem?_eq_some_iff.1 hj).1
        have hn0 : els.length ≠ 0 := fun e => by rw [hvl, e] at hjl; simp at hjl
        rcases h8 with h8 | rfl
        · omega
        rw [add_plain, cell_of h2, ← Array.getElem?_toList, h3, Nat.zero_mul, Nat.add_zero, List.getElem?_append_right (by omega), h4, show d + j - d = j by omega, List.getElem?_append_left hjl]
        exact hj
      have hls : ∀ el ∈ els ++ ys, el.length = i.size := fun el hm => by
        rcases List.mem_append.1 hm with hm | hm
        · exact h5 el hm
        · exact hyl el hm
      rcases run_app (ty' := ty') hx hy hi hz hzs hold hsrc hbytes h63 with ⟨hroom, hrun⟩ | ⟨hfull, w', C', cap, rest', hrun, hext, hblk, hC', hcs, hcap⟩
      · -- there is room
        have hadr : (els.length + ys.length = 0) ∨ ad = ⟨b, d + 0 * i.size, none⟩ := by
          rcases h8 with h8 | h8
          · left; omega
          · exact .inr h8
        rcases hadr with h0 | hadr
        · -- nothing at all
          have e1 : els = [] := List.eq_nil_of_length_eq_zero (by omega)
          have e2 : ys = [] := List.eq_nil_of_length_eq_zero (by omega)
          subst e1 e2
          have e3 : news = [] := List.eq_nil_of_length_eq_zero (by simpa using hnl)
          subst e3
          refine ⟨.slice (some ad) 0 cc, w, (fun k => if k = r then some (some ⟨b, d, i.size, C.size⟩) else ρ k), ?_, ?_, ?_⟩
          · rw [hrun]; simp [storeCells]
          · refine hr.move h1 hnp (Nat.le_refl _) rfl rfl rfl (hr.mem.own r _ h1).1 (.inl rfl) (fun _ _ _ => rfl) (.inl ⟨b, d, C, pre, vs, rest, by simp, h2, h3, h4, by simp, by simpa using h6⟩)
          · unfold R; exact .inl ⟨⟨b, d, i.size, C.size⟩, cc, ad, if_pos rfl, rfl, h8, Nat.le_refl _, Nat.zero_le _, h11, fun h => by cases h⟩
        · subst hadr
          rw [Nat.zero_mul, Nat.add_zero] at hrun h8
          have hCs : C.size = d + (vs.length + rest.length) := by
            have := congrArg List.length h3
            simp [h4] at this; omega
          have hfits : d + els.length * i.size + news.length ≤ C.size := by
            rw [hnl]
            have := Nat.mul_le_mul_right i.size hroom
            rw [Nat.add_mul] at this
            rw [Nat.zero_add] at h11
            omega
          obtain ⟨w', C', h13, h14, h15, h16, h17, h18, h19, h20⟩ := run_storeCells (P := P) (b := b) (o := d + els.length * i.size) news 0 w C h2 (by rw [Nat.add_zero]; exact hfits) (cellish_all (fun x hx => by
            obtain ⟨el, he, hx⟩ := List.mem_flatten.1 hx
            exact hcell el he x hx) hnews)
          have hC's : C'.size = C.size := by
            have h21 := congrArg List.length h15
            have e1 : C.toList.length = C.size := by simp
            have e2 : C'.toList.length = C'.size := by simp
            rw [List.length_append, List.length_append, List.length_take, List.length_drop, e1, e2, Nat.min_eq_left (by omega)] at h21
            omega
          have hrd : Reads ok w w' := Reads.of_same fun b' hb' => h16 b' fun e => (hr.mem.own r _ h1).2 (e ▸ hb')
          refine ⟨.slice (some ⟨b, d, none⟩) (els.length + ys.length) cc, w', (fun k => if k = r then some (some ⟨b, d, i.size, C.size⟩) else ρ k), ?_, ?_, ?_⟩
          · rw [show d + 0 * i.size = d by omega, hrun]
            simp only [add_plain]
            rw [h13]; rfl
          · refine hr.move h1 hnp (by rw [h17]; exact Nat.le_refl _) h18 h19 h20 (by rw [h17]; exact (hr.mem.own r _ h1).1) (.inl rfl) (fun k hk hne => h16 k fun e => hne _ rfl e.symm) (.inl ⟨b, d, C', pre, vs ++ news, rest.drop news.length, by simp [hC's], h14, ?_, h4, hls, ?_⟩)
            · rw [h15, h3, Nat.add_zero, show d + els.length * i.size = pre.length + vs.length by omega, List.take_length_add_append, Nat.add_assoc, List.drop_length_add_append, List.take_left, List.drop_length_add_append]
              simp
            · rw [List.flatten_append]
              exact RcList_append (RcList_frame hrd (fun _ x => x) _ _ h6) (RcList_frame hrd (fun _ x => x) _ _ hnews)
          · unfold R; exact .inl ⟨⟨b, d, i.size, C.size⟩, cc, _, if_pos rfl, rfl, .inr (by simp), Nat.le_refl _, hroom, h11, fun h => by cases h⟩
      · -- a new row
        have hrd : Reads ok w w' := hext.reads hr.mem.okl
        refine ⟨_, w', (fun k => if k = r then some (some ⟨w.heap.size, 0, i.size, C'.size⟩) else ρ k), hrun, ?_, ?_⟩
        · refine hr.move h1 hnp hext.size hext.os hext.tape hext.output (Array.getElem?_eq_some_iff.1 hblk).1 (.inr (Nat.le_refl _)) (fun k hk _ => hext.block k hk) (.inl ⟨w.heap.size, 0, C', [], vs ++ news, rest', by simp, hpB_of hblk, by simp [hC'], rfl, hls, ?_⟩)
          rw [List.flatten_append]
          exact RcList_append (RcList_frame hrd (fun _ x => x) _ _ h6) (RcList_frame hrd (fun _ x => x) _ _ hnews)
        · unfold R; exact .inl ⟨⟨w.heap.size, 0, i.size, C'.size⟩, cap, _, if_pos rfl, rfl, .inr (by simp), Nat.le_refl _, hcap, by simp [hcs], fun h => by cases h⟩
    · rw [h1] at h7; injection h7 with h7; cases h7
  · rcases hvx with ⟨p, cc, ad, h7, _⟩ | ⟨h7, rfl, h8, h9, h10⟩
    · rw [h2] at h7; injection h7 with h7; cases h7
    · subst h1
      have hold : Src w i.size 0 (.slice none 0 0) [] := ⟨none, 0, rfl, by simp, fun _ => rfl, fun ad h => by cases h⟩
      rcases run_app (ty' := ty') hx hy hi hz hzs hold hsrc (by simpa using hbytes) (by simpa using h63) with ⟨hroom, hrun⟩ | ⟨hfull, w', C', cap, rest', hrun, hext, hblk, hC', hcs, hcap⟩
      · have e2 : ys = [] := List.eq_nil_of_length_eq_zero (by omega)
        subst e2
        refine ⟨.slice none 0 0, w, ρ, ?_, ?_, ?_⟩
        · rw [hrun]; rfl
        · -- nothing has happened
          have hkill : ∀ k j, killM r k = some j → ρ j = ρ k := fun k j hk => by rw [(killM_ne hk).1]
          have hrlt : r < s.rg.length := (List.getElem?_eq_some_iff.1 (reg_some hg (by simp))).1
          refine ⟨⟨hr.mem.okl, hr.mem.inj, hr.mem.own, fun k g hk => ?_, fun k hk => hr.mem.out k (by simpa [killS] using hk)⟩, fun n => ?_, hr.siz, hr.dfr, hr.kps, hr.bas, hr.ownr, hr.okr, hr.pin⟩
          · by_cases e1 : k = r
            · subst e1
              rw [killS, List.getElem?_set] at hk
              simp only [if_true, List.length_map, hrlt] at hk
              obtain rfl := Option.some.inj hk
              exact .inr ⟨rfl, h2⟩
            · rw [killS, List.getElem?_set_ne (Ne.symm e1), List.getElem?_map, Option.map_eq_some_iff] at hk
              obtain ⟨g0, hg0, rfl⟩ := hk
              exact RegOk_map (fun _ x => x) hkill rfl (hr.mem.reg k g0 hg0)
          · show R w ok ρ (look (mapT (killM r) s.tm) n) _
            rw [look_map]; exact R_map hkill _ _ (hr.tm n)
        · unfold R; exact .inr ⟨h2, rfl, rfl, rfl, rfl⟩
      · have hrd : Reads ok w w' := hext.reads hr.mem.okl
        refine ⟨_, w', (fun k => if k = r then some (some ⟨w.heap.size, 0, i.size, C'.size⟩) else ρ k), hrun, ?_, ?_⟩
        · refine hr.move h2 hnp hext.size hext.os hext.tape hext.output (Array.getElem?_eq_some_iff.1 hblk).1 (.inr (Nat.le_refl _)) (fun k hk _ => hext.block k hk) (.inl ⟨w.heap.size, 0, C', [], news, rest', by simp, hpB_of hblk, by simpa using hC', rfl, by simpa using hyl, ?_⟩)
          simpa using RcList_frame hrd (fun _ x => x) _ _ hnews
        · unfold R; exact .inl ⟨⟨w.heap.size, 0, i.size, C'.size⟩, cap, ⟨w.heap.size, 0, none⟩, if_pos rfl, rfl, .inr (by simp), Nat.le_refl _, hcap, by simp [hcs], fun h => by cases h⟩
end
end Go.Proofs.Ytoickofcmngdjaa.Aw

/- A logic of abstract states for walks: rules for append. -/
set_option linter.unusedVariables false
set_option linter.unusedSimpArgs false
namespace Go.Proofs.Ytoickofcmngdjaa.Aw
open Go.RowKit

section
variable {P : Program} {E : Env} {Q : Exit → St → Prop} {s s' : St} {a : Act} {w : World} {ρ : Nat → Option (Option Place)} {ok : Nat → Prop}

set_option maxHeartbeats 1000000 in
theorem app_inv {o : Oper} {e : TypeId} {sz bytes : Nat} {z : Value} {x y : Opd} (hc : comp P o = some (.app e sz bytes z x y)) :
    ∃ tx ty e' i, P.underlying tx = some (.slice e) ∧ P.underlying ty = some (.slice e') ∧ P.info? e = some i ∧ i.zero = some z ∧ z.cells.size = i.size ∧ i.size = sz ∧ i.bytes = bytes ∧ sz ≠ 0 ∧
      ∀ v w', (Builtin.append_ #[tx, ty] o.type #[x.cv a, y.cv a]).run P w = .ok v w' → (execOp a.eval o).run P w = .ok (.value v) w' := by
  replace hc := comp0_of hc (by simp)
  obtain ⟨dst, op, type, ps, after, guard⟩ := o
  cases op <;> simp only [comp0, Option.some.injEq, reduceCtorEq] at hc
  case call c =>
    obtain ⟨callee, args, argTypes⟩ := c
    dsimp only at hc
    cases callee with
    | invoke r m => simp only [reduceCtorEq] at hc
    | value g =>
      cases g <;> simp only [Option.some.injEq, reduceCtorEq] at hc
      split at hc <;> first | (cases hc; done) | skip
      split at hc <;> simp only [Option.some.injEq, reduceCtorEq] at hc
    | builtin b =>
      cases b <;> simp only [reduceCtorEq] at hc
      case append =>
        split at hc <;> first | (cases hc; done) | skip
        rename_i x1 y1 tx ty ha ht
        split at hc <;> first | (cases hc; done) | skip
        case h_2 => (repeat' (split at hc)) <;> simp only [Option.some.injEq, reduceCtorEq] at hc
        rename_i e1 e' hx hy
        split at hc <;> first | (cases hc; done) | skip
        rename_i i hi
        split at hc <;> first | (cases hc; done) | skip
        rename_i z1 hz
        split at hc <;> first | (cases hc; done) | skip
        rename_i hcond
        simp only [Option.some.injEq, AOp.app.injEq] at hc
        obtain ⟨rfl, rfl, rfl, rfl, rfl, rfl⟩ := hc
        obtain ⟨args⟩ := args
        obtain ⟨argTypes⟩ := argTypes
        simp only at ha ht
        subst ha ht
        refine ⟨tx, ty, e', i, hx, hy, hi, hz, hcond.1, rfl, rfl, hcond.2.1, fun v w' hrun => ?_⟩
        rw [Opd.cv_of, Opd.cv_of] at hrun
        simp only [execOp, resolve, Sem.run_bind, Sem.run_pure, Result.andThen_ok, invoke, builtin]
        have : (#[x1, y1] : Array Operand).map a.eval = #[a.eval x1, a.eval y1] := by simp
        rw [this]
        simp [hrun]
      all_goals (repeat' (split at hc)) <;> simp only [Option.some.injEq, reduceCtorEq] at hc
  case makeFunc fn first caps =>
    cases fn <;> simp only [reduceCtorEq] at hc
    split at hc <;> simp only [Option.some.injEq, reduceCtorEq] at hc
  all_goals (repeat' (split at hc)) <;> first | (simp only [Option.some.injEq, reduceCtorEq] at hc; done) | (simp only [Option.map_eq_some_iff, reduceCtorEq, and_false, exists_false] at hc; done) | skip

/-- append to an array of the call's own. -/
theorem AWpL.app {e : TypeId} {sz bytes : Nat} {z : Value} {x y : Opd} {dst : Option Nat} {gs : List GOp} {r n k : Nat} {ex : Bool} {els ys : List (List AV)} {ob : Prop}
    (hx : s.ev x = .hnd r 0 n k ex) (hg : s.reg r = .arr e sz els) (hs : srcEls s (s.ev y) = some (ys, ob)) (hsz : srcSz s (s.ev y) sz = true) (hd : dstOk E.n dst = true) (hn : n = els.length) (hnp : E.pin r = none) (hob : ob)
    (hcell : ∀ el ∈ ys, ∀ x ∈ el, cellish x = true) (hbytes : (n + ys.length) * bytes ≤ 140737488355328) (h63 : n + ys.length ≤ 9223372036854775807)
    (h : AWpL P E Q gs ((killS s r (.arr e sz (els ++ ys))).putO dst (.hnd r 0 (n + ys.length) (n + ys.length) false))) : AWpL P E Q (⟨dst, none, .app e sz bytes z x y⟩ :: gs) s := fun ops l hl a w hrel => by
  obtain ⟨o, l', rfl, h1, h2⟩ := gops_cons hl
  obtain ⟨ρ, ok, hr⟩ := hrel
  obtain ⟨hc, hdst, hgd⟩ := gop_guard h1
  rcases hgd with ⟨hg0, _⟩ | ⟨_, _, _, _, _, hgd⟩
  case inr => cases hgd
  unfold wpList
  rw [if_pos (wanted_none hg0 _)]
  left
  obtain ⟨tx, ty, e', i, hux, huy, hi, hz, hzs, rfl, rfl, hsz0, hrun⟩ := app_inv (a := a) (w := w) hc
  have hvx := hr.ev x
  rw [hx] at hvx
  obtain ⟨v, w', ρ', h3, h4, h5⟩ := snd_app (P := P) (ty' := o.type) hr hux huy hi hz hzs hvx (hr.ev y) hg rfl hn hnp hs hsz hob hcell hbytes h63
  unfold Oper.wp
  rw [hrun v w' h3, Oper.upon_value]
  exact h ops l' h2 _ _ ⟨ρ', ok, by rw [← hdst]; exact h4.putO hd h5⟩

/-- append to a slice without room: a new array. -/
theorem AWpL.appNew {e : TypeId} {sz bytes : Nat} {z : Value} {x y : Opd} {dst : Option Nat} {gs : List GOp} {nl : Option Bool} {els ys : List (List AV)} {ob : Prop}
    (hx : s.ev x = .imm nl true sz els) (hs : srcEls s (s.ev y) = some (ys, ob)) (hsz : srcSz s (s.ev y) sz = true) (hd : dstOk E.n dst = true) (hob : ob) (hpos : 0 < ys.length)
    (hbytes : (els.length + ys.length) * bytes ≤ 140737488355328) (h63 : els.length + ys.length ≤ 9223372036854775807)
    (h : AWpL P E Q gs (St.putO { s with rg := s.rg ++ [.arr e sz (els ++ ys)] } dst (.hnd s.rg.length 0 (els.length + ys.length) (els.length + ys.length) false))) : AWpL P E Q (⟨dst, none, .app e sz bytes z x y⟩ :: gs) s := fun ops l hl a w hrel => by
  obtain ⟨o, l', rfl, h1, h2⟩ := gops_cons hl
  obtain ⟨ρ, ok, hr⟩ := hrel
  obtain ⟨hc, hdst, hgd⟩ := gop_guard h1
  rcases hgd with ⟨hg0, _⟩ | ⟨_, _, _, _, _, hgd⟩
  case inr => cases hgd
  unfold wpList
  rw [if_pos (wanted_none hg0 _)]
  left
  obtain ⟨tx, ty, e', i, hux, huy, hi, hz, hzs, rfl, rfl, hsz0, hrun⟩ := app_inv (a := a) (w := w) hc
  have hvx := hr.ev x
  rw [hx] at hvx
  obtain ⟨olds, hold, hol, hll⟩ := src_ok (sz := i.size) hr hvx (ys := els) (ob := True) rfl (by simp [srcSz]) trivial
  obtain ⟨news, hnew, hnl, hyl⟩ := src_ok hr (hr.ev y) hs hsz hob
  have hvx' := hvx
  unfold R Rc at hvx'
  obtain ⟨A, c, hv, h3, h4, h5, h6, h7⟩ := hvx'
  have hcc := h6 rfl
  subst hcc
  rw [hv] at hold
  rcases run_app (ty' := o.type) hux huy hi hz hzs hold hnew hbytes h63 with ⟨hroom, _⟩ | ⟨hfull, w', C', cap, rest', hrun', hext, hblk, hC', hcs, hcap⟩
  · omega
  · rw [← hv] at hrun'
    have hrd : Reads ok w w' := hext.reads hr.mem.okl
    obtain ⟨ρ', h8, h9⟩ := newarr_ok hr e i.size (els ++ ys) C' (olds ++ news) rest' hext hblk (by simp [hC']) (fun el hm => by
      rcases List.mem_append.1 hm with hm | hm
      · exact hll el hm
      · exact hyl el hm) (by rw [List.flatten_append]; exact RcList_append hol hnl)
    unfold Oper.wp
    rw [hrun _ w' hrun', Oper.upon_value]
    refine h ops l' h2 _ _ ⟨ρ', ok, ?_⟩
    rw [← hdst]
    refine h8.putO hd ?_
    unfold R
    exact .inl ⟨_, cap, _, h9, rfl, .inr (by simp), Nat.le_refl _, hcap, by simp [hcs], fun h => by cases h⟩
end
end Go.Proofs.Ytoickofcmngdjaa.Aw

/- A logic of abstract states for walks: obligations computed by rewriting. -/
set_option linter.unusedVariables false
set_option linter.unusedSimpArgs false
namespace Go.Proofs.Ytoickofcmngdjaa.Aw
open Go.RowKit

/-! ### Lists of operations -/
def dstsOk (n : Nat) : List GOp → Bool
  | [] => true
  | g :: l => dstOk n g.dst && dstsOk n l
def wpO : List GOp → St → (St → Prop) → Prop
  | [], s, K => K s
  | ⟨d, none, op⟩ :: l, s, K => match aop s.ev s op with
    | some (z, s', ob) => ob ∧ wpO l (s'.putO d z) K
    | none => False
  | ⟨d, some (t, want), op⟩ :: l, s, K => match gdB (look s.tm t) want with
    | some b => match op.still, aop (fun x => (s.ev x).strip) s op with
      | true, some (z, _, ob) => (b = true → opOb s.ev op ∧ ob) ∧ wpO l (s.putO d (.opt b z)) K
      | _, _ => False
    | none => False

theorem wpO_run {n : Nat} : ∀ {gs : List GOp} {s : St} {K : St → Prop}, dstsOk n gs = true → wpO gs s K → ∃ s' ob, runOps n gs s = some (s', ob) ∧ ob ∧ K s'
  | [], s, K, _, h => ⟨s, True, rfl, trivial, h⟩
  | ⟨d, none, op⟩ :: l, s, K, hd, h => by
    simp only [dstsOk, Bool.and_eq_true] at hd
    unfold wpO at h
    split at h
    · rename_i z s1 ob ha
      obtain ⟨s2, ob2, h1, h2, h3⟩ := wpO_run hd.2 h.2
      refine ⟨s2, ob ∧ ob2, ?_, ⟨h.1, h2⟩, h3⟩
      simp only [runOps, stepOp, hd.1, cond_true, ha, h1]
    · exact h.elim
  | ⟨d, some (t, want), op⟩ :: l, s, K, hd, h => by
    simp only [dstsOk, Bool.and_eq_true] at hd
    unfold wpO at h
    split at h
    · rename_i b hb
      split at h
      · rename_i z s1 ob hst ha
        obtain ⟨s2, ob2, h1, h2, h3⟩ := wpO_run hd.2 h.2
        refine ⟨s2, (b = true → opOb s.ev op ∧ ob) ∧ ob2, ?_, ⟨h.1, h2⟩, h3⟩
        simp only [runOps, stepOp, hd.1, cond_true, hb, hst, ha, h1]
      · exact h.elim
    · exact h.elim

section
variable {P : Program} {E : Env} {Q : Exit → St → Prop} {s s' : St} {n : Nat}
theorem AWpL.wp {gs : List GOp} (hn : E.n = n) (hd : dstsOk n gs = true) (h : wpO gs s (Q .normal)) : AWpL P E Q gs s := by
  obtain ⟨s', ob, h1, h2, h3⟩ := wpO_run hd h
  exact AWpL.all (hn ▸ h1) h2 h3
/-- A region. -/
theorem AWp.reg {af : List (List Nat)} {gs : List GOp} (hn : E.n = n) (hd : dstsOk n gs = true) (h : wpO gs s (Q .normal)) : AWp P E Q (.region false af gs) s :=
  AWp.region (AWpL.wp hn hd h)
/-- A region and what follows. -/
theorem AWp.regs {af : List (List Nat)} {gs : List GOp} {y : ACode} (hn : E.n = n) (hd : dstsOk n gs = true) (h : wpO gs s (AWp P E Q y)) : AWp P E Q (.seq (.region false af gs) y) s :=
  AWp.seq (AWp.region (AWpL.wp hn hd h))
theorem AWpL.wpT (k : Nat) {gs : List GOp} (hn : E.n = n) (hd : dstsOk n (gs.take k) = true) (h : wpO (gs.take k) s (AWpL P E Q (gs.drop k))) : AWpL P E Q gs s := by
  obtain ⟨s', ob, h1, h2, h3⟩ := wpO_run hd h
  exact AWpL.take k (hn ▸ h1) h2 h3
theorem AWpQ.wp {gs : List GOp} (hn : E.n = n) (hs : allStill gs = true) (hd : dstsOk n gs = true) (h : wpO gs s (Q .normal)) : AWpQ P E Q gs s := by
  obtain ⟨s', ob, h1, h2, h3⟩ := wpO_run hd h
  exact AWpQ.all hs (hn ▸ h1) h2 h3
theorem AWpQ.wpT (k : Nat) {gs : List GOp} (hn : E.n = n) (hs : allStill (gs.take k) = true) (hd : dstsOk n (gs.take k) = true) (h : wpO (gs.take k) s (AWpQ P E Q (gs.drop k))) : AWpQ P E Q gs s := by
  obtain ⟨s', ob, h1, h2, h3⟩ := wpO_run hd h
  exact AWpQ.take k hs (hn ▸ h1) h2 h3
end

/-! ### Maps that change nothing -/
mutual
theorem mapA_some {m : Nat → Option Nat} (h : ∀ r, m r = some r) : ∀ x : AV, mapA m x = x
  | .hnd r off n k ex => by unfold mapA; rw [h]
  | .ptr r i o => by unfold mapA; rw [h]
  | .fn f caps => by unfold mapA; rw [mapL_some h]
  | .agg cs => by unfold mapA; rw [mapL_some h]
  | .tup cs => by unfold mapA; rw [mapL_some h]
  | .opt c x => by unfold mapA; rw [mapA_some h]
  | .any => rfl
  | .val v => rfl
  | .imm a b c d => rfl
  | .pim cs => rfl
theorem mapL_some {m : Nat → Option Nat} (h : ∀ r, m r = some r) : ∀ xs : List AV, mapL m xs = xs
  | [] => rfl
  | x :: xs => by unfold mapL; rw [mapA_some h, mapL_some h]
end
theorem mapR_some {m : Nat → Option Nat} (h : ∀ r, m r = some r) : ∀ g : Reg, mapR m g = g
  | .box e cs => by show Reg.box e (mapL m cs) = _; rw [mapL_some h]
  | .tab e cs => by show Reg.tab e (mapL m cs) = _; rw [mapL_some h]
  | .arr .. => rfl
  | .dead => rfl
theorem mapT_some {m : Nat → Option Nat} (h : ∀ r, m r = some r) : ∀ l : List (Nat × AV), mapT m l = l
  | [] => rfl
  | (i, x) :: l => by unfold mapT; rw [mapA_some h, mapT_some h]
theorem kpM_nil (s : St) (r : Nat) : kpM s [] r = some r := rfl
theorem bkM_nil (L r : Nat) : bkM [] L r = some (L + r) := by simp [bkM]
theorem retRg_nil (s : St) : ∀ (l : List Reg) (r : Nat), retRg s [] [] r l = l
  | [], r => rfl
  | g :: l, r => by
    unfold retRg
    rw [retRg_nil s l, show pos [] r = none from rfl]
    simp only
    rw [mapR_some (kpM_nil s)]
/-- Behind a call that only read and left nothing. -/
theorem retS_nil (s : St) (dst : Option Nat) (x : AV) : retS s [] dst [] x = s.putO dst (mapA (bkM [] s.rg.length) x) := by
  unfold retS
  rw [retRg_nil, mapT_some (kpM_nil s)]

/-! ### The end of a function -/
def wpRet (np : Nat) (π : List Nat) (rs : List RV) (Post : List Reg → AV → Prop) (s : St) : Prop :=
  renOk np s.rg.length π = true ∧ match resAVs (renS π s) rs with
    | some (l, ob) => ob ∧ Post (renS π s).rg (tupOf l)
    | none => False
def PinOk (E : Env) (rg0 : List Reg) : Prop := ∀ r p, E.pin r = some p → r < E.np ∧ isBox (rg0.getD r .dead) = true
section
variable {P : Program} {E : Env} {s : St} {rs : List RV} {Post : List Reg → AV → Prop} {rg0 : List Reg} {np : Nat}
theorem wpRet.out {π : List Nat} (hp : PinOk E rg0) (hnp : E.np = np) (h : wpRet np π rs Post s) : ∃ s' l ob, Weak E s s' ∧ resAVs s' rs = some (l, ob) ∧ ob ∧ Post s'.rg (tupOf l) := by
  obtain ⟨h1, h2⟩ := h
  split at h2
  · rename_i l ob hl
    exact ⟨renS π s, l, ob, weak_ren π (fun r p hr => (hp r p hr).1) (hnp ▸ h1), hl, h2.1, h2.2⟩
  · exact h2.elim
theorem Retn.ret {π : List Nat} (hp : PinOk E rg0) (hnp : E.np = np) (h : wpRet np π rs Post s) : Retn E rs Post .ret s := h.out hp hnp
theorem Retn.normal {π : List Nat} (hp : PinOk E rg0) (hnp : E.np = np) (h : wpRet np π rs Post s) : Retn E rs Post .normal s := h.out hp hnp
end

/-! ### A function, by its printed code -/
def FnIs (P : Program) (f : FuncId) (n : Nat) (rs : List RV) (ac : ACode) : Prop :=
  ∃ fn c, P.funcs[f]? = some fn ∧ fn.body = some c ∧ compC P c = some ac ∧ rvsOf P fn.results.toList = some rs ∧ fn.ntmps = n
theorem Spec.of {P : Program} {f : FuncId} {n : Nat} {rs : List RV} {ac : ACode} (k : FnIs P f n rs ac) {rg0 : List Reg} {args : List AV} {Post : List Reg → AV → Prop} (hl : Nat.ble args.length n = true)
    (h : ∀ E : Env, E.n = n → E.np = rg0.length → PinOk E rg0 → AWp P E (Retn E rs Post) ac ⟨params 0 args, rg0⟩) : Spec P f rg0 args Post := by
  obtain ⟨fn, c, h1, h2, h3, h4, h5⟩ := k
  exact Spec.intro h1 h2 h3 h4 h5 (Nat.le_of_ble_eq_true hl) h
end Go.Proofs.Ytoickofcmngdjaa.Aw

/- A logic of abstract states for walks: code computed by rewriting, up to calls and loops. -/
set_option linter.unusedVariables false
set_option linter.unusedSimpArgs false
namespace Go.Proofs.Ytoickofcmngdjaa.Aw
open Go.RowKit

/-- Operations that have rules of their own. -/
def stops : AOp → Bool
  | .call .. => true
  | .callv .. => true
  | .app .. => true
  | .copy .. => true
  | .clr .. => true
  | .appz .. => true
  | .slca .. => true
  | .slcl .. => true
  | .bts .. => true
  | .bad .. => true
  | _ => false

def wpL (P : Program) (E : Env) (Q : Exit → St → Prop) : List GOp → St → Prop
  | [], s => Q .normal s
  | ⟨d, none, op⟩ :: l, s => bif stops op then AWpL P E Q (⟨d, none, op⟩ :: l) s else match aop s.ev s op with
    | some (z, s', ob) => ob ∧ wpL P E Q l (s'.putO d z)
    | none => False
  | ⟨d, some (t, want), op⟩ :: l, s => bif stops op then AWpL P E Q (⟨d, some (t, want), op⟩ :: l) s else match gdB (look s.tm t) want with
    | some b => match op.still, aop (fun x => (s.ev x).strip) s op with
      | true, some (z, _, ob) => (b = true → opOb s.ev op ∧ ob) ∧ wpL P E Q l (s.putO d (.opt b z))
      | _, _ => False
    | none => False
def wpQ (P : Program) (E : Env) (Q : Exit → St → Prop) : List GOp → St → Prop
  | [], s => Q .normal s
  | ⟨d, none, op⟩ :: l, s => bif stops op then AWpQ P E Q (⟨d, none, op⟩ :: l) s else match op.still, aop s.ev s op with
    | true, some (z, s', ob) => ob ∧ wpQ P E Q l (s'.putO d z)
    | _, _ => False
  | ⟨d, some (t, want), op⟩ :: l, s => bif stops op then AWpQ P E Q (⟨d, some (t, want), op⟩ :: l) s else match gdB (look s.tm t) want with
    | some b => match op.still, aop (fun x => (s.ev x).strip) s op with
      | true, some (z, _, ob) => (b = true → opOb s.ev op ∧ ob) ∧ wpQ P E Q l (s.putO d (.opt b z))
      | _, _ => False
    | none => False

section
variable {P : Program} {E : Env} {n : Nat}
theorem AWpL.of (hn : E.n = n) : ∀ {gs : List GOp} {Q : Exit → St → Prop} {s : St}, dstsOk n gs = true → wpL P E Q gs s → AWpL P E Q gs s
  | [], Q, s, _, h => AWpL.nil h
  | ⟨d, none, op⟩ :: l, Q, s, hd, h => by
    simp only [dstsOk, Bool.and_eq_true] at hd
    unfold wpL at h
    cases hs : stops op with
    | true => rw [hs] at h; exact h
    | false =>
      rw [hs] at h
      simp only [cond_false] at h
      split at h
      · rename_i z s1 ob ha
        refine AWpL.cons (s' := s1.putO d z) (ob := ob) ?_ h.1 (AWpL.of hn hd.2 h.2)
        simp only [stepOp, hn, hd.1, cond_true, ha]
      · exact h.elim
  | ⟨d, some (t, want), op⟩ :: l, Q, s, hd, h => by
    simp only [dstsOk, Bool.and_eq_true] at hd
    unfold wpL at h
    cases hs : stops op with
    | true => rw [hs] at h; exact h
    | false =>
      rw [hs] at h
      simp only [cond_false] at h
      split at h
      · rename_i b hb
        split at h
        · rename_i z s1 ob hst ha
          refine AWpL.cons (s' := s.putO d (.opt b z)) (ob := b = true → opOb s.ev op ∧ ob) ?_ h.1 (AWpL.of hn hd.2 h.2)
          simp only [stepOp, hn, hd.1, cond_true, hb, hst, ha]
        · exact h.elim
      · exact h.elim
theorem AWpQ.of (hn : E.n = n) : ∀ {gs : List GOp} {Q : Exit → St → Prop} {s : St}, dstsOk n gs = true → wpQ P E Q gs s → AWpQ P E Q gs s
  | [], Q, s, _, h => AWpQ.nil h
  | ⟨d, none, op⟩ :: l, Q, s, hd, h => by
    simp only [dstsOk, Bool.and_eq_true] at hd
    unfold wpQ at h
    cases hs : stops op with
    | true => rw [hs] at h; exact h
    | false =>
      rw [hs] at h
      simp only [cond_false] at h
      split at h
      · rename_i z s1 ob hst ha
        refine AWpQ.cons (s' := s1.putO d z) (ob := ob) hst ?_ h.1 (AWpQ.of hn hd.2 h.2)
        simp only [stepOp, hn, hd.1, cond_true, ha]
      · exact h.elim
  | ⟨d, some (t, want), op⟩ :: l, Q, s, hd, h => by
    simp only [dstsOk, Bool.and_eq_true] at hd
    unfold wpQ at h
    cases hs : stops op with
    | true => rw [hs] at h; exact h
    | false =>
      rw [hs] at h
      simp only [cond_false] at h
      split at h
      · rename_i b hb
        split at h
        · rename_i z s1 ob hst ha
          refine AWpQ.cons (s' := s.putO d (.opt b z)) (ob := b = true → opOb s.ev op ∧ ob) hst ?_ h.1 (AWpQ.of hn hd.2 h.2)
          simp only [stepOp, hn, hd.1, cond_true, hb, hst, ha]
        · exact h.elim
      · exact h.elim
end

/-- What a sequence asks of its first part, computed. -/
def SeqC (f : (Exit → St → Prop) → St → Prop) (Q : Exit → St → Prop) : Exit → St → Prop
  | .normal, s => f Q s
  | e, s => Q e s
/-- The region's operations only read. -/
def quietOps : List GOp → Bool
  | [] => true
  | ⟨_, _, .app ..⟩ :: _ => false
  | ⟨_, _, .copy ..⟩ :: _ => false
  | ⟨_, _, .clr ..⟩ :: _ => false
  | ⟨_, _, .appz ..⟩ :: _ => false
  | ⟨_, _, .bad ..⟩ :: _ => false
  | ⟨_, _, .callv ..⟩ :: _ => false
  | ⟨_, _, op⟩ :: l => op.still && quietOps l
def wpC (P : Program) (E : Env) : ACode → (Exit → St → Prop) → St → Prop
  | .skip, Q, s => Q .normal s
  | .ret, Q, s => Q .ret s
  | .exit id, Q, s => Q (.exit id) s
  | .region false _ gs, Q, s => wpL P E Q gs s
  | .region true af gs, Q, s => bif quietOps gs then wpQ P E Q gs s else AWp P E Q (.region true af gs) s
  | .seq x y, Q, s => wpC P E x (SeqC (wpC P E y) Q) s
  | .cond c x y, Q, s => match s.ev c with
    | .val (.bool b) => (b = true → wpC P E x Q s) ∧ (b = false → wpC P E y Q s)
    | _ => False
  | .block id x, Q, s => wpC P E x (Blk id Q) s
  | .loop x, Q, s => AWp P E Q (.loop x) s
def dstsC (n : Nat) : ACode → Bool
  | .region _ _ gs => dstsOk n gs
  | .seq x y => dstsC n x && dstsC n y
  | .cond _ x y => dstsC n x && dstsC n y
  | .block _ x => dstsC n x
  | _ => true
theorem AWp.of {P : Program} {E : Env} {n : Nat} (hn : E.n = n) (hm : P.follows .mixedOrders = true) : ∀ {c : ACode} {Q : Exit → St → Prop} {s : St}, dstsC n c = true → wpC P E c Q s → AWp P E Q c s
  | .skip, Q, s, _, h => AWp.skip h
  | .ret, Q, s, _, h => AWp.ret h
  | .exit id, Q, s, _, h => AWp.exit h
  | .region false _ gs, Q, s, hd, h => AWp.region (AWpL.of hn hd h)
  | .region true af gs, Q, s, hd, h => by
    unfold wpC at h
    cases hq : quietOps gs with
    | true => rw [hq] at h; exact AWp.draw hm (AWpQ.of hn hd h)
    | false => rw [hq] at h; exact h
  | .seq x y, Q, s, hd, h => by
    simp only [dstsC, Bool.and_eq_true] at hd
    refine AWp.seq (AWp.mono ?_ (AWp.of hn hm hd.1 h))
    intro e s hq
    cases e with
    | normal => exact AWp.of hn hm hd.2 hq
    | _ => exact hq
  | .cond c x y, Q, s, hd, h => by
    simp only [dstsC, Bool.and_eq_true] at hd
    unfold wpC at h
    split at h
    · rename_i b hb
      exact AWp.cond hb (fun e => AWp.of hn hm hd.1 (h.1 e)) (fun e => AWp.of hn hm hd.2 (h.2 e))
    · exact h.elim
  | .block id x, Q, s, hd, h => AWp.block (AWp.of hn hm hd h)
  | .loop x, Q, s, _, h => h

/-! ### States made plainer -/
theorem weak_to {E : Env} {s : St} {rg0 rg : List Reg} {np : Nat} {tm : List (Nat × AV)} (π : List Nat) (hp : PinOk E rg0) (hnp : E.np = np) (h : renOk np s.rg.length π = true)
    (ht : subTm (renT π s.tm) tm) (hr : (π.map fun r => renR π (s.rg.getD r .dead)) = rg) : Weak E s ⟨tm, rg⟩ := by
  subst hr
  exact (weak_ren π (fun r p hr => (hp r p hr).1) (hnp ▸ h)).trans (weak_tm ht)

/-! ### Calls whose result is known and that leave nothing -/
def Gives (p : AV → Prop) : List Reg → AV → Prop := fun rg x => rg = [] ∧ p x
section
variable {P : Program} {E : Env} {Q : Exit → St → Prop} {s : St}
theorem AWpL.callg {f : FuncId} {xs : List Opd} {dst : Option Nat} {gs : List GOp} {p : AV → Prop} (hs : Spec P f [] (xs.map fun x => borA 4 s (s.ev x)) (Gives p))
    (hd : dstOk E.n dst = true) (hb : allOb (borOb 4 s) (xs.map s.ev)) (h : ∀ x, p x → NI x ∧ AWpL P E Q gs (s.putO dst (mapA (bkM [] s.rg.length) x))) : AWpL P E Q (⟨dst, none, .call f xs⟩ :: gs) s :=
  AWpL.callb hs hd hb fun rg x ⟨hr, hx⟩ => by
    subst hr
    obtain ⟨h1, h2⟩ := h x hx
    exact ⟨⟨h1, fun _ h => by cases h⟩, by rw [retS_nil]; exact h2⟩
end

mutual
/-- A value without memory. -/
def plainA : AV → Bool
  | .val _ => true
  | .agg cs => plainL cs
  | .tup cs => plainL cs
  | _ => false
def plainL : List AV → Bool
  | [] => true
  | x :: xs => plainA x && plainL xs
end
mutual
theorem plain_ni : ∀ (x : AV), plainA x = true → NI x
  | .val _, _ => by unfold NI; trivial
  | .agg cs, h => by unfold NI; exact plainL_ni cs (by simpa [plainA] using h)
  | .tup cs, h => by unfold NI; exact plainL_ni cs (by simpa [plainA] using h)
  | .any, h => by simp [plainA] at h
  | .imm .., h => by simp [plainA] at h
  | .pim _, h => by simp [plainA] at h
  | .hnd .., h => by simp [plainA] at h
  | .ptr .., h => by simp [plainA] at h
  | .fn .., h => by simp [plainA] at h
  | .opt .., h => by simp [plainA] at h
theorem plainL_ni : ∀ (xs : List AV), plainL xs = true → NIL xs
  | [], _ => by unfold NIL; trivial
  | x :: xs, h => by
    simp only [plainL, Bool.and_eq_true] at h
    unfold NIL; exact ⟨plain_ni x h.1, plainL_ni xs h.2⟩
end
mutual
theorem plain_map (m : Nat → Option Nat) : ∀ (x : AV), plainA x = true → mapA m x = x
  | .val _, _ => by unfold mapA; rfl
  | .agg cs, h => by unfold mapA; rw [plainL_map m cs (by simpa [plainA] using h)]
  | .tup cs, h => by unfold mapA; rw [plainL_map m cs (by simpa [plainA] using h)]
  | .any, h => by simp [plainA] at h
  | .imm .., h => by simp [plainA] at h
  | .pim _, h => by simp [plainA] at h
  | .hnd .., h => by simp [plainA] at h
  | .ptr .., h => by simp [plainA] at h
  | .fn .., h => by simp [plainA] at h
  | .opt .., h => by simp [plainA] at h
theorem plainL_map (m : Nat → Option Nat) : ∀ (xs : List AV), plainL xs = true → mapL m xs = xs
  | [], _ => by unfold mapL; rfl
  | x :: xs, h => by
    simp only [plainL, Bool.and_eq_true] at h
    unfold mapL; rw [plain_map m x h.1, plainL_map m xs h.2]
end
section
variable {P : Program} {E : Env} {Q : Exit → St → Prop} {s : St}
/-- A call whose result is this value. -/
theorem AWpL.calle {f : FuncId} {xs : List Opd} {dst : Option Nat} {gs : List GOp} {y : AV} (hs : Spec P f [] (xs.map fun x => borA 4 s (s.ev x)) (Gives (· = y)))
    (hy : plainA y = true) (hd : dstOk E.n dst = true) (hb : allOb (borOb 4 s) (xs.map s.ev)) (h : AWpL P E Q gs (s.putO dst y)) : AWpL P E Q (⟨dst, none, .call f xs⟩ :: gs) s :=
  AWpL.callg hs hd hb fun x hx => by subst hx; exact ⟨plain_ni _ hy, by rw [plain_map _ _ hy]; exact h⟩
end

/-! ### Functions that leave nothing -/
def rsTm : List RV → Option (List Nat)
  | [] => some []
  | .t i :: l => (rsTm l).map (i :: ·)
  | _ => none
def looks (tm : List (Nat × AV)) : List Nat → List AV
  | [] => []
  | i :: l => renA [] (look tm i) :: looks tm l
def Ends (is : List Nat) (p : AV → Prop) : Exit → St → Prop
  | .normal, s => p (tupOf (looks s.tm is))
  | .ret, s => p (tupOf (looks s.tm is))
  | _, _ => False
theorem resAVs_tm {s : St} : ∀ {rs : List RV} {is : List Nat}, rsTm rs = some is → ∃ ob, resAVs (renS [] s) rs = some (looks s.tm is, ob) ∧ ob
  | [], is, h => by
    simp only [rsTm, Option.some.injEq] at h
    subst h
    exact ⟨True, rfl, trivial⟩
  | .t i :: l, is, h => by
    simp only [rsTm, Option.map_eq_some_iff] at h
    obtain ⟨js, h1, rfl⟩ := h
    obtain ⟨ob, h2, h3⟩ := resAVs_tm (s := s) h1
    refine ⟨True ∧ ob, ?_, trivial, h3⟩
    simp only [resAVs, resAV, h2, looks]
    rw [show look (renS [] s).tm i = renA [] (look s.tm i) from look_ren _ _]
  | .c .. :: l, is, h => by simp [rsTm] at h
theorem Ends.out {E : Env} {rs : List RV} {is : List Nat} {p : AV → Prop} (hr : rsTm rs = some is) (hnp : E.np = 0) (hp : PinOk E []) : ∀ e s, Ends is p e s → Retn E rs (Gives p) e s := by
  have key : ∀ s, p (tupOf (looks s.tm is)) → ∃ s' l ob, Weak E s s' ∧ resAVs s' rs = some (l, ob) ∧ ob ∧ Gives p s'.rg (tupOf l) := fun s h => by
    obtain ⟨ob, h1, h2⟩ := resAVs_tm (s := s) hr
    exact ⟨renS [] s, _, ob, weak_ren [] (fun r q hq => (hp r q hq).1) (by rw [hnp]; rfl), h1, h2, rfl, h⟩
  intro e s h
  cases e with
  | normal => exact key s h
  | ret => exact key s h
  | _ => exact h.elim
theorem Spec.gives {P : Program} {f : FuncId} {n : Nat} {rs : List RV} {ac : ACode} (k : FnIs P f n rs ac) (hm : P.follows .mixedOrders = true) {args : List AV} {p : AV → Prop} {is : List Nat} (hl : Nat.ble args.length n = true) (hr : rsTm rs = some is)
    (hd : dstsC n ac = true) (h : ∀ E : Env, E.n = n → E.np = 0 → PinOk E [] → wpC P E ac (Ends is p) ⟨params 0 args, []⟩) : Spec P f [] args (Gives p) :=
  Spec.of k hl fun E hn hnp hp => AWp.mono (Ends.out hr hnp hp) (AWp.of hn hm hd (h E hn hnp hp))
end Go.Proofs.Ytoickofcmngdjaa.Aw
