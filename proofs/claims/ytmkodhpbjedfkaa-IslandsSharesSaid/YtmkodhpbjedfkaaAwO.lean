/- A logic of abstract states for walks: rules for calls, and for regions that draw their order. -/
import Derived.Test.YtmkodhpbjedfkaaAwN
set_option linter.unusedVariables false
set_option linter.unusedSimpArgs false
namespace Go.Proofs.Ytmkodhpbjedfkaa.Aw
open Go.RowKit

/-! ### Values without parts that are only read -/
mutual
def NI : AV → Prop
  | .any => True
  | .val _ => True
  | .imm .. => False
  | .pim _ => False
  | .hnd .. => True
  | .ptr .. => True
  | .fn _ caps => NIL caps
  | .agg cs => NIL cs
  | .tup cs => NIL cs
  | .opt _ x => NI x
def NIL : List AV → Prop
  | [] => True
  | x :: xs => NI x ∧ NIL xs
end
def NIR : Reg → Prop
  | .dead => True
  | .box _ cs => NIL cs
  | .arr _ _ els => ∀ el ∈ els, NIL el
section
variable {w : World} {okA okB : Nat → Prop} {ρ : Nat → Option (Option Place)}
mutual
theorem Rc_ni : ∀ (x : AV) (v : Value), NI x → Rc w okA x v → Rc w okB x v
  | .any, v, _, _ => by unfold Rc; trivial
  | .val x, v, _, h => by unfold Rc at h ⊢; exact h
  | .imm .., v, hn, _ => by unfold NI at hn; exact hn.elim
  | .pim _, v, hn, _ => by unfold NI at hn; exact hn.elim
  | .hnd .., v, _, h => by unfold Rc at h; exact h.elim
  | .ptr .., v, _, h => by unfold Rc at h; exact h.elim
  | .fn f caps, v, hn, h => by
    unfold NI at hn; unfold Rc at h ⊢
    obtain ⟨vs, h1, h2⟩ := h
    exact ⟨vs, h1, RcList_ni _ _ hn h2⟩
  | .agg cs, v, hn, h => by
    unfold NI at hn; unfold Rc at h ⊢
    obtain ⟨vs, h1, h2⟩ := h
    exact ⟨vs, h1, RcList_ni _ _ hn h2⟩
  | .tup cs, v, hn, h => by
    unfold NI at hn; unfold Rc at h ⊢
    obtain ⟨vs, h1, h2⟩ := h
    exact ⟨vs, h1, RcList_ni _ _ hn h2⟩
  | .opt c x, v, hn, h => by
    unfold NI at hn; unfold Rc at h ⊢
    exact ⟨fun hc => Rc_ni x v hn (h.1 hc), h.2⟩
theorem RcList_ni : ∀ (xs : List AV) (vs : List Value), NIL xs → RcList w okA xs vs → RcList w okB xs vs
  | [], vs, _, h => by unfold RcList at h ⊢; exact h
  | x :: xs, vs, hn, h => by
    unfold NIL at hn; unfold RcList at h ⊢
    obtain ⟨v, vs', e, h1, h2⟩ := h
    exact ⟨v, vs', e, Rc_ni x v hn.1 h1, RcList_ni xs vs' hn.2 h2⟩
end
mutual
theorem R_ni : ∀ (x : AV) (v : Value), NI x → R w okA ρ x v → R w okB ρ x v
  | .any, v, _, _ => by unfold R; trivial
  | .val x, v, _, h => by unfold R at h ⊢; exact h
  | .imm .., v, hn, _ => by unfold NI at hn; exact hn.elim
  | .pim _, v, hn, _ => by unfold NI at hn; exact hn.elim
  | .hnd .., v, _, h => by unfold R at h ⊢; exact h
  | .ptr .., v, _, h => by unfold R at h ⊢; exact h
  | .fn f caps, v, hn, h => by
    unfold NI at hn; unfold R at h ⊢
    obtain ⟨vs, h1, h2⟩ := h
    exact ⟨vs, h1, RList_ni _ _ hn h2⟩
  | .agg cs, v, hn, h => by
    unfold NI at hn; unfold R at h ⊢
    obtain ⟨vs, h1, h2⟩ := h
    exact ⟨vs, h1, RList_ni _ _ hn h2⟩
  | .tup cs, v, hn, h => by
    unfold NI at hn; unfold R at h ⊢
    obtain ⟨vs, h1, h2⟩ := h
    exact ⟨vs, h1, RList_ni _ _ hn h2⟩
  | .opt c x, v, hn, h => by
    unfold NI at hn; unfold R at h ⊢
    exact ⟨fun hc => R_ni x v hn (h.1 hc), h.2⟩
theorem RList_ni : ∀ (xs : List AV) (vs : List Value), NIL xs → RList w okA ρ xs vs → RList w okB ρ xs vs
  | [], vs, _, h => by unfold RList at h ⊢; exact h
  | x :: xs, vs, hn, h => by
    unfold NIL at hn; unfold RList at h ⊢
    obtain ⟨v, vs', e, h1, h2⟩ := h
    exact ⟨v, vs', e, R_ni x v hn.1 h1, RList_ni xs vs' hn.2 h2⟩
end
theorem NIL_flatten : ∀ {els : List (List AV)}, (∀ el ∈ els, NIL el) → NIL els.flatten
  | [], _ => by simp [NIL]
  | el :: els, h => by
    rw [List.flatten_cons]
    have : ∀ (a b : List AV), NIL a → NIL b → NIL (a ++ b) := by
      intro a
      induction a with
      | nil => intro b _ hb; exact hb
      | cons x a ih => intro b ha hb; unfold NIL at ha; show NIL (x :: (a ++ b)); unfold NIL; exact ⟨ha.1, ih b ha.2 hb⟩
    exact this _ _ (h el List.mem_cons_self) (NIL_flatten fun x hx => h x (List.mem_cons_of_mem _ hx))
theorem Mem.ni {rg : List Reg} (h : Mem w okA ρ rg) (hn : ∀ g ∈ rg, NIR g) : Mem w (fun _ => False) ρ rg := by
  refine ⟨fun b hb => hb.elim, h.inj, fun r p hp => ⟨(h.own r p hp).1, fun x => x⟩, fun r g hg => ?_, h.out⟩
  have h0 := h.reg r g hg
  have hng := hn g (List.mem_of_getElem? hg)
  cases g with
  | dead => exact h0
  | box e cs =>
    obtain ⟨b, C, h1, h2, h3⟩ := h0
    exact ⟨b, C, h1, h2, RList_ni _ _ hng h3⟩
  | arr e sz els =>
    rcases h0 with ⟨b, d, C, pre, vs, rest, h1, h2, h3, h4, h5, h6⟩ | h0
    · exact .inl ⟨b, d, C, pre, vs, rest, h1, h2, h3, h4, h5, RcList_ni _ _ (NIL_flatten hng) h6⟩
    · exact .inr h0
end

section
variable {P : Program} {E : Env} {Q : Exit → St → Prop} {s s' : St} {a : Act} {w : World} {ρ : Nat → Option (Option Place)} {ok : Nat → Prop}

theorem args_ren (hr : RelM E s a w ρ ok) (π : List Nat) : ∀ (xs : List Opd), RList w ok (pl π ρ) (xs.map fun x => renA π (s.ev x)) (xs.map (Opd.cv a))
  | [] => by unfold List.map RList; rfl
  | x :: xs => by
    show RList w ok (pl π ρ) (renA π (s.ev x) :: xs.map fun x => renA π (s.ev x)) (x.cv a :: xs.map (Opd.cv a))
    unfold RList
    exact ⟨_, _, rfl, R_ren _ _ (hr.ev x), args_ren hr π xs⟩
theorem args_bor (hr : RelM E s a w ρ ok) : ∀ (xs : List Opd), (∀ x ∈ xs, borOb 4 s (s.ev x)) → RcList w (fun b => b < w.heap.size) (xs.map fun x => borA 4 s (s.ev x)) (xs.map (Opd.cv a))
  | [], _ => by unfold List.map RcList; rfl
  | x :: xs, h => by
    show RcList w _ (borA 4 s (s.ev x) :: xs.map fun x => borA 4 s (s.ev x)) (x.cv a :: xs.map (Opd.cv a))
    unfold RcList
    exact ⟨_, _, rfl, borA_ok hr 4 _ _ (h x List.mem_cons_self) (hr.ev x), args_bor hr xs fun y hy => h y (List.mem_cons_of_mem _ hy)⟩

theorem map_getD (l : List Nat) (g : Nat → Reg) (i : Nat) (h : i < l.length) : (l.map g)[i]? = some (g (l.getD i 0)) := by
  rw [List.getElem?_map, List.getD_eq_getElem?_getD, List.getElem?_eq_getElem h]; rfl

/-- What is handed to a callee that gets the regions of π. -/
def lent (s : St) (π : List Nat) : List Reg := π.map fun r => renR π (s.rg.getD r .dead)

theorem call_strict (hr : RelM E s a w ρ ok) {f : FuncId} {π : List Nat} {args : List AV} {vals : Array Value} {Post : List Reg → AV → Prop} (hs : Spec P f (lent s π) args Post)
    (hπ : piOk s.rg.length π = true) (hpin : ∀ r ∈ π, isBox (s.reg r) = true ∨ E.pin r = none) (ha : RList w ok (pl π ρ) args vals.toList) {dst : Option Nat} (hd : dstOk E.n dst = true) {K : Act → World → Prop}
    (h : ∀ rg x, Post rg x → π.length ≤ rg.length ∧ ∀ v w', Rel E (retS s π dst rg x) (a.put dst v) w' → K (a.put dst v) w') :
    Calls P f vals w fun e w' => ∃ v, e = .returned v ∧ K (a.put dst v) w' := by
  obtain ⟨hinj, hlt⟩ := piOk_inj hπ
  refine (hs w (pl π ρ) ok vals (hr.mem.ren hinj hlt) ha).mono ?_
  rintro e w' ⟨rg, x, v, ρ', ok', rfl, hp, hm, hx, h1, h2, h3, h4⟩
  obtain ⟨h5, h6⟩ := h rg x hp
  refine ⟨v, rfl, h6 v w' ⟨_, _, ret_core hr hπ hpin hd hm hx h1 h5 h2 h3 fun r hb hlt' => ?_⟩⟩
  have hreg : (lent s π)[r]? = some (renR π (s.reg (π.getD r 0))) := map_getD π _ r hlt'
  cases hg : s.reg (π.getD r 0) with
  | box e cs => rw [hg] at hreg; exact h4 r e (renL π cs) hreg
  | arr => rw [hg] at hb; cases hb
  | dead => rw [hg] at hb; cases hb

theorem pl_nil (ρ : Nat → Option (Option Place)) : pl [] ρ = fun _ => none := by funext r; simp [pl]
theorem Mem.none {w : World} {ok : Nat → Prop} (h : ∀ b, ok b → b < w.heap.size) : Mem w ok (fun _ => none) [] :=
  ⟨h, fun _ _ _ _ h => (by cases h), fun _ _ h => (by cases h), fun _ _ h => (by simp at h), fun _ _ => rfl⟩

theorem call_lent (hr : RelM E s a w ρ ok) {f : FuncId} {args : List AV} {vals : Array Value} {Post : List Reg → AV → Prop} (hs : Spec P f [] args Post)
    (ha : RcList w (fun b => b < w.heap.size) args vals.toList) {dst : Option Nat} (hd : dstOk E.n dst = true) {K : Act → World → Prop}
    (h : ∀ rg x, Post rg x → (NI x ∧ ∀ g ∈ rg, NIR g) ∧ ∀ v w', Rel E (retS s [] dst rg x) (a.put dst v) w' → K (a.put dst v) w') :
    Calls P f vals w fun e w' => ∃ v, e = .returned v ∧ K (a.put dst v) w' := by
  refine (hs w (fun _ => none) (fun b => b < w.heap.size) vals (Mem.none fun _ h => h) (RList_of_Rc _ _ ha)).mono ?_
  rintro e w' ⟨rg, x, v, ρ', ok', rfl, hp, hm, hx, h1, h2, h3, h4⟩
  obtain ⟨⟨h5, h5'⟩, h6⟩ := h rg x hp
  refine ⟨v, rfl, h6 v w' ⟨_, _, ret_core hr (π := []) rfl (fun r hr => by cases hr) hd (hm.ni h5') (R_ni x v h5 hx) (fun b hb => hb.elim) (Nat.zero_le _) (fun r p hp => ?_) ⟨h3.os, h3.tape, h3.output, h3.size, fun k hk _ => h3.block k hk fun ⟨r0, p0, h7, _⟩ => by cases h7⟩ fun r hb hlt' => by simp at hlt'⟩⟩
  rcases h2 r p hp with h7 | ⟨r0, p0, h7, _⟩
  · exact .inl h7
  · cases h7

theorem upon_enter {o : Oper} {f : FuncId} {vals : Array Value} {dst : Option Nat} (hd : o.dst = dst) {K : Act → World → Prop} {Q' : Exit → Act → World → Prop} (h : Calls P f vals w fun e w' => ∃ v, e = .returned v ∧ K (a.put dst v) w') :
    Oper.upon P o a K Q' (.ok (.enter f vals) w) := by
  rw [Oper.upon_enter]
  refine h.mono ?_
  rintro e w' ⟨v, rfl, hk⟩
  rw [hd]; exact hk

/-- A call, the callee getting the regions of π. -/
theorem AWpL.call (π : List Nat) {f : FuncId} {xs : List Opd} {dst : Option Nat} {gs : List GOp} {Post : List Reg → AV → Prop} (hs : Spec P f (lent s π) (xs.map fun x => renA π (s.ev x)) Post)
    (hd : dstOk E.n dst = true) (hπ : piOk s.rg.length π = true) (hpin : ∀ r ∈ π, isBox (s.reg r) = true ∨ E.pin r = none)
    (h : ∀ rg x, Post rg x → π.length ≤ rg.length ∧ AWpL P E Q gs (retS s π dst rg x)) : AWpL P E Q (⟨dst, none, .call f xs⟩ :: gs) s := fun ops l hl a w hrel => by
  obtain ⟨o, l', rfl, h1, h2⟩ := gops_cons hl
  obtain ⟨ρ, ok, hr⟩ := hrel
  obtain ⟨hc, hdst, hg⟩ := gop_guard h1
  rcases hg with ⟨hg0, _⟩ | ⟨_, _, _, _, _, hg⟩
  case inr => cases hg
  unfold wpList
  rw [if_pos (wanted_none hg0 _)]
  left
  obtain ⟨_, vals, hv, hrun⟩ := call_inv (a := a) (w := w) hc
  unfold Oper.wp
  rw [hrun]
  refine upon_enter hdst.symm (call_strict hr hs hπ hpin (by rw [hv]; exact args_ren hr π xs) hd fun rg x hp => ?_)
  obtain ⟨h3, h4⟩ := h rg x hp
  exact ⟨h3, fun v w' hr' => h4 ops l' h2 _ _ hr'⟩

/-- A call, the callee only reading. -/
theorem AWpL.callb {f : FuncId} {xs : List Opd} {dst : Option Nat} {gs : List GOp} {Post : List Reg → AV → Prop} (hs : Spec P f [] (xs.map fun x => borA 4 s (s.ev x)) Post)
    (hd : dstOk E.n dst = true) (hb : allOb (borOb 4 s) (xs.map s.ev))
    (h : ∀ rg x, Post rg x → (NI x ∧ ∀ g ∈ rg, NIR g) ∧ AWpL P E Q gs (retS s [] dst rg x)) : AWpL P E Q (⟨dst, none, .call f xs⟩ :: gs) s := fun ops l hl a w hrel => by
  obtain ⟨o, l', rfl, h1, h2⟩ := gops_cons hl
  obtain ⟨ρ, ok, hr⟩ := hrel
  obtain ⟨hc, hdst, hg⟩ := gop_guard h1
  rcases hg with ⟨hg0, _⟩ | ⟨_, _, _, _, _, hg⟩
  case inr => cases hg
  unfold wpList
  rw [if_pos (wanted_none hg0 _)]
  left
  obtain ⟨_, vals, hv, hrun⟩ := call_inv (a := a) (w := w) hc
  unfold Oper.wp
  rw [hrun]
  refine upon_enter hdst.symm (call_lent hr hs (by rw [hv]; exact args_bor hr xs fun x hx => allOb_mem hb _ (List.mem_map.2 ⟨x, hx, rfl⟩)) hd fun rg x hp => ?_)
  obtain ⟨h3, h4⟩ := h rg x hp
  exact ⟨h3, fun v w' hr' => h4 ops l' h2 _ _ hr'⟩

/-- A call of a function value. -/
theorem AWpL.callv {g : Opd} {f : FuncId} {caps : List AV} {xs : List Opd} {dst : Option Nat} {gs : List GOp} {Post : List Reg → AV → Prop} (hg : s.ev g = .fn f caps) (hf : fnOk P f = true)
    (hs : Spec P f [] (xs.map (fun x => renA [] (s.ev x)) ++ renL [] caps) Post)
    (hd : dstOk E.n dst = true) (h : ∀ rg x, Post rg x → AWpL P E Q gs (retS s [] dst rg x)) : AWpL P E Q (⟨dst, none, .callv g xs⟩ :: gs) s := fun ops l hl a w hrel => by
  obtain ⟨o, l', rfl, h1, h2⟩ := gops_cons hl
  obtain ⟨ρ, ok, hr⟩ := hrel
  obtain ⟨hc, hdst, hgd⟩ := gop_guard h1
  rcases hgd with ⟨hg0, _⟩ | ⟨_, _, _, _, _, hgd⟩
  case inr => cases hgd
  unfold wpList
  rw [if_pos (wanted_none hg0 _)]
  left
  have hfv := hr.ev g
  rw [hg] at hfv
  unfold R at hfv
  obtain ⟨vs, hv1, hv2⟩ := hfv
  obtain ⟨vals, hv, hrun⟩ := callv_inv (a := a) (w := w) hc hv1 hf
  unfold Oper.wp
  rw [hrun]
  refine upon_enter hdst.symm (call_strict (π := []) hr hs rfl (fun r hr => by cases hr) (by rw [Array.toList_append, hv]; exact RList_append (args_ren hr [] xs) (RList_ren _ _ hv2)) hd fun rg x hp => ?_)
  exact ⟨Nat.zero_le _, fun v w' hr' => h rg x hp ops l' h2 _ _ hr'⟩

/-! ### Regions that draw their order and only read -/
def AWpQ (P : Program) (E : Env) (Q : Exit → St → Prop) (gs : List GOp) (s : St) : Prop :=
  ∀ (ops : Array Oper) (l : List Oper), gops P ops l = some gs → ∀ a w, Rel E s a w → wpQuiet P ops (Ext w) (fun a' => ∀ w', Ext w w' → conc E Q .normal a' w') l a
theorem AWp.draw (hm : P.follows .mixedOrders = true) {af : List (List Nat)} {gs : List GOp} (h : AWpQ P E Q gs s) : AWp P E Q (.region true af gs) s := fun code hc a w hr => by
  cases hc with
  | @draw id ops _ hg hB => exact wp_region_quiet (C := Ext w) hm hB (Ext.drawn w _) (h ops _ hg a w hr)
theorem AWpQ.nil (h : Q .normal s) : AWpQ P E Q [] s := fun ops l hl a w hrel => by
  rw [gops_nil hl]
  obtain ⟨ρ, ok, hr⟩ := hrel
  exact fun w' he => ⟨s, h, ρ, ok, hr.ext he⟩
theorem AWpQ.cons {g : GOp} {gs : List GOp} {ob : Prop} (hst : g.op.still = true) (hs : stepOp E.n s g = some (s', ob)) (hob : ob) (h : AWpQ P E Q gs s') : AWpQ P E Q (g :: gs) s := fun ops l hl a w hrel => by
  obtain ⟨o, l', rfl, h1, h2⟩ := gops_cons hl
  obtain ⟨ρ, ok, hr⟩ := hrel
  unfold wpQuiet
  rcases stepOp_sound h1 hs hob hr with ⟨hw, v, w1, ρ', ok', h3, h4, _, h5⟩ | ⟨hw, ρ', ok', h4⟩
  · rw [if_pos hw]
    obtain ⟨rfl, h6⟩ := h5 hst
    refine ⟨v, fun w' he => ?_, h ops l' h2 _ _ ⟨ρ', ok', h4⟩⟩
    unfold Oper.quietAt
    rw [h6 w' he]
    exact ⟨rfl, rfl⟩
  · rw [if_neg (by rw [hw]; simp)]
    exact h ops l' h2 _ _ ⟨ρ', ok', h4⟩
def allStill : List GOp → Bool
  | [] => true
  | g :: gs => g.op.still && allStill gs
theorem AWpQ.run : ∀ {gs hs : List GOp} {s s' : St} {ob : Prop}, allStill gs = true → runOps E.n gs s = some (s', ob) → ob → AWpQ P E Q hs s' → AWpQ P E Q (gs ++ hs) s
  | [], hs, s, s', ob, _, h, hob, k => by
    simp only [runOps, Option.some.injEq, Prod.mk.injEq] at h
    obtain ⟨rfl, rfl⟩ := h
    exact k
  | g :: gs, hs, s, s', ob, hst, h, hob, k => by
    simp only [allStill, Bool.and_eq_true] at hst
    unfold runOps at h
    split at h <;> first | (cases h; done) | skip
    rename_i s1 ob1 h1
    split at h <;> first | (cases h; done) | skip
    rename_i s2 ob2 h2
    simp only [Option.some.injEq, Prod.mk.injEq] at h
    obtain ⟨rfl, rfl⟩ := h
    exact AWpQ.cons hst.1 h1 hob.1 (AWpQ.run hst.2 h2 hob.2 k)
theorem AWpQ.take (n : Nat) {gs : List GOp} {ob : Prop} (hst : allStill (gs.take n) = true) (h : runOps E.n (gs.take n) s = some (s', ob)) (hob : ob) (k : AWpQ P E Q (gs.drop n) s') : AWpQ P E Q gs s := by
  have := AWpQ.run hst h hob k
  rwa [List.take_append_drop] at this
theorem AWpQ.all {gs : List GOp} {ob : Prop} (hst : allStill gs = true) (h : runOps E.n gs s = some (s', ob)) (hob : ob) (k : Q .normal s') : AWpQ P E Q gs s := by
  have := AWpQ.run hst h hob (AWpQ.nil (P := P) k)
  rwa [List.append_nil] at this
/-- A call that only reads and gives a value without memory. -/
theorem AWpQ.callb {f : FuncId} {xs : List Opd} {dst : Option Nat} {gs : List GOp} {y : Value} (hs : Spec P f [] (xs.map fun x => borA 4 s (s.ev x)) fun _ x => x = .val y)
    (hd : dstOk E.n dst = true) (hb : allOb (borOb 4 s) (xs.map s.ev)) (h : AWpQ P E Q gs (s.putO dst (.val y))) : AWpQ P E Q (⟨dst, none, .call f xs⟩ :: gs) s := fun ops l hl a w hrel => by
  obtain ⟨o, l', rfl, h1, h2⟩ := gops_cons hl
  obtain ⟨ρ, ok, hr⟩ := hrel
  obtain ⟨hc, hdst, hg⟩ := gop_guard h1
  rcases hg with ⟨hg0, _⟩ | ⟨_, _, _, _, _, hg⟩
  case inr => cases hg
  unfold wpQuiet
  rw [if_pos (wanted_none hg0 _)]
  refine ⟨y, fun w' he => ?_, ?_⟩
  · obtain ⟨_, vals, hv, hrun⟩ := call_inv (a := a) (w := w') hc
    unfold Oper.quietAt
    rw [hrun]
    refine ⟨rfl, ?_⟩
    have hr' := hr.ext he
    refine (hs w' (fun _ => none) (fun b => b < w'.heap.size) vals (Mem.none fun _ h => h) (RList_of_Rc _ _ (by rw [hv]; exact args_bor hr' xs fun x hx => allOb_mem hb _ (List.mem_map.2 ⟨x, hx, rfl⟩)))).mono ?_
    rintro e w'' ⟨rg, x, v, ρ', ok', rfl, rfl, hm, hx, h3, h4, h5, h6⟩
    refine ⟨by rw [R_val hx], he.trans ⟨h5.os, h5.tape, h5.output, h5.size, fun k hk => h5.block k hk fun ⟨r0, p0, h7, _⟩ => by cases h7⟩⟩
  · exact h ops l' h2 _ _ ⟨ρ, ok, by rw [← hdst]; exact hr.putO hd (R_val_mk y)⟩
end
end Go.Proofs.Ytmkodhpbjedfkaa.Aw
