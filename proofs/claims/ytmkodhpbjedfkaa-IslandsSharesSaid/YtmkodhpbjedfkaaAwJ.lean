/- A logic of abstract states for walks: lists of operations. -/
import Derived.Test.YtmkodhpbjedfkaaAwI
set_option linter.unusedVariables false
set_option linter.unusedSimpArgs false
namespace Go.Proofs.Ytmkodhpbjedfkaa.Aw
open Go.RowKit

/-- An operation with its target and its guard. -/
structure GOp where
  dst : Option Nat
  g : Option (Nat × Bool)
  op : AOp
  deriving Inhabited

def gop (P : Program) (ops : Array Oper) (o : Oper) : Option GOp :=
  match comp P o with
  | some ao => match o.guard with
    | none => some ⟨o.dst, none, ao⟩
    | some (j, want) => match (ops[j]?).bind (·.dst) with
      | some t => some ⟨o.dst, some (t, want), ao⟩
      | none => none
  | none => none
def gops (P : Program) (ops : Array Oper) : List Oper → Option (List GOp)
  | [] => some []
  | o :: l => match gop P ops o, gops P ops l with
    | some g, some r => some (g :: r)
    | _, _ => none

def St.putO (s : St) : Option Nat → AV → St
  | some d, x => s.put d x
  | none, _ => s
def dstOk (n : Nat) : Option Nat → Bool
  | some d => Nat.blt d n
  | none => true
def gdOb (ev : Opd → AV) : List Opd → Prop
  | [] => True
  | x :: xs => (ev x).guard = true ∧ gdOb ev xs
/-- Whether an operation with this guard is wanted. -/
def gdB : AV → Bool → Option Bool
  | .val (.bool b), want => some (b == want)
  | .opt c (.val (.bool b)), want => some (c && (b == want))
  | _, _ => none
/-- The operands that are used are there. -/
def opOb (ev : Opd → AV) : AOp → Prop
  | .pick c x y => (ev c).guard = true ∧ match (ev c).strip with
    | .val (.bool b) => (b = true → (ev x).guard = true) ∧ (b = false → (ev y).guard = true)
    | _ => False
  | op => gdOb ev op.opds
def stepOp (n : Nat) (s : St) (o : GOp) : Option (St × Prop) :=
  bif dstOk n o.dst then
    match o.g with
    | none => match aop s.ev s o.op with
      | some (z, s', ob) => some (s'.putO o.dst z, ob)
      | none => none
    | some (t, want) => match gdB (look s.tm t) want with
      | some b => bif o.op.still then
          match aop (fun x => (s.ev x).strip) s o.op with
          | some (z, _, ob) => some (s.putO o.dst (.opt b z), b = true → opOb s.ev o.op ∧ ob)
          | none => none
        else none
      | none => none
  else none

section
variable {P : Program} {E : Env} {s s' : St} {a : Act} {w : World} {ρ : Nat → Option (Option Place)} {ok : Nat → Prop} {z : AV}

theorem cond_some' {α : Type} {c : Bool} {o : Option α} {y : α} (h : (bif c then o else none) = some y) : c = true ∧ o = some y := by
  cases c
  · cases h
  · exact ⟨rfl, h⟩
theorem cond_some {α : Type} {c : Bool} {o : Option α} {y : α} (h : (bif c then o else none) = some y) : o = some y := by
  cases c
  · cases h
  · exact h
theorem aop_still {ev : Opd → AV} {ao : AOp} {ob : Prop} (h : aop ev s ao = some (z, s', ob)) (hs : ao.still = true) : s' = s := by
  cases ao <;> simp only [AOp.still, Bool.false_eq_true] at hs <;> simp only [aop, reduceCtorEq] at h
  all_goals first
    | (simp only [Option.some.injEq, Prod.mk.injEq] at h; exact h.2.1.symm)
    | (simp only [Option.map_eq_some_iff, Prod.mk.injEq, Prod.exists] at h; obtain ⟨_, _, _, _, h, _⟩ := h; exact h.symm)
    | (simp only [Option.map_eq_some_iff, Prod.mk.injEq, Prod.exists] at h; obtain ⟨_, _, _, _, _, h, _⟩ := h; exact h.symm)
    | skip
  all_goals repeat' (split at h)
  all_goals first
    | (cases h; done)
    | (simp only [Option.some.injEq, Prod.mk.injEq] at h; exact h.2.1.symm)
    | (simp only [Option.map_eq_some_iff, Prod.mk.injEq] at h; obtain ⟨_, _, _, h, _⟩ := h; exact h.symm)
    | (replace h := cond_some h; simp only [Option.some.injEq, Prod.mk.injEq] at h; exact h.2.1.symm)
    | (replace h := cond_some h; split at h <;> (simp only [Option.some.injEq, Prod.mk.injEq] at h; exact h.2.1.symm))

theorem RelM.put_any (h : RelM E s a w ρ ok) {d : Nat} {x : AV} {v : Value} (hd : dstOk E.n (some d) = true) (hx : R w ok ρ x v) : RelM E (s.put d x) (a.put (some d) v) w ρ ok :=
  h.put (by simpa [dstOk, Nat.blt_eq] using hd) hx
theorem RelM.putO (h : RelM E s a w ρ ok) {d : Option Nat} {x : AV} {v : Value} (hd : dstOk E.n d = true) (hx : R w ok ρ x v) : RelM E (s.putO d x) (a.put d v) w ρ ok := by
  cases d with
  | none => exact h
  | some d => exact h.put_any hd hx

/-- The concrete post of an abstract one. -/
def conc (E : Env) (Q : Exit → St → Prop) : Exit → Act → World → Prop := fun e a w => ∃ s, Q e s ∧ Rel E s a w

theorem undef_not_bool (b : Bool) : (undef : Value) ≠ .bool b := by unfold undef; intro h; cases h

theorem gop_guard {ops : Array Oper} {o : Oper} {g : GOp} (h : gop P ops o = some g) : comp P o = some g.op ∧ g.dst = o.dst ∧
    ((o.guard = none ∧ g.g = none) ∨ ∃ j want t, o.guard = some (j, want) ∧ (ops[j]?).bind (·.dst) = some t ∧ g.g = some (t, want)) := by
  unfold gop at h
  split at h
  · rename_i ao hc
    split at h
    · rename_i hg
      simp only [Option.some.injEq] at h
      subst h
      exact ⟨hc, rfl, .inl ⟨hg, rfl⟩⟩
    · rename_i j want hg
      split at h
      · rename_i t ht
        simp only [Option.some.injEq] at h
        subst h
        exact ⟨hc, rfl, .inr ⟨j, want, t, hg, ht, rfl⟩⟩
      · cases h
  · cases h

theorem wanted_none {o : Oper} (h : o.guard = none) (y : Nat → Option Bool) : Region.wanted o y = true := by simp [Region.wanted, h]
theorem wanted_some {o : Oper} {j : Nat} {want : Bool} (h : o.guard = some (j, want)) (y : Nat → Option Bool) : Region.wanted o y = (y j == some want) := by simp [Region.wanted, h]

theorem yield_of {ops : Array Oper} {a : Act} {j t : Nat} {b : Bool} (ht : (ops[j]?).bind (·.dst) = some t) (hv : a.tmps.getD t undef = .bool b) : yielded ops a.tmps j = some b := by
  unfold yielded
  rw [ht]
  simp only [Option.bind_some]
  rcases Nat.lt_or_ge t a.tmps.size with h | h
  · rw [Array.getD, dif_pos h] at hv
    rw [Array.getElem?_eq_getElem h]
    have : a.tmps[t] = .bool b := hv
    rw [this]
  · rw [Array.getD, dif_neg (by omega)] at hv
    exact absurd hv (undef_not_bool b)

theorem yield_undef {ops : Array Oper} {a : Act} {j t : Nat} (ht : (ops[j]?).bind (·.dst) = some t) (hv : a.tmps.getD t undef = undef) : yielded ops a.tmps j = none := by
  unfold yielded
  rw [ht]
  simp only [Option.bind_some]
  rcases Nat.lt_or_ge t a.tmps.size with h | h
  · rw [Array.getD, dif_pos h] at hv
    rw [Array.getElem?_eq_getElem h]
    have : a.tmps[t] = undef := hv
    rw [this]
    rfl
  · rw [Array.getElem?_eq_none (by omega)]
theorem guards_ok {ev : Opd → AV} : ∀ {l : List Opd}, gdOb ev l → ∀ x ∈ l, (ev x).guard = true
  | [], _, x, h => by cases h
  | y :: l, h, x, hx => by
    rcases List.mem_cons.1 hx with rfl | hx
    · exact h.1
    · exact guards_ok h.2 x hx

set_option maxHeartbeats 1000000 in
theorem pick_inv {o : Oper} {c x y : Opd} (hc : comp P o = some (.pick c x y)) : ∃ c' x' y', o.op = .pick c' x' y' ∧ c = .of c' ∧ x = .of x' ∧ y = .of y' := by
  replace hc := comp0_of hc (by simp)
  obtain ⟨dst, op, type, ps, after, guard⟩ := o
  cases op <;> simp only [comp0, Option.some.injEq, reduceCtorEq] at hc
  case pick c' x' y' =>
    simp only [AOp.pick.injEq] at hc
    obtain ⟨rfl, rfl, rfl⟩ := hc
    exact ⟨c', x', y', rfl, rfl, rfl, rfl⟩
  case call c =>
    obtain ⟨callee, args, argTypes⟩ := c
    dsimp only at hc
    cases callee with
    | invoke r m => simp only [reduceCtorEq] at hc
    | builtin b =>
      cases b <;> simp only [reduceCtorEq] at hc
      all_goals (repeat' (split at hc)) <;> simp only [Option.some.injEq, reduceCtorEq] at hc
    | value g =>
      cases g <;> simp only [Option.some.injEq, reduceCtorEq] at hc
      split at hc <;> first | (cases hc; done) | skip
      split at hc <;> simp only [Option.some.injEq, reduceCtorEq] at hc
  case makeFunc fn first caps =>
    cases fn <;> simp only [reduceCtorEq] at hc
    split at hc <;> simp only [Option.some.injEq, reduceCtorEq] at hc
  all_goals (repeat' (split at hc)) <;> first | (simp only [Option.some.injEq, reduceCtorEq] at hc; done) | (simp only [Option.map_eq_some_iff, reduceCtorEq, and_false, exists_false] at hc; done) | skip

/-- An operation that is carried out, its operands known where they are there. -/
theorem strip_sound {o : Oper} {ao : AOp} (hc : comp P o = some ao) (hst : ao.still = true) {ob : Prop} (ha : aop (fun x => (s.ev x).strip) s ao = some (z, s', ob)) (h1 : opOb s.ev ao) (h2 : ob) (hr : RelM E s a w ρ ok) :
    ∃ v ρ' ok', (∀ w', Ext w w' → (execOp a.eval o).run P w' = .ok (.value v) w') ∧ RelM E s' a w ρ' ok' ∧ R w ok' ρ' z v := by
  by_cases hp : ∃ c x y, ao = .pick c x y
  · obtain ⟨c, x, y, rfl⟩ := hp
    obtain ⟨c', x', y', ho, rfl, rfl, rfl⟩ := pick_inv hc
    unfold opOb at h1
    obtain ⟨h3, h4⟩ := h1
    simp only [aop] at ha
    split at h4
    · rename_i b hb
      rw [hb] at ha
      simp only [Option.some.injEq, Prod.mk.injEq] at ha
      obtain ⟨rfl, rfl, rfl⟩ := ha
      have k1 := R_strip h3 (hr.ev (.of c'))
      rw [hb, Opd.cv_of] at k1
      have k2 : b = true → R w ok ρ (s.ev (.of x')).strip (a.eval x') := fun e => by
        have := R_strip (h4.1 e) (hr.ev (.of x')); rwa [Opd.cv_of] at this
      have k3 : b = false → R w ok ρ (s.ev (.of y')).strip (a.eval y') := fun e => by
        have := R_strip (h4.2 e) (hr.ev (.of y')); rwa [Opd.cv_of] at this
      refine ⟨bif b then a.eval x' else a.eval y', ρ, ok, fun w' he => ?_, hr, pickAV_ok (fun e => R_strip (h2.1 e) (k2 e)) (fun e => R_strip (h2.2 e) (k3 e))⟩
      obtain ⟨dst, op, type, ps, after, guard⟩ := o
      dsimp only at ho
      subst ho
      simp only [execOp, R_val k1, asBool]
      cases b <;> rfl
    · exact h4.elim
  · have h1' : gdOb s.ev ao.opds := by
      cases ao <;> first | exact h1 | exact absurd ⟨_, _, _, rfl⟩ hp
    rcases aop_sound hc ha h2 hr (fun x hx => R_strip (guards_ok h1' x hx) (hr.ev x)) with ⟨v, ρ', ok', h3, h4, h5⟩ | ⟨hst', _⟩
    · exact ⟨v, ρ', ok', h3, h4, h5⟩
    · rw [hst] at hst'; cases hst'

/-- One operation, from a state: either it is carried out, with this result; or it is not wanted. -/
theorem stepOp_sound {ops : Array Oper} {o : Oper} {g : GOp} (hg : gop P ops o = some g) {ob : Prop} (hs : stepOp E.n s g = some (s', ob)) (hob : ob) (hr : RelM E s a w ρ ok) :
    (Region.wanted o (yielded ops a.tmps) = true ∧ ∃ v w' ρ' ok', ((execOp a.eval o).run P w = .ok (.value v) w' ∨ ((execOp a.eval o).run P w = .ok .skip w' ∧ v = undef)) ∧ RelM E s' (a.put o.dst v) w' ρ' ok' ∧
      (g.op.mild = true → Ext w w') ∧ (g.op.still = true → w' = w ∧ ∀ w'', Ext w w'' → (execOp a.eval o).run P w'' = .ok (.value v) w'')) ∨
    (Region.wanted o (yielded ops a.tmps) = false ∧ ∃ ρ' ok', RelM E s' (a.put o.dst undef) w ρ' ok') := by
  obtain ⟨hc, hd, hgd⟩ := gop_guard hg
  unfold stepOp at hs
  cases hdst : dstOk E.n g.dst with
  | false => rw [hdst] at hs; cases hs
  | true =>
    rw [hdst] at hs
    simp only [cond_true] at hs
    rcases hgd with ⟨hg0, hg1⟩ | ⟨j, want, t, hg0, hg1, hg2⟩
    · rw [hg1] at hs
      dsimp only at hs
      left
      refine ⟨wanted_none hg0 _, ?_⟩
      split at hs
      · rename_i z s1 ob1 ha
        simp only [Option.some.injEq, Prod.mk.injEq] at hs
        obtain ⟨rfl, rfl⟩ := hs
        rcases aop_sound hc ha hob hr (fun x _ => hr.ev x) with ⟨v, ρ', ok', h1, h2, h3⟩ | ⟨hst, v, w', ρ', ok', h1, h2, h3, h4⟩
        · refine ⟨v, w, ρ', ok', .inl (h1 w (Ext.refl w)), ?_, fun _ => Ext.refl w, fun _ => ⟨rfl, h1⟩⟩
          rw [← hd]; exact h2.putO hdst h3
        · refine ⟨v, w', ρ', ok', h1, ?_, h4, fun h => by rw [hst] at h; cases h⟩
          rw [← hd]; exact h2.putO hdst h3
      · cases hs
    · rw [hg2] at hs
      dsimp only at hs
      split at hs <;> first | (cases hs; done) | skip
      rename_i b hb
      replace hs := cond_some' hs
      obtain ⟨hst, hs⟩ := hs
      split at hs <;> first | (cases hs; done) | skip
      rename_i z s1 ob1 ha
      simp only [Option.some.injEq, Prod.mk.injEq] at hs
      obtain ⟨rfl, rfl⟩ := hs
      have hw : Region.wanted o (yielded ops a.tmps) = b := by
        rw [wanted_some hg0]
        have hv := hr.tm t
        unfold gdB at hb
        split at hb
        · rename_i b' want' hl
          simp only [Option.some.injEq] at hb
          rw [hl] at hv
          rw [yield_of hg1 (R_val hv), ← hb]; simp
        · rename_i want' c b' hl
          simp only [Option.some.injEq] at hb
          rw [hl] at hv
          unfold R at hv
          cases c with
          | true => rw [yield_of hg1 (R_val (hv.1 rfl)), ← hb]; simp
          | false => rw [yield_undef hg1 (hv.2 rfl), ← hb]; rfl
        · cases hb
      obtain rfl := aop_still ha hst
      cases b with
      | true =>
        obtain ⟨h1, h2⟩ := hob rfl
        left
        refine ⟨hw, ?_⟩
        obtain ⟨v, ρ', ok', h3, h4, h5⟩ := strip_sound hc hst ha h1 h2 hr
        refine ⟨v, w, ρ', ok', .inl (h3 w (Ext.refl w)), ?_, fun _ => Ext.refl w, fun _ => ⟨rfl, h3⟩⟩
        rw [← hd]
        refine h4.putO hdst ?_
        unfold R; exact ⟨fun _ => h5, fun h => (by cases h)⟩
      | false =>
        right
        refine ⟨hw, ρ, ok, ?_⟩
        rw [← hd]
        refine hr.putO hdst ?_
        unfold R; exact ⟨fun h => (by cases h), fun _ => rfl⟩
end

/-- Operations one behind the other. -/
def runOps (n : Nat) : List GOp → St → Option (St × Prop)
  | [], s => some (s, True)
  | o :: l, s => match stepOp n s o with
    | some (s', ob) => match runOps n l s' with
      | some (s'', ob') => some (s'', ob ∧ ob')
      | none => none
    | none => none

def AWpL (P : Program) (E : Env) (Q : Exit → St → Prop) (gs : List GOp) (s : St) : Prop :=
  ∀ (ops : Array Oper) (l : List Oper), gops P ops l = some gs → ∀ a w, Rel E s a w → wpList P ops (conc E Q) l a w

section
variable {P : Program} {E : Env} {Q : Exit → St → Prop} {s s' : St}
theorem gops_cons {ops : Array Oper} {l : List Oper} {g : GOp} {gs : List GOp} (h : gops P ops l = some (g :: gs)) : ∃ o l', l = o :: l' ∧ gop P ops o = some g ∧ gops P ops l' = some gs := by
  cases l with
  | nil => simp [gops] at h
  | cons o l =>
    unfold gops at h
    split at h
    · rename_i g' r h1 h2
      simp only [Option.some.injEq, List.cons.injEq] at h
      obtain ⟨rfl, rfl⟩ := h
      exact ⟨o, l, rfl, h1, h2⟩
    · cases h
theorem gops_nil {ops : Array Oper} {l : List Oper} (h : gops P ops l = some []) : l = [] := by
  cases l with
  | nil => rfl
  | cons o l =>
    unfold gops at h
    split at h
    · simp at h
    · cases h

theorem AWpL.nil (h : Q .normal s) : AWpL P E Q [] s := fun ops l hl a w hr => by
  rw [gops_nil hl]; exact ⟨s, h, hr⟩
theorem AWpL.cons {g : GOp} {gs : List GOp} {ob : Prop} (hs : stepOp E.n s g = some (s', ob)) (hob : ob) (h : AWpL P E Q gs s') : AWpL P E Q (g :: gs) s := fun ops l hl a w hr => by
  obtain ⟨o, l', rfl, h1, h2⟩ := gops_cons hl
  obtain ⟨ρ, ok, hr⟩ := hr
  unfold wpList
  rcases stepOp_sound h1 hs hob hr with ⟨hw, v, w', ρ', ok', h3, h4, _⟩ | ⟨hw, ρ', ok', h4⟩
  · rw [if_pos hw]
    left
    unfold Oper.wp
    rcases h3 with h3 | ⟨h3, rfl⟩
    · rw [h3, Oper.upon_value]
      exact h ops l' h2 _ _ ⟨ρ', ok', h4⟩
    · rw [h3, Oper.upon_skip]
      exact h ops l' h2 _ _ ⟨ρ', ok', h4⟩
  · rw [if_neg (by rw [hw]; simp)]
    exact h ops l' h2 _ _ ⟨ρ', ok', h4⟩
theorem AWpL.run : ∀ {gs hs : List GOp} {s s' : St} {ob : Prop}, runOps E.n gs s = some (s', ob) → ob → AWpL P E Q hs s' → AWpL P E Q (gs ++ hs) s
  | [], hs, s, s', ob, h, hob, k => by
    simp only [runOps, Option.some.injEq, Prod.mk.injEq] at h
    obtain ⟨rfl, rfl⟩ := h
    exact k
  | g :: gs, hs, s, s', ob, h, hob, k => by
    unfold runOps at h
    split at h <;> first | (cases h; done) | skip
    rename_i s1 ob1 h1
    split at h <;> first | (cases h; done) | skip
    rename_i s2 ob2 h2
    simp only [Option.some.injEq, Prod.mk.injEq] at h
    obtain ⟨rfl, rfl⟩ := h
    exact AWpL.cons h1 hob.1 (AWpL.run h2 hob.2 k)
theorem AWpL.take (n : Nat) {gs : List GOp} {ob : Prop} (h : runOps E.n (gs.take n) s = some (s', ob)) (hob : ob) (k : AWpL P E Q (gs.drop n) s') : AWpL P E Q gs s := by
  have := AWpL.run h hob k
  rwa [List.take_append_drop] at this
theorem AWpL.all {gs : List GOp} {ob : Prop} (h : runOps E.n gs s = some (s', ob)) (hob : ob) (k : Q .normal s') : AWpL P E Q gs s := by
  have := AWpL.run h hob (AWpL.nil (P := P) k)
  rwa [List.append_nil] at this
end
end Go.Proofs.Ytmkodhpbjedfkaa.Aw
