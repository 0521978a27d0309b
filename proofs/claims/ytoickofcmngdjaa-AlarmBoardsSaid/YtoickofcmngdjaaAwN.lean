/- A logic of abstract states for walks: lists of operations. -/
import Derived.Test.YtoickofcmngdjaaAwI
set_option linter.unusedVariables false
set_option linter.unusedSimpArgs false
namespace Go.Proofs.Ytoickofcmngdjaa.Aw
open Go.RowKit

/-- An operation with its target and its guard. -/
structure GOp where
  dst : Option Nat
  g : Option (Nat × Bool)
  op : AOp
  deriving Inhabited

def gop (P : Program) (ops : Array Oper) (o : Oper) : Option GOp :=
  match comp P o with
  | some ao => match o.guard with
    | none => some ⟨o.dst, none, ao⟩
    | some (j, want) => match (ops[j]?).bind (·.dst) with
      | some t => some ⟨o.dst, some (t, want), ao⟩
      | none => none
  | none => none
def gops (P : Program) (ops : Array Oper) : List Oper → Option (List GOp)
  | [] => some []
  | o :: l => match gop P ops o, gops P ops l with
    | some g, some r => some (g :: r)
    | _, _ => none

def St.putO (s : St) : Option Nat → AV → St
  | some d, x => s.put d x
  | none, _ => s
def dstOk (n : Nat) : Option Nat → Bool
  | some d => Nat.blt d n
  | none => true
def gdOb (ev : Opd → AV) : List Opd → Prop
  | [] => True
  | x :: xs => (ev x).guard = true ∧ gdOb ev xs
/-- Whether an operation with this guard is wanted. -/
def gdB : AV → Bool → Option Bool
  | .val (.bool b), want => some (b == want)
  | .opt c (.val (.bool b)), want => some (c && (b == want))
  | _, _ => none
/-- The operands that are used are there. -/
def opOb (ev : Opd → AV) : AOp → Prop
  | .pick c x y => (ev c).guard = true ∧ match (ev c).strip with
    | .val (.bool b) => (b = true → (ev x).guard = true) ∧ (b = false → (ev y).guard = true)
    | _ => False
  | op => gdOb ev op.opds
def stepOp (n : Nat) (s : St) (o : GOp) : Option (St × Prop) :=
  bif dstOk n o.dst then
    match o.g with
    | none => match aop s.ev s o.op with
      | some (z, s', ob) => some (s'.putO o.dst z, ob)
      | none => none
    | some (t, want) => match gdB (look s.tm t) want with
      | some b => bif o.op.still then
          match aop (fun x => (s.ev x).strip) s o.op with
          | some (z, _, ob) => some (s.putO o.dst (.opt b z), b = true → opOb s.ev o.op ∧ ob)
          | none => none
        else none
      | none => none
  else none

section
variable {P : Program} {E : Env} {s s' : St} {a : Act} {w : World} {ρ : Nat → Option (Option Place)} {ok : Nat → Prop} {z : AV}

theorem cond_some' {α : Type} {c : Bool} {o : Option α} {y : α} (h : (bif c then o else none) = some y) : c = true ∧ o = some y := by
  cases c
  · cases h
  · exact ⟨rfl, h⟩
theorem cond_some {α : Type} {c : Bool} {o : Option α} {y : α} (h : (bif c then o else none) = some y) : o = some y := by
  cases c
  · cases h
  · exact h
theorem aop_still {ev : Opd → AV} {ao : AOp} {ob : Prop} (h : aop ev s ao = some (z, s', ob)) (hs : ao.still = true) : s' = s := by
  cases ao <;> simp only [AOp.still, Bool.false_eq_true] at hs <;> simp only [aop, reduceCtorEq] at h
  all_goals first
    | (simp only [Option.some.injEq, Prod.mk.injEq] at h; exact h.2.1.symm)
    | (simp only [Option.map_eq_some_iff, Prod.mk.injEq, Prod.exists] at h; obtain ⟨_, _, _, _, h, _⟩ := h; exact h.symm)
    | (simp only [Option.map_eq_some_iff, Prod.mk.injEq, Prod.exists] at h; obtain ⟨_, _, _, _, _, h, _⟩ := h; exact h.symm)
    | skip
  all_goals repeat' (split at h)
  all_goals first
    | (cases h; done)
    | (simp only [Option.some.injEq, Prod.mk.injEq] at h; exact h.2.1.symm)
    | (simp only [Option.map_eq_some_iff, Prod.mk.injEq] at h; obtain ⟨_, _, _, h, _⟩ := h; exact h.symm)
    | (replace h := cond_some h; simp only [Option.some.injEq, Prod.mk.injEq] at h; exact h.2.1.symm)
    | (replace h := cond_some h; split at h <;> (simp only [Option.some.injEq, Prod.mk.injEq] at h; exact h.2.1.symm))

theorem RelM.put_any (h : RelM E s a w ρ ok) {d : Nat} {x : AV} {v : Value} (hd : dstOk E.n (some d) = true) (hx : R w ok ρ x v) : RelM E (s.put d x) (a.put (some d) v) w ρ ok :=
  h.put (by simpa [dstOk, Nat.blt_eq] using hd) hx
theorem RelM.putO (h : RelM E s a w ρ ok) {d : Option Nat} {x : AV} {v : Value} (hd : dstOk E.n d = true) (hx : R w ok ρ x v) : RelM E (s.putO d x) (a.put d v) w ρ ok := by
  cases d with
  | none => exact h
  | some d => exact h.put_any hd hx

/-- The concrete post of an abstract one. -/
def conc (E : Env) (Q : Exit → St → Prop) : Exit → Act → World → Prop := fun e a w => ∃ s, Q e s ∧ Rel E s a w

theorem undef_not_bool (b : Bool) : (undef : Value) ≠ .bool b := by unfold undef; intro h; cases h

theorem gop_guard {ops : Array Oper} {o : Oper} {g : GOp} (h : gop P ops o = some g) : comp P o = some g.op ∧ g.dst = o.dst ∧
    ((o.guard = none ∧ g.g = none) ∨ ∃ j want t, o.guard = some (j, want) ∧ (ops[j]?).bind (·.dst) = some t ∧ g.g = some (t, want)) := by
  unfold gop at h
  split at h
  · rename_i ao hc
    split at h
    · rename_i hg
      simp only [Option.some.injEq] at h
      subst h
      exact ⟨hc, rfl, .inl ⟨hg, rfl⟩⟩
    · rename_i j want hg
      split at h
      · rename_i t ht
        simp only [Option.some.injEq] at h
        subst h
        exact ⟨hc, rfl, .inr ⟨j, want, t, hg, ht, rfl⟩⟩
      · cases h
  · cases h

theorem wanted_none {o : Oper} (h : o.guard = none) (y : Nat → Option Bool) : Region.wanted o y = true := by simp [Region.wanted, h]
theorem wanted_some {o : Oper} {j : Nat} {want : Bool} (h : o.guard = some (j, want)) (y : Nat → Option Bool) : Region.wanted o y = (y j == some want) := by simp [Region.wanted, h]

theorem yield_of {ops : Array Oper} {a : Act} {j t : Nat} {b : Bool} (ht : (ops[j]?).bind (·.dst) = some t) (hv : a.tmps.getD t undef = .bool b) : yielded ops a.tmps j = some b := by
  unfold yielded
  rw [ht]
  simp only [Option.bind_some]
  rcases Nat.lt_or_ge t a.tmps.size with h | h
  · rw [Array.getD, dif_pos h] at hv
    rw [Array.getElem?_eq_getElem h]
    have : a.tmps[t] = .bool b := hv
    rw [this]
  · rw [Array.getD, dif_neg (by omega)] at hv
    exact absurd hv (undef_not_bool b)

theorem yield_undef {ops : Array Oper} {a : Act} {j t : Nat} (ht : (ops[j]?).bind (·.dst) = some t) (hv : a.tmps.getD t undef = undef) : yielded ops a.tmps j = none := by
  unfold yielded
  rw [ht]
  simp only [Option.bind_some]
  rcases Nat.lt_or_ge t a.tmps.size with h | h
  · rw [Array.getD, dif_pos h] at hv
    rw [Array.getElem?_eq_getElem h]
    have : a.tmps[t] = undef := hv
    rw [this]
    rfl
  · rw [Array.getElem?_eq_none (by omega)]
theorem guards_ok {ev : Opd → AV} : ∀ {l : List Opd}, gdOb ev l → ∀ x ∈ l, (ev x).guard = true
  | [], _, x, h => by cases h
  | y :: l, h, x, hx => by
    rcases List.mem_cons.1 hx with rfl | hx
    · exact h.1
    · exact guards_ok h.2 x hx

set_option maxHeartbeats 1000000 in
theorem pick_inv {o : Oper} {c x y : Opd} (hc : comp P o = some (.pick c x y)) : ∃ c' x' y', o.op = .pick c' x' y' ∧ c = .of c' ∧ x = .of x' ∧ y = .of y' := by
  replace hc := comp0_of hc (by simp)
  obtain ⟨dst, op, type, ps, after, guard⟩ := o
  cases op <;> simp only [comp0, Option.some.injEq, reduceCtorEq] at hc
  case pick c' x' y' =>
    simp only [AOp.pick.injEq] at hc
    obtain ⟨rfl, rfl, rfl⟩ := hc
    exact ⟨c', x', y', rfl, rfl, rfl, rfl⟩
  case call c =>
    obtain ⟨callee, args, argTypes⟩ := c
    dsimp only at hc
    cases callee with
    | invoke r m => simp only [reduceCtorEq] at hc
    | builtin b =>
      cases b <;> simp only [reduceCtorEq] at hc
      all_goals (repeat' (split at hc)) <;> simp only [Option.some.injEq, reduceCtorEq] at hc
    | value g =>
      cases g <;> simp only [Option.some.injEq, reduceCtorEq] at hc
      split at hc <;> first | (cases hc; done) | skip
      split at hc <;> simp only [Option.some.injEq, reduceCtorEq] at hc
  case makeFunc fn first caps =>
    cases fn <;> simp only [reduceCtorEq] at hc
    split at hc <;> simp only [Option.some.injEq, reduceCtorEq] at hc
  all_goals (repeat' (split at hc)) <;> first | (simp only [Option.some.injEq, reduceCtorEq] at hc; done) | (simp only [Option.map_eq_some_iff, reduceCtorEq, and_false, exists_false] at hc; done) | skip

/-- An operation that is carried out, its operands known where they are there. -/
theorem strip_sound {o : Oper} {ao : AOp} (hc : comp P o = some ao) (hst : ao.still = true) {ob : Prop} (ha : aop (fun x => (s.ev x).strip) s ao = some (z, s', ob)) (h1 : opOb s.ev ao) (h2 : ob) (hr : RelM E s a w ρ ok) :
    ∃ v ρ' ok', (∀ w', Ext w w' → (execOp a.eval o).run P w' = .ok (.value v) w') ∧ RelM E s' a w ρ' ok' ∧ R w ok' ρ' z v := by
  by_cases hp : ∃ c x y, ao = .pick c x y
  · obtain ⟨c, x, y, rfl⟩ := hp
    obtain ⟨c', x', y', ho, rfl, rfl, rfl⟩ := pick_inv hc
    unfold opOb at h1
    obtain ⟨h3, h4⟩ := h1
    simp only [aop] at ha
    split at h4
    · rename_i b hb
      rw [hb] at ha
      simp only [Option.some.injEq, Prod.mk.injEq] at ha
      obtain ⟨rfl, rfl, rfl⟩ := ha
      have k1 := R_strip h3 (hr.ev (.of c'))
      rw [hb, Opd.cv_of] at k1
      have k2 : b = true → R w ok ρ (s.ev (.of x')).strip (a.eval x') := fun e => by
        have := R_strip (h4.1 e) (hr.ev (.of x')); rwa [Opd.cv_of] at this
      have k3 : b = false → R w ok ρ (s.ev (.of y')).strip (a.eval y') := fun e => by
        have := R_strip (h4.2 e) (hr.ev (.of y')); rwa [Opd.cv_of] at this
      refine ⟨bif b then a.eval x' else a.eval y', ρ, ok, fun w' he => ?_, hr, pickAV_ok (fun e => R_strip (h2.1 e) (k2 e)) (fun e => R_strip (h2.2 e) (k3 e))⟩
      obtain ⟨dst, op, type, ps, after, guard⟩ := o
      dsimp only at ho
      subst ho
      simp only [execOp, R_val k1, asBool]
      cases b <;> rfl
    · exact h4.elim
  · have h1' : gdOb s.ev ao.opds := by
      cases ao <;> first | exact h1 | exact absurd ⟨_, _, _, rfl⟩ hp
    rcases aop_sound hc ha h2 hr (fun x hx => R_strip (guards_ok h1' x hx) (hr.ev x)) with ⟨v, ρ', ok', h3, h4, h5⟩ | ⟨hst', _⟩
    · exact ⟨v, ρ', ok', h3, h4, h5⟩
    · rw [hst] at hst'; cases hst'

/-- One operation, from a state: either it is carried out, with this result; or it is not wanted. -/
theorem stepOp_sound {ops : Array Oper} {o : Oper} {g : GOp} (hg : gop P ops o = some g) {ob : Prop} (hs : stepOp E.n s g = some (s', ob)) (hob : ob) (hr : RelM E s a w ρ ok) :
    (Region.wanted o (yielded ops a.tmps) = true ∧ ∃ v w' ρ' ok', ((execOp a.eval o).run P w = .ok (.value v) w' ∨ ((execOp a.eval o).run P w = .ok .skip w' ∧ v = undef)) ∧ RelM E s' (a.put o.dst v) w' ρ' ok' ∧
      (g.op.mild = true → Ext w w') ∧ (g.op.still = true → w' = w ∧ ∀ w'', Ext w w'' → (execOp a.eval o).run P w'' = .ok (.value v) w'')) ∨
    (Region.wanted o (yielded ops a.tmps) = false ∧ ∃ ρ' ok', RelM E s' (a.put o.dst undef) w ρ' ok') := by
  obtain ⟨hc, hd, hgd⟩ := gop_guard hg
  unfold stepOp at hs
  cases hdst : dstOk E.n g.dst with
  | false => rw [hdst] at hs; cases hs
  | true =>
    rw [hdst] at hs
    simp only [cond_true] at hs
    rcases hgd with ⟨hg0, hg1⟩ | ⟨j, want, t, hg0, hg1, hg2⟩
    · rw [hg1] at hs
      dsimp only at hs
      left
      refine ⟨wanted_none hg0 _, ?_⟩
      split at hs
      · rename_i z s1 ob1 ha
        simp only [Option.some.injEq, Prod.mk.injEq] at hs
        obtain ⟨rfl, rfl⟩ := hs
        rcases aop_sound hc ha hob hr (fun x _ => hr.ev x) with ⟨v, ρ', ok', h1, h2, h3⟩ | ⟨hst, v, w', ρ', ok', h1, h2, h3, h4⟩
        · refine ⟨v, w, ρ', ok', .inl (h1 w (Ext.refl w)), ?_, fun _ => Ext.refl w, fun _ => ⟨rfl, h1⟩⟩
          rw [← hd]; exact h2.putO hdst h3
        · refine ⟨v, w', ρ', ok', h1, ?_, h4, fun h => by rw [hst] at h; cases h⟩
          rw [← hd]; exact h2.putO hdst h3
      · cases hs
    · rw [hg2] at hs
      dsimp only at hs
      split at hs <;> first | (cases hs; done) | skip
      rename_i b hb
      replace hs := cond_some' hs
      obtain ⟨hst, hs⟩ := hs
      split at hs <;> first | (cases hs; done) | skip
      rename_i z s1 ob1 ha
      simp only [Option.some.injEq, Prod.mk.injEq] at hs
      obtain ⟨rfl, rfl⟩ := hs
      have hw : Region.wanted o (yielded ops a.tmps) = b := by
        rw [wanted_some hg0]
        have hv := hr.tm t
        unfold gdB at hb
        split at hb
        · rename_i b' want' hl
          simp only [Option.some.injEq] at hb
          rw [hl] at hv
          rw [yield_of hg1 (R_val hv), ← hb]; simp
        · rename_i want' c b' hl
          simp only [Option.some.injEq] at hb
          rw [hl] at hv
          unfold R at hv
          cases c with
          | true => rw [yield_of hg1 (R_val (hv.1 rfl)), ← hb]; simp
          | false => rw [yield_undef hg1 (hv.2 rfl), ← hb]; rfl
        · cases hb
      obtain rfl := aop_still ha hst
      cases b with
      | true =>
        obtain ⟨h1, h2⟩ := hob rfl
        left
        refine ⟨hw, ?_⟩
        obtain ⟨v, ρ', ok', h3, h4, h5⟩ := strip_sound hc hst ha h1 h2 hr
        refine ⟨v, w, ρ', ok', .inl (h3 w (Ext.refl w)), ?_, fun _ => Ext.refl w, fun _ => ⟨rfl, h3⟩⟩
        rw [← hd]
        refine h4.putO hdst ?_
        unfold R; exact ⟨fun _ => h5, fun h => (by cases h)⟩
      | false =>
        right
        refine ⟨hw, ρ, ok, ?_⟩
        rw [← hd]
        refine hr.putO hdst ?_
        unfold R; exact ⟨fun h => (by cases h), fun _ => rfl⟩
end

/-- Operations one behind the other. -/
def runOps (n : Nat) : List GOp → St → Option (St × Prop)
  | [], s => some (s, True)
  | o :: l, s => match stepOp n s o with
    | some (s', ob) => match runOps n l s' with
      | some (s'', ob') => some (s'', ob ∧ ob')
      | none => none
    | none => none

def AWpL (P : Program) (E : Env) (Q : Exit → St → Prop) (gs : List GOp) (s : St) : Prop :=
  ∀ (ops : Array Oper) (l : List Oper), gops P ops l = some gs → ∀ a w, Rel E s a w → wpList P ops (conc E Q) l a w

section
variable {P : Program} {E : Env} {Q : Exit → St → Prop} {s s' : St}
theorem gops_cons {ops : Array Oper} {l : List Oper} {g : GOp} {gs : List GOp} (h : gops P ops l = some (g :: gs)) : ∃ o l', l = o :: l' ∧ gop P ops o = some g ∧ gops P ops l' = some gs := by
  cases l with
  | nil => simp [gops] at h
  | cons o l =>
    unfold gops at h
    split at h
    · rename_i g' r h1 h2
      simp only [Option.some.injEq, List.cons.injEq] at h
      obtain ⟨rfl, rfl⟩ := h
      exact ⟨o, l, rfl, h1, h2⟩
    · cases h
theorem gops_nil {ops : Array Oper} {l : List Oper} (h : gops P ops l = some []) : l = [] := by
  cases l with
  | nil => rfl
  | cons o l =>
    unfold gops at h
    split at h
    · simp at h
    · cases h

theorem AWpL.nil (h : Q .normal s) : AWpL P E Q [] s := fun ops l hl a w hr => by
  rw [gops_nil hl]; exact ⟨s, h, hr⟩
theorem AWpL.cons {g : GOp} {gs : List GOp} {ob : Prop} (hs : stepOp E.n s g = some (s', ob)) (hob : ob) (h : AWpL P E Q gs s') : AWpL P E Q (g :: gs) s := fun ops l hl a w hr => by
  obtain ⟨o, l', rfl, h1, h2⟩ := gops_cons hl
  obtain ⟨ρ, ok, hr⟩ := hr
  unfold wpList
  rcases stepOp_sound h1 hs hob hr with ⟨hw, v, w', ρ', ok', h3, h4, _⟩ | ⟨hw, ρ', ok', h4⟩
  · rw [if_pos hw]
    left
    unfold Oper.wp
    rcases h3 with h3 | ⟨h3, rfl⟩
    · rw [h3, Oper.upon_value]
      exact h ops l' h2 _ _ ⟨ρ', ok', h4⟩
    · rw [h3, Oper.upon_skip]
      exact h ops l' h2 _ _ ⟨ρ', ok', h4⟩
  · rw [if_neg (by rw [hw]; simp)]
    exact h ops l' h2 _ _ ⟨ρ', ok', h4⟩
theorem AWpL.run : ∀ {gs hs : List GOp} {s s' : St} {ob : Prop}, runOps E.n gs s = some (s', ob) → ob → AWpL P E Q hs s' → AWpL P E Q (gs ++ hs) s
  | [], hs, s, s', ob, h, hob, k => by
    simp only [runOps, Option.some.injEq, Prod.mk.injEq] at h
    obtain ⟨rfl, rfl⟩ := h
    exact k
  | g :: gs, hs, s, s', ob, h, hob, k => by
    unfold runOps at h
    split at h <;> first | (cases h; done) | skip
    rename_i s1 ob1 h1
    split at h <;> first | (cases h; done) | skip
    rename_i s2 ob2 h2
    simp only [Option.some.injEq, Prod.mk.injEq] at h
    obtain ⟨rfl, rfl⟩ := h
    exact AWpL.cons h1 hob.1 (AWpL.run h2 hob.2 k)
theorem AWpL.take (n : Nat) {gs : List GOp} {ob : Prop} (h : runOps E.n (gs.take n) s = some (s', ob)) (hob : ob) (k : AWpL P E Q (gs.drop n) s') : AWpL P E Q gs s := by
  have := AWpL.run h hob k
  rwa [List.take_append_drop] at this
theorem AWpL.all {gs : List GOp} {ob : Prop} (h : runOps E.n gs s = some (s', ob)) (hob : ob) (k : Q .normal s') : AWpL P E Q gs s := by
  have := AWpL.run h hob (AWpL.nil (P := P) k)
  rwa [List.append_nil] at this
end
end Go.Proofs.Ytoickofcmngdjaa.Aw

/- A logic of abstract states for walks: code, and regions that are dropped or numbered anew. -/
set_option linter.unusedVariables false
set_option linter.unusedSimpArgs false
namespace Go.Proofs.Ytoickofcmngdjaa.Aw
open Go.RowKit

inductive ACode where
  | skip
  | region (dr : Bool) (af : List (List Nat)) (ops : List GOp)
  | seq (x y : ACode)
  | cond (c : Opd) (x y : ACode)
  | block (id : Nat) (x : ACode)
  | loop (x : ACode)
  | exit (id : Nat)
  | ret
  deriving Inhabited

/-- The operations that an operation waits for. -/
def waits (o : Oper) : List Nat := o.after.toList.filterMap fun e => if Region.binds .any e then some e.on else none

/-- The code that a code of the logic stands for. -/
inductive CR (P : Program) : Code → ACode → Prop
  | skip : CR P .skip .skip
  | region {id ops gs} : gops P ops ops.toList = some gs → CR P (.region id ops false) (.region false [] gs)
  | draw {id ops gs} : gops P ops ops.toList = some gs → Region.lexB .any ops = true → CR P (.region id ops true) (.region true (ops.toList.map waits) gs)
  | seq {x y x' y'} : CR P x x' → CR P y y' → CR P (.seq x y) (.seq x' y')
  | cond {c x y x' y'} : CR P x x' → CR P y y' → CR P (.cond c x y) (.cond (.of c) x' y')
  | block {id x x'} : CR P x x' → CR P (.block id x) (.block id x')
  | loop {x x'} : CR P x x' → CR P (.loop x) (.loop x')
  | exit {id} : CR P (.exit id) (.exit id)
  | ret : CR P .ret .ret

def compC (P : Program) : Code → Option ACode
  | .skip => some .skip
  | .region _ ops draw => match gops P ops ops.toList with
    | some gs => bif draw then (bif Region.lexB .any ops then some (.region true (ops.toList.map waits) gs) else none) else some (.region false [] gs)
    | none => none
  | .seq x y => match compC P x, compC P y with
    | some x, some y => some (.seq x y)
    | _, _ => none
  | .cond c x y => match compC P x, compC P y with
    | some x, some y => some (.cond (.of c) x y)
    | _, _ => none
  | .block id x => match compC P x with
    | some x => some (.block id x)
    | none => none
  | .loop x => match compC P x with
    | some x => some (.loop x)
    | none => none
  | .exit id => some (.exit id)
  | .ret => some .ret
  | _ => none

theorem compC_ok {P : Program} : ∀ {c : Code} {ac : ACode}, compC P c = some ac → CR P c ac
  | .skip, ac, h => by simp only [compC, Option.some.injEq] at h; subst h; exact .skip
  | .region id ops draw, ac, h => by
    unfold compC at h
    split at h <;> first | (cases h; done) | skip
    rename_i gs hg
    cases draw with
    | false => simp only [cond_false, Option.some.injEq] at h; subst h; exact .region hg
    | true =>
      simp only [cond_true] at h
      obtain ⟨h1, h2⟩ := cond_some' h
      simp only [Option.some.injEq] at h2; subst h2; exact .draw hg h1
  | .seq x y, ac, h => by
    unfold compC at h
    split at h <;> first | (cases h; done) | skip
    rename_i x' y' h1 h2
    simp only [Option.some.injEq] at h; subst h; exact .seq (compC_ok h1) (compC_ok h2)
  | .cond c x y, ac, h => by
    unfold compC at h
    split at h <;> first | (cases h; done) | skip
    rename_i x' y' h1 h2
    simp only [Option.some.injEq] at h; subst h; exact .cond (compC_ok h1) (compC_ok h2)
  | .block id x, ac, h => by
    unfold compC at h
    split at h <;> first | (cases h; done) | skip
    rename_i x' h1
    simp only [Option.some.injEq] at h; subst h; exact .block (compC_ok h1)
  | .loop x, ac, h => by
    unfold compC at h
    split at h <;> first | (cases h; done) | skip
    rename_i x' h1
    simp only [Option.some.injEq] at h; subst h; exact .loop (compC_ok h1)
  | .exit id, ac, h => by simp only [compC, Option.some.injEq] at h; subst h; exact .exit
  | .ret, ac, h => by simp only [compC, Option.some.injEq] at h; subst h; exact .ret
  | .rangeFunc .., ac, h => by simp [compC] at h
  | .scope _, ac, h => by simp [compC] at h
  | .label _, ac, h => by simp [compC] at h
  | .goto _, ac, h => by simp [compC] at h
  | .refuse _, ac, h => by simp [compC] at h

def AWp (P : Program) (E : Env) (Q : Exit → St → Prop) (c : ACode) (s : St) : Prop :=
  ∀ code, CR P code c → ∀ a w, Rel E s a w → code.wp P (conc E Q) a w

/-! ### Weakening -/
/-- What holds of the first state holds of the second. -/
def Weak (E : Env) (s s' : St) : Prop := ∀ a w, Rel E s a w → Rel E s' a w
theorem Weak.refl (E : Env) (s : St) : Weak E s s := fun _ _ h => h

section
variable {P : Program} {E : Env} {Q Q' : Exit → St → Prop} {s s' : St}
theorem AWp.weak {c : ACode} (h : Weak E s s') (k : AWp P E Q c s') : AWp P E Q c s := fun code hc a w hr => k code hc a w (h a w hr)
theorem AWpL.weak {gs : List GOp} (h : Weak E s s') (k : AWpL P E Q gs s') : AWpL P E Q gs s := fun ops l hl a w hr => k ops l hl a w (h a w hr)
theorem AWp.mono {c : ACode} (h : ∀ e s, Q e s → Q' e s) (k : AWp P E Q c s) : AWp P E Q' c s := fun code hc a w hr =>
  wp_mono (k code hc a w hr) fun e a w ⟨s, hq, hr⟩ => ⟨s, h e s hq, hr⟩
/-- The post may hold of a weaker state. -/
def Up (E : Env) (Q : Exit → St → Prop) : Exit → St → Prop := fun e s => ∃ s', Weak E s s' ∧ Q e s'
theorem conc_up {e : Exit} {a : Act} {w : World} (h : conc E (Up E Q) e a w) : conc E Q e a w := by
  obtain ⟨s, ⟨s', h1, h2⟩, hr⟩ := h
  exact ⟨s', h2, h1 a w hr⟩
theorem AWp.up {c : ACode} (k : AWp P E (Up E Q) c s) : AWp P E Q c s := fun code hc a w hr => wp_mono (k code hc a w hr) fun e a w h => conc_up h

/-! ### Code -/
theorem AWp.skip (h : Q .normal s) : AWp P E Q .skip s := fun code hc a w hr => by
  cases hc; exact wp_skip ⟨s, h, hr⟩
theorem AWp.ret (h : Q .ret s) : AWp P E Q .ret s := fun code hc a w hr => by
  cases hc; exact wp_ret ⟨s, h, hr⟩
theorem AWp.exit {id : Nat} (h : Q (.exit id) s) : AWp P E Q (.exit id) s := fun code hc a w hr => by
  cases hc; exact wp_exit ⟨s, h, hr⟩
theorem AWp.region {af : List (List Nat)} {gs : List GOp} (h : AWpL P E Q gs s) : AWp P E Q (.region false af gs) s := fun code hc a w hr => by
  cases hc with
  | region hg => exact wp_region_list (h _ _ hg a w hr)

/-- What a sequence asks of its first part. -/
def Seq (P : Program) (E : Env) (Q : Exit → St → Prop) (y : ACode) : Exit → St → Prop
  | .normal, s => AWp P E Q y s
  | e, s => Q e s
theorem AWp.seq {x y : ACode} (h : AWp P E (Seq P E Q y) x s) : AWp P E Q (.seq x y) s := fun code hc a w hr => by
  cases hc with
  | seq h1 h2 =>
    refine wp_seq (wp_mono (h _ h1 a w hr) fun e a w hq => ?_)
    obtain ⟨s1, h3, h4⟩ := hq
    cases e with
    | normal => exact h3 _ h2 a w h4
    | _ => exact ⟨s1, h3, h4⟩

theorem AWp.cond {c : Opd} {x y : ACode} {b : Bool} (hc : s.ev c = .val (.bool b)) (ht : b = true → AWp P E Q x s) (hf : b = false → AWp P E Q y s) : AWp P E Q (.cond c x y) s := fun code hcr a w hr => by
  cases hcr with
  | @cond c' x1 y1 _ _ h1 h2 =>
    have hb : a.eval c' = .bool b := by
      obtain ⟨ρ, ok, hr⟩ := hr
      have := hr.ev (.of c')
      rw [hc, Opd.cv_of] at this; exact R_val this
    exact wp_cond_split hb (fun e => ht e _ h1 a w hr) (fun e => hf e _ h2 a w hr)
theorem AWp.cond_true {c : Opd} {x y : ACode} (hc : s.ev c = .val (.bool true)) (h : AWp P E Q x s) : AWp P E Q (.cond c x y) s :=
  AWp.cond hc (fun _ => h) (fun e => by cases e)
theorem AWp.cond_false {c : Opd} {x y : ACode} (hc : s.ev c = .val (.bool false)) (h : AWp P E Q y s) : AWp P E Q (.cond c x y) s :=
  AWp.cond hc (fun e => by cases e) (fun _ => h)

/-- What a block asks of its body. -/
def Blk (id : Nat) (Q : Exit → St → Prop) : Exit → St → Prop
  | .exit id', s => if id' = id then Q .normal s else Q (.exit id') s
  | e, s => Q e s
theorem AWp.block {id : Nat} {x : ACode} (h : AWp P E (Blk id Q) x s) : AWp P E Q (.block id x) s := fun code hc a w hr => by
  cases hc with
  | block h1 =>
    refine wp_block (wp_mono (h _ h1 a w hr) fun e a w hq => ?_)
    obtain ⟨s1, h3, h4⟩ := hq
    cases e with
    | exit id' =>
      simp only [Blk] at h3
      simp only [Exit.inBlock]
      split
      · rename_i e; rw [if_pos e] at h3; exact ⟨s1, h3, h4⟩
      · rename_i e; rw [if_neg e] at h3; exact ⟨s1, h3, h4⟩
    | _ => exact ⟨s1, h3, h4⟩

/-- A loop: 'I n' holds of the state at each round's head, n going down. -/
def Rnd (I : Nat → St → Prop) (Q : Exit → St → Prop) (n : Nat) : Exit → St → Prop
  | .normal, s => ∃ m, m < n ∧ I m s
  | e, s => Q e s
theorem least {p : Nat → Prop} (h : ∃ n, p n) : ∃ n, p n ∧ ∀ m, p m → n ≤ m := by
  obtain ⟨n, hn⟩ := h
  induction n using Nat.strongRecOn with
  | _ n ih =>
    by_cases hx : ∃ m, m < n ∧ p m
    · obtain ⟨m, h1, h2⟩ := hx
      exact ih m h1 h2
    · exact ⟨n, hn, fun m hm => by
        rcases Nat.lt_or_ge m n with h1 | h1
        · exact absurd ⟨m, h1, hm⟩ hx
        · exact h1⟩
theorem AWp.loop {x : ACode} (I : Nat → St → Prop) {n : Nat} (h0 : I n s) (h : ∀ n s, I n s → AWp P E (Rnd I Q n) x s) : AWp P E Q (.loop x) s := fun code hc a w hr => by
  cases hc with
  | @loop x1 _ h1 =>
    let J : Act → World → Prop := fun a w => ∃ n s, I n s ∧ Rel E s a w
    have hJ : J a w := ⟨n, s, h0, hr⟩
    classical
    let μ : Act → World → Nat := fun a w => if h : J a w then Classical.choose (least h) else 0
    refine wp_loop J μ hJ fun a w hj => ?_
    obtain ⟨s1, h2, h3⟩ := (Classical.choose_spec (least hj)).1
    refine wp_mono (h _ s1 h2 _ h1 a w h3) fun e a' w' hq => ?_
    obtain ⟨s2, h4, h5⟩ := hq
    cases e with
    | normal =>
      obtain ⟨m, h6, h7⟩ := h4
      have hj' : J a' w' := ⟨m, s2, h7, h5⟩
      refine ⟨hj', ?_⟩
      show (if h : J a' w' then Classical.choose (least h) else 0) < (if h : J a w then Classical.choose (least h) else 0)
      rw [dif_pos hj', dif_pos hj]
      exact Nat.lt_of_le_of_lt ((Classical.choose_spec (least hj')).2 m ⟨s2, h7, h5⟩) h6
    | _ => exact ⟨s2, h4, h5⟩
end
end Go.Proofs.Ytoickofcmngdjaa.Aw

/- A logic of abstract states for walks: what a call of a function gives. -/
set_option linter.unusedVariables false
set_option linter.unusedSimpArgs false
namespace Go.Proofs.Ytoickofcmngdjaa.Aw
open Go.RowKit

/-! ### Regions numbered anew -/
def pos : List Nat → Nat → Option Nat
  | [], _ => none
  | x :: l, r => bif x == r then some 0 else (pos l r).map (· + 1)
theorem pos_get : ∀ {l : List Nat} {r j : Nat}, pos l r = some j → l[j]? = some r
  | [], r, j, h => by simp [pos] at h
  | x :: l, r, j, h => by
    unfold pos at h
    cases hx : (x == r) with
    | true =>
      rw [hx] at h
      simp only [cond_true, Option.some.injEq] at h
      subst h
      simpa using hx
    | false =>
      rw [hx] at h
      simp only [cond_false, Option.map_eq_some_iff] at h
      obtain ⟨i, hi, rfl⟩ := h
      simpa using pos_get hi
mutual
def renA (π : List Nat) : AV → AV
  | .hnd r off n k ex => match pos π r with
    | some j => .hnd j off n k ex
    | none => .any
  | .ptr r i o => match pos π r with
    | some j => .ptr j i o
    | none => .any
  | .fn f caps => .fn f (renL π caps)
  | .agg cs => .agg (renL π cs)
  | .tup cs => .tup (renL π cs)
  | .opt c x => .opt c (renA π x)
  | .any => .any
  | .val v => .val v
  | .imm a b c d => .imm a b c d
  | .pim cs => .pim cs
def renL (π : List Nat) : List AV → List AV
  | [] => []
  | x :: xs => renA π x :: renL π xs
end
def renR (π : List Nat) : Reg → Reg
  | .box e cs => .box e (renL π cs)
  | .tab e cs => .tab e (renL π cs)
  | g => g
def renT (π : List Nat) : List (Nat × AV) → List (Nat × AV)
  | [] => []
  | (i, x) :: l => (i, renA π x) :: renT π l
def renS (π : List Nat) (s : St) : St := ⟨renT π s.tm, π.map fun r => renR π (s.rg.getD r .dead)⟩
def pl (π : List Nat) (ρ : Nat → Option (Option Place)) : Nat → Option (Option Place) := fun j => (π[j]?).bind ρ

section
variable {w : World} {ok : Nat → Prop} {ρ : Nat → Option (Option Place)} {π : List Nat}
theorem pl_of {r j : Nat} (h : pos π r = some j) : pl π ρ j = ρ r := by unfold pl; rw [pos_get h]; rfl
mutual
theorem R_ren : ∀ (x : AV) (v : Value), R w ok ρ x v → R w ok (pl π ρ) (renA π x) v
  | .hnd r off n k ex, v, h => by
    unfold renA
    split
    · rename_i j hj
      unfold R at h ⊢
      rw [pl_of hj]; exact h
    · unfold R; trivial
  | .ptr r i o, v, h => by
    unfold renA
    split
    · rename_i j hj
      unfold R at h ⊢
      rw [pl_of hj]; exact h
    · unfold R; trivial
  | .fn f caps, v, h => by
    unfold renA; unfold R at h ⊢
    obtain ⟨vs, h1, h2⟩ := h
    exact ⟨vs, h1, RList_ren _ _ h2⟩
  | .agg cs, v, h => by
    unfold renA; unfold R at h ⊢
    obtain ⟨vs, h1, h2⟩ := h
    exact ⟨vs, h1, RList_ren _ _ h2⟩
  | .tup cs, v, h => by
    unfold renA; unfold R at h ⊢
    obtain ⟨vs, h1, h2⟩ := h
    exact ⟨vs, h1, RList_ren _ _ h2⟩
  | .opt c x, v, h => by
    unfold renA; unfold R at h ⊢
    exact ⟨fun hc => R_ren x v (h.1 hc), h.2⟩
  | .any, v, h => by unfold renA R; trivial
  | .val x, v, h => by unfold renA; unfold R at h ⊢; exact h
  | .imm a b c d, v, h => by unfold renA; unfold R at h ⊢; exact h
  | .pim cs, v, h => by unfold renA; unfold R at h ⊢; exact h
theorem RList_ren : ∀ (xs : List AV) (vs : List Value), RList w ok ρ xs vs → RList w ok (pl π ρ) (renL π xs) vs
  | [], vs, h => by unfold renL; unfold RList at h ⊢; exact h
  | x :: xs, vs, h => by
    unfold renL; unfold RList at h ⊢
    obtain ⟨v, vs', e, h1, h2⟩ := h
    exact ⟨v, vs', e, R_ren x v h1, RList_ren xs vs' h2⟩
end
theorem renL_length : ∀ xs : List AV, (renL π xs).length = xs.length
  | [] => rfl
  | x :: xs => by simp [renL, renL_length xs]
theorem look_ren : ∀ (l : List (Nat × AV)) (n : Nat), look (renT π l) n = renA π (look l n)
  | [], n => by simp [renT, look, renA]
  | (i, x) :: l, n => by
    unfold renT look
    cases (i == n)
    · simp only [cond_false]; exact look_ren l n
    · rfl
theorem Mem.ren {rg : List Reg} (h : Mem w ok ρ rg) (hn : ∀ j r, π[j]? = some r → pos π r = some j) (hl : ∀ r ∈ π, r < rg.length) : Mem w ok (pl π ρ) (π.map fun r => renR π (rg.getD r .dead)) := by
  refine ⟨h.okl, fun r r' p p' h1 h2 h3 => ?_, fun r p h1 => ?_, fun r g hg => ?_, fun r hr => ?_⟩
  · unfold pl at h1 h2
    obtain ⟨a, h4, h5⟩ := Option.bind_eq_some_iff.1 h1
    obtain ⟨b, h6, h7⟩ := Option.bind_eq_some_iff.1 h2
    have := h.inj a b p p' h5 h7 h3
    subst this
    have h8 := hn _ _ h4
    rw [hn _ _ h6] at h8
    exact (Option.some.inj h8).symm
  · unfold pl at h1
    obtain ⟨a, h4, h5⟩ := Option.bind_eq_some_iff.1 h1
    exact h.own a p h5
  · rw [List.getElem?_map, Option.map_eq_some_iff] at hg
    obtain ⟨a, ha, rfl⟩ := hg
    have hlt := hl a (List.mem_of_getElem? ha)
    have h0 := h.reg a (rg.getD a .dead) (by rw [List.getD_eq_getElem?_getD, List.getElem?_eq_getElem hlt]; rfl)
    have hp : pl π ρ r = ρ a := by unfold pl; rw [ha]; rfl
    generalize rg.getD a .dead = g at h0
    cases g with
    | dead => exact hp.trans h0
    | box e cs =>
      obtain ⟨b, C, h1, h2, h3⟩ := h0
      exact ⟨b, C, by rw [hp, renL_length]; exact h1, h2, RList_ren _ _ h3⟩
    | arr e sz els =>
      rcases h0 with ⟨b, d, C, pre, vs, rest, h1, h2⟩ | ⟨h1, h2⟩
      · exact .inl ⟨b, d, C, pre, vs, rest, hp.trans h1, h2⟩
      · exact .inr ⟨h1, hp.trans h2⟩
    | tab e cs =>
      rcases h0 with ⟨b, d, C, pre, vs, rest, h1, h2, h3, h4, h6⟩ | ⟨h1, h2⟩
      · exact .inl ⟨b, d, C, pre, vs, rest, hp.trans h1, h2, h3, h4, RList_ren _ _ h6⟩
      · exact .inr ⟨by rw [h1]; rfl, hp.trans h2⟩
  · unfold pl
    rw [List.getElem?_eq_none (by simpa using hr)]; rfl
end

/-- Regions dropped and numbered anew: those of the call's own caller keep their numbers. -/
def renOk (np : Nat) (len : Nat) (π : List Nat) : Bool := ((List.range π.length).all fun j => pos π (π.getD j 0) == some j) && π.all (fun r => Nat.blt r len) && (List.range np).all fun r => π[r]? == some r
theorem weak_ren {E : Env} {s : St} (π : List Nat) (hp : ∀ r p, E.pin r = some p → r < E.np) (h : renOk E.np s.rg.length π = true) : Weak E s (renS π s) := fun a w ⟨ρ, ok, hr⟩ => by
  simp only [renOk, Bool.and_eq_true] at h
  obtain ⟨⟨h1, h2⟩, h3⟩ := h
  have h1' : ∀ j r, π[j]? = some r → pos π r = some j := fun j r hj => by
    have hlt := (List.getElem?_eq_some_iff.1 hj).1
    have := List.all_eq_true.1 h1 j (List.mem_range.2 hlt)
    rw [List.getD_eq_getElem?_getD, hj] at this
    simpa using this
  have h2' : ∀ r ∈ π, r < s.rg.length := fun r hm => by
    have := List.all_eq_true.1 h2 r hm
    simpa [Nat.blt_eq] using this
  refine ⟨pl π ρ, ok, hr.mem.ren h1' h2', fun n => ?_, hr.siz, hr.dfr, hr.kps, hr.bas, fun r p hp => ?_, hr.okr, fun r p hp' => ?_⟩
  · show R w ok (pl π ρ) (look (renT π s.tm) n) _
    rw [look_ren]; exact R_ren _ _ (hr.tm n)
  · unfold pl at hp
    obtain ⟨b, _, h5⟩ := Option.bind_eq_some_iff.1 hp
    exact hr.ownr b p h5
  · have := List.all_eq_true.1 h3 r (List.mem_range.2 (hp r p hp'))
    unfold pl
    rw [show π[r]? = some r by simpa using this]
    exact hr.pin r p hp'

/-- Temporaries are forgotten. -/
def subTm (tm : List (Nat × AV)) : List (Nat × AV) → Prop
  | [] => True
  | (i, x) :: l => look tm i = x ∧ subTm tm l
theorem look_cons (i n : Nat) (x : AV) (l : List (Nat × AV)) : look ((i, x) :: l) n = bif i == n then x else look l n := rfl
theorem subTm_look {tm : List (Nat × AV)} : ∀ {l : List (Nat × AV)}, subTm tm l → ∀ n, look l n = .any ∨ look l n = look tm n
  | [], _, n => .inl rfl
  | (i, x) :: l, h, n => by
    rw [look_cons]
    cases hi : (i == n)
    · exact subTm_look h.2 n
    · right
      obtain rfl : i = n := by simpa using hi
      exact h.1.symm
theorem weak_tm {E : Env} {s : St} {tm : List (Nat × AV)} (h : subTm s.tm tm) : Weak E s ⟨tm, s.rg⟩ := fun a w ⟨ρ, ok, hr⟩ =>
  ⟨ρ, ok, hr.mem, fun n => by
    rcases subTm_look h n with h1 | h1
    · show R w ok ρ (look tm n) _
      rw [h1]; unfold R; trivial
    · show R w ok ρ (look tm n) _
      rw [h1]; exact hr.tm n, hr.siz, hr.dfr, hr.kps, hr.bas, hr.ownr, hr.okr, hr.pin⟩
theorem Weak.trans {E : Env} {s s' s'' : St} (h : Weak E s s') (k : Weak E s' s'') : Weak E s s'' := fun a w hr => k a w (h a w hr)

/-- A nil slice is an array of the call's own without elements. -/
theorem weak_nil {E : Env} {s : St} (i : Nat) (e : TypeId) (sz : Nat) (h : look s.tm i = .val (.slice none 0 0)) :
    Weak E s ⟨putTm s.tm i (.hnd s.rg.length 0 0 0 false), s.rg ++ [.arr e sz []]⟩ := fun a w ⟨ρ, ok, hr⟩ => by
  have hn := hr.mem.out s.rg.length (Nat.le_refl _)
  have hold := addPl_old hn none
  have hnew : addPl ρ s.rg.length none s.rg.length = some none := by unfold addPl; rw [if_pos rfl]
  have hne : ∀ r p, addPl ρ s.rg.length none r = some (some p) → ρ r = some (some p) := fun r p hp => by
    unfold addPl at hp
    split at hp
    · cases hp
    · exact hp
  refine ⟨addPl ρ s.rg.length none, ok, ⟨hr.mem.okl, fun r r' p p' h1 h2 h3 => hr.mem.inj r r' p p' (hne _ _ h1) (hne _ _ h2) h3, fun r p hp => hr.mem.own r p (hne _ _ hp), fun r g hg => ?_, fun r hr' => ?_⟩, fun n => ?_, hr.siz, hr.dfr, hr.kps, hr.bas, fun r p hp => hr.ownr r p (hne _ _ hp), hr.okr, fun r p hp => hold _ _ (hr.pin r p hp)⟩
  · by_cases e1 : r = s.rg.length
    · subst e1
      obtain rfl : g = .arr e sz [] := by simpa using hg.symm
      exact .inr ⟨rfl, hnew⟩
    · have hlt : r < s.rg.length := by
        have := (List.getElem?_eq_some_iff.1 hg).1
        simp at this; omega
      rw [List.getElem?_append_left hlt] at hg
      have h0 := hr.mem.reg r g hg
      have hρr : addPl ρ s.rg.length none r = ρ r := by unfold addPl; rw [if_neg e1]
      cases g with
      | dead => exact hρr.trans h0
      | box e' cs =>
        obtain ⟨b, C, h1, h2, h3⟩ := h0
        exact ⟨b, C, hρr.trans h1, h2, RList_frame (fun _ _ _ _ x => x) (fun _ x => x) hold _ _ h3⟩
      | arr e' sz els =>
        rcases h0 with ⟨b, d, C, pre, vs, rest, h1, h2⟩ | ⟨h0, h1⟩
        · exact .inl ⟨b, d, C, pre, vs, rest, hρr.trans h1, h2⟩
        · exact .inr ⟨h0, hρr.trans h1⟩
      | tab e' cs =>
        rcases h0 with ⟨b, d, C, pre, vs, rest, h1, h2, h3, h4, h6⟩ | ⟨h0, h1⟩
        · exact .inl ⟨b, d, C, pre, vs, rest, hρr.trans h1, h2, h3, h4, RList_frame (fun _ _ _ _ x => x) (fun _ x => x) hold _ _ h6⟩
        · exact .inr ⟨h0, hρr.trans h1⟩
  · unfold addPl
    have : s.rg.length + 1 ≤ r := by simpa using hr'
    rw [if_neg (by omega)]
    exact hr.mem.out r (by omega)
  · show R w ok _ (look (putTm s.tm i _) n) _
    rw [look_put]
    by_cases e1 : n = i
    · subst e1
      rw [if_pos rfl]
      have := hr.tm n
      rw [h] at this
      unfold R
      exact .inr ⟨hnew, R_val this, rfl, rfl, rfl⟩
    · rw [if_neg e1]
      exact R_frame (fun _ _ _ _ x => x) (fun _ x => x) hold _ _ (hr.tm n)

def isBox : Reg → Bool
  | .box .. => true
  | _ => false
/-! ### A function -/
/-- What a call of function f with these regions and arguments gives: regions and a result. -/
def Spec (P : Program) (f : FuncId) (rg0 : List Reg) (args : List AV) (Post : List Reg → AV → Prop) : Prop :=
  ∀ (w : World) (ρ : Nat → Option (Option Place)) (ok : Nat → Prop) (vals : Array Value), Mem w ok ρ rg0 → RList w ok ρ args vals.toList →
    Calls P f vals w fun e w' => ∃ rg x v ρ' ok', e = .returned v ∧ Post rg x ∧ Mem w' ok' ρ' rg ∧ R w' ok' ρ' x v ∧
      (∀ b, ok' b → ok b ∨ w.heap.size ≤ b ∨ ∃ r0 p0, ρ r0 = some (some p0) ∧ p0.b = b) ∧
      (∀ r p, ρ' r = some (some p) → w.heap.size ≤ p.b ∨ ∃ r0 p0, ρ r0 = some (some p0) ∧ p0.b = p.b) ∧
      Keeps w.heap.size (fun b => ∃ r0 p0, ρ r0 = some (some p0) ∧ p0.b = b) w w' ∧
      (∀ r e cs, rg0[r]? = some (.box e cs) → ρ' r = ρ r)

/-- Where a result stands. -/
inductive RV where
  | t (n : Nat)
  | c (p n : Nat) (ag : Bool)
def rvOf (P : Program) : ResultVar → Option RV
  | .tmp i => some (.t i)
  | .cell p ty => match P.underlying ty, P.info? ty with
    | some d, some i => some (.c p i.size (isAg d))
    | _, _ => none
def rvsOf (P : Program) : List ResultVar → Option (List RV)
  | [] => some []
  | x :: l => match rvOf P x, rvsOf P l with
    | some y, some r => some (y :: r)
    | _, _ => none
def resAV (s : St) : RV → Option (AV × Prop)
  | .t n => some (look s.tm n, True)
  | .c p n ag => match ptrCells s (look s.tm p) with
    | some (cs, o, ob) => some (bif ag then .agg ((cs.drop o).take n) else cs.getD o .any, ob ∧ o + n ≤ cs.length ∧ (ag = false → n = 1))
    | none => none
def resAVs (s : St) : List RV → Option (List AV × Prop)
  | [] => some ([], True)
  | x :: l => match resAV s x, resAVs s l with
    | some (y, ob), some (r, ob') => some (y :: r, ob ∧ ob')
    | _, _ => none
def tupOf : List AV → AV
  | [x] => x
  | l => .tup l
/-- The post of a body. -/
def Retn (E : Env) (rs : List RV) (Post : List Reg → AV → Prop) : Exit → St → Prop
  | .ret, s => ∃ s' l ob, Weak E s s' ∧ resAVs s' rs = some (l, ob) ∧ ob ∧ Post s'.rg (tupOf l)
  | .normal, s => ∃ s' l ob, Weak E s s' ∧ resAVs s' rs = some (l, ob) ∧ ob ∧ Post s'.rg (tupOf l)
  | _, _ => False
def params : Nat → List AV → List (Nat × AV)
  | _, [] => []
  | i, x :: l => (i, x) :: params (i + 1) l

section
variable {P : Program} {E : Env} {s : St} {a : Act} {w : World} {ρ : Nat → Option (Option Place)} {ok : Nat → Prop}
def resOne (a : Act) : ResultVar → Sem Value
  | .tmp t => pure (a.tmps.getD t undef)
  | .cell p t => do loadVar t (← asAddr (a.tmps.getD p undef))
theorem results_eq (fn : Func) (a : Act) : results fn a.tmps = (do
    let vs ← fn.results.mapM (resOne a)
    pure (if h : vs.size = 1 then vs[0] else .tuple vs)) := by
  unfold results
  have e : ∀ x, (match x with | .tmp t => pure (a.tmps.getD t undef) | .cell p t => do loadVar t (← asAddr (a.tmps.getD p undef)) : Sem Value) = resOne a x := fun x => by cases x <;> rfl
  congr 1
theorem resAV_ok (hr : RelM E s a w ρ ok) {x : ResultVar} {y : RV} (hx : rvOf P x = some y) {z : AV} {ob : Prop} (h : resAV s y = some (z, ob)) (hob : ob) :
    ∃ v, (resOne a x).run P w = .ok v w ∧ R w ok ρ z v := by
  cases x with
  | tmp i =>
    simp only [rvOf, Option.some.injEq] at hx
    subst hx
    simp only [resAV, Option.some.injEq, Prod.mk.injEq] at h
    obtain ⟨rfl, rfl⟩ := h
    exact ⟨_, rfl, hr.tm i⟩
  | cell p ty =>
    simp only [rvOf] at hx
    split at hx <;> first | (cases hx; done) | skip
    rename_i d i hd hi
    simp only [Option.some.injEq] at hx
    subst hx
    simp only [resAV] at h
    split at h <;> first | (cases h; done) | skip
    rename_i cs o ob' hc
    simp only [Option.some.injEq, Prod.mk.injEq] at h
    obtain ⟨rfl, rfl⟩ := h
    obtain ⟨b, o', u, h1, h2, h3⟩ := load_ok (P := P) hr hd hi (hr.tm p) hc hob.1 hob.2.1 hob.2.2
    refine ⟨u, ?_, h3⟩
    simp [resOne, h1, asAddr, h2 w (Ext.refl w)]

theorem resAVs_ok (hr : RelM E s a w ρ ok) : ∀ {xs : List ResultVar} {ys : List RV}, rvsOf P xs = some ys → ∀ {zs : List AV} {ob : Prop}, resAVs s ys = some (zs, ob) → ob →
    ∃ vs, (xs.mapM (resOne a)).run P w = .ok vs w ∧ RList w ok ρ zs vs
  | [], ys, hx, zs, ob, h, _ => by
    simp only [rvsOf, Option.some.injEq] at hx
    subst hx
    simp only [resAVs, Option.some.injEq, Prod.mk.injEq] at h
    obtain ⟨rfl, rfl⟩ := h
    exact ⟨[], by simp, by unfold RList; rfl⟩
  | x :: xs, ys, hx, zs, ob, h, hob => by
    unfold rvsOf at hx
    split at hx <;> first | (cases hx; done) | skip
    rename_i y r h1 h2
    simp only [Option.some.injEq] at hx
    subst hx
    unfold resAVs at h
    split at h <;> first | (cases h; done) | skip
    rename_i z ob1 zr ob2 h3 h4
    simp only [Option.some.injEq, Prod.mk.injEq] at h
    obtain ⟨rfl, rfl⟩ := h
    obtain ⟨v, h5, h6⟩ := resAV_ok (P := P) hr h1 h3 hob.1
    obtain ⟨vs, h7, h8⟩ := resAVs_ok hr h2 h4 hob.2
    refine ⟨v :: vs, ?_, by unfold RList; exact ⟨v, vs, rfl, h6, h8⟩⟩
    simp only [List.mapM_cons, Sem.run_bind]
    rw [h5]
    simp only [Result.andThen_ok]
    rw [h7]
    simp

theorem results_ok (hr : RelM E s a w ρ ok) {fn : Func} {ys : List RV} (hx : rvsOf P fn.results.toList = some ys) {zs : List AV} {ob : Prop} (h : resAVs s ys = some (zs, ob)) (hob : ob) :
    ∃ v, (results fn a.tmps).run P w = .ok v w ∧ R w ok ρ (tupOf zs) v := by
  obtain ⟨vs, h1, h2⟩ := resAVs_ok (P := P) hr hx h hob
  have hl := RList_length h2
  have hrun : (results fn a.tmps).run P w = .ok (if h : vs.toArray.size = 1 then vs.toArray[0] else .tuple vs.toArray) w := by
    rw [results_eq, Array.mapM_eq_mapM_toList]
    simp only [Sem.run_bind, Sem.run_map]
    rw [h1]
    simp
  refine ⟨_, hrun, ?_⟩
  match zs, vs, h2, hl with
  | [z], [v], h2, _ =>
    unfold RList at h2
    obtain ⟨v', vs', e, h3, _⟩ := h2
    injection e with e1 _
    subst e1
    simpa [tupOf] using h3
  | [], [], h2, _ =>
    simp only [tupOf, List.size_toArray, List.length_nil]
    rw [dif_neg (by simp)]
    unfold R; exact ⟨#[], rfl, h2⟩
  | z1 :: z2 :: zs, v1 :: v2 :: vs, h2, _ =>
    rw [dif_neg (by simp)]
    simp only [tupOf]
    unfold R; exact ⟨_, rfl, by simpa using h2⟩

theorem look_params : ∀ {xs : List AV} {vs : List Value} (i n : Nat), RList w ok ρ xs vs → look (params i xs) n = .any ∨ ∃ v, vs[n - i]? = some v ∧ i ≤ n ∧ R w ok ρ (look (params i xs) n) v
  | [], vs, i, n, _ => .inl rfl
  | x :: xs, vs, i, n, h => by
    unfold RList at h
    obtain ⟨v, vs', rfl, h1, h2⟩ := h
    unfold params
    rw [look_cons]
    cases hi : (i == n)
    · simp only [cond_false]
      have hne : i ≠ n := by simpa using hi
      rcases look_params (i + 1) n h2 with h3 | ⟨u, h3, h4, h5⟩
      · exact .inl h3
      · right
        refine ⟨u, ?_, by omega, h5⟩
        rw [show n - i = (n - (i + 1)) + 1 by omega]
        simpa using h3
    · obtain rfl : i = n := by simpa using hi
      right
      exact ⟨v, by simp, Nat.le_refl _, h1⟩

/-- From a function's body to its contract. -/
theorem Spec.intro {f : FuncId} {fn : Func} {c : Code} {ac : ACode} {rs : List RV} {rg0 : List Reg} {args : List AV} {Post : List Reg → AV → Prop} (hf : P.funcs[f]? = some fn) (hb : fn.body = some c) (hc : compC P c = some ac)
    (hrs : rvsOf P fn.results.toList = some rs) {n : Nat} (hn : fn.ntmps = n) (hl : args.length ≤ n)
    (h : ∀ E : Env, E.n = n → E.np = rg0.length → (∀ r p, E.pin r = some p → r < E.np ∧ isBox (rg0.getD r .dead) = true) → AWp P E (Retn E rs Post) ac ⟨params 0 args, rg0⟩) : Spec P f rg0 args Post := by
  intro w ρ ok vals hm ha
  have hvl := RList_length ha
  let O0 : Nat → Prop := fun b => ∃ r0 p0, ρ r0 = some (some p0) ∧ p0.b = b
  let pinF : Nat → Option Place := fun r => match rg0[r]?, ρ r with
    | some (.box _ _), some (some p) => some p
    | _, _ => none
  let E : Env := { base := w.heap.size, O0 := O0, okE := ok, w0 := w, pin := pinF, n := n, np := rg0.length }
  have hpin : ∀ r p, E.pin r = some p → (r < E.np ∧ isBox (rg0.getD r .dead) = true) ∧ ρ r = some (some p) := fun r p h => by
    simp only [E, pinF] at h
    split at h <;> first | (cases h; done) | skip
    rename_i e cs q hr hq
    simp only [Option.some.injEq] at h
    subst h
    exact ⟨⟨(List.getElem?_eq_some_iff.1 hr).1, by rw [List.getD_eq_getElem?_getD, hr]; rfl⟩, hq⟩
  have hw := h E rfl rfl (fun r p hp => (hpin r p hp).1) c (compC_ok hc)
  have hsz : (vals ++ Array.replicate (fn.ntmps - vals.size) undef).size = n := by simp at hvl ⊢; omega
  have hrel : Rel E ⟨params 0 args, rg0⟩ { tmps := vals ++ Array.replicate (fn.ntmps - vals.size) undef, defers := [] } w := by
    refine ⟨ρ, ok, hm, fun k => ?_, hsz, rfl, ⟨rfl, rfl, rfl, Nat.le_refl _, fun _ _ _ => rfl⟩, Nat.le_refl _, fun r p hp => .inr ⟨r, p, hp, rfl⟩, fun b hb => .inl hb, fun r p hp => (hpin r p hp).2⟩
    show R w ok ρ (look (params 0 args) k) _
    rcases look_params 0 k ha with h1 | ⟨v, h1, _, h2⟩
    · rw [h1]; unfold R; trivial
    · have : (vals ++ Array.replicate (fn.ntmps - vals.size) undef).getD k undef = v := by
        simp only [Nat.sub_zero, Array.getElem?_toList] at h1
        have hk := (Array.getElem?_eq_some_iff.1 h1).1
        rw [Array.getD_eq_getD_getElem?, Array.getElem?_append_left hk, h1]; rfl
      rw [this]; exact h2
  refine calls_of_wp hf hb (wp_mono (hw _ _ hrel) fun e a' w' hq => ?_)
  have fin : ∀ s, (∃ s' l ob, Weak E s s' ∧ resAVs s' rs = some (l, ob) ∧ ob ∧ Post s'.rg (tupOf l)) → Rel E s a' w' → a'.defers = [] ∧ ∃ v, (results fn a'.tmps).run P w' = .ok v w' ∧
      ∃ rg x v' ρ' ok', Ending.returned v = .returned v' ∧ Post rg x ∧ Mem w' ok' ρ' rg ∧ R w' ok' ρ' x v' ∧
      (∀ b, ok' b → ok b ∨ w.heap.size ≤ b ∨ ∃ r0 p0, ρ r0 = some (some p0) ∧ p0.b = b) ∧
      (∀ r p, ρ' r = some (some p) → w.heap.size ≤ p.b ∨ ∃ r0 p0, ρ r0 = some (some p0) ∧ p0.b = p.b) ∧
      Keeps w.heap.size (fun b => ∃ r0 p0, ρ r0 = some (some p0) ∧ p0.b = b) w w' ∧
      (∀ r e cs, rg0[r]? = some (.box e cs) → ρ' r = ρ r) := by
    rintro s ⟨s', l, ob, h1, h2, h3, h4⟩ hr
    obtain ⟨ρ', ok', hr'⟩ := h1 _ _ hr
    obtain ⟨v, h5, h6⟩ := results_ok (P := P) hr' hrs h2 h3
    refine ⟨hr'.dfr, v, h5, s'.rg, _, v, ρ', ok', rfl, h4, hr'.mem, h6, hr'.okr, hr'.ownr, hr'.kps, fun r e cs hre => ?_⟩
    obtain ⟨b, C, h7, _⟩ := hm.reg r _ hre
    have hp : E.pin r = some ⟨b, 0, cs.length, cs.length⟩ := by simp only [E, pinF, hre, h7]
    rw [hr'.pin r _ hp, h7]
  obtain ⟨s, h1, h2⟩ := hq
  cases e with
  | normal => exact fin s h1 h2
  | ret => exact fin s h1 h2
  | _ => exact h1.elim
end
end Go.Proofs.Ytoickofcmngdjaa.Aw

/- A logic of abstract states for walks: calls. -/
set_option linter.unusedVariables false
set_option linter.unusedSimpArgs false
namespace Go.Proofs.Ytoickofcmngdjaa.Aw
open Go.RowKit

/-! ### Maps of region numbers -/
mutual
/-- Region numbers mapped; 'none': the value is forgotten. -/
def mapA (m : Nat → Option Nat) : AV → AV
  | .hnd r off n k ex => match m r with
    | some j => .hnd j off n k ex
    | none => .any
  | .ptr r i o => match m r with
    | some j => .ptr j i o
    | none => .any
  | .fn f caps => .fn f (mapL m caps)
  | .agg cs => .agg (mapL m cs)
  | .tup cs => .tup (mapL m cs)
  | .opt c x => .opt c (mapA m x)
  | .any => .any
  | .val v => .val v
  | .imm a b c d => .imm a b c d
  | .pim cs => .pim cs
def mapL (m : Nat → Option Nat) : List AV → List AV
  | [] => []
  | x :: xs => mapA m x :: mapL m xs
end
def mapR (m : Nat → Option Nat) : Reg → Reg
  | .box e cs => .box e (mapL m cs)
  | .tab e cs => .tab e (mapL m cs)
  | g => g
theorem mapL_length (m : Nat → Option Nat) : ∀ xs : List AV, (mapL m xs).length = xs.length
  | [] => rfl
  | x :: xs => by simp [mapL, mapL_length m xs]
section
variable {w : World} {ok : Nat → Prop} {ρ ρ' : Nat → Option (Option Place)} {m : Nat → Option Nat}
mutual
theorem R_map (h : ∀ r j, m r = some j → ρ' j = ρ r) : ∀ (x : AV) (v : Value), R w ok ρ x v → R w ok ρ' (mapA m x) v
  | .hnd r off n k ex, v, hx => by
    unfold mapA
    split
    · rename_i j hj
      unfold R at hx ⊢
      rw [h r j hj]; exact hx
    · unfold R; trivial
  | .ptr r i o, v, hx => by
    unfold mapA
    split
    · rename_i j hj
      unfold R at hx ⊢
      rw [h r j hj]; exact hx
    · unfold R; trivial
  | .fn f caps, v, hx => by
    unfold mapA; unfold R at hx ⊢
    obtain ⟨vs, h1, h2⟩ := hx
    exact ⟨vs, h1, RList_map h _ _ h2⟩
  | .agg cs, v, hx => by
    unfold mapA; unfold R at hx ⊢
    obtain ⟨vs, h1, h2⟩ := hx
    exact ⟨vs, h1, RList_map h _ _ h2⟩
  | .tup cs, v, hx => by
    unfold mapA; unfold R at hx ⊢
    obtain ⟨vs, h1, h2⟩ := hx
    exact ⟨vs, h1, RList_map h _ _ h2⟩
  | .opt c x, v, hx => by
    unfold mapA; unfold R at hx ⊢
    exact ⟨fun hc => R_map h x v (hx.1 hc), hx.2⟩
  | .any, v, hx => by unfold mapA R; trivial
  | .val x, v, hx => by unfold mapA; unfold R at hx ⊢; exact hx
  | .imm a b c d, v, hx => by unfold mapA; unfold R at hx ⊢; exact hx
  | .pim cs, v, hx => by unfold mapA; unfold R at hx ⊢; exact hx
theorem RList_map (h : ∀ r j, m r = some j → ρ' j = ρ r) : ∀ (xs : List AV) (vs : List Value), RList w ok ρ xs vs → RList w ok ρ' (mapL m xs) vs
  | [], vs, hx => by unfold mapL; unfold RList at hx ⊢; exact hx
  | x :: xs, vs, hx => by
    unfold mapL; unfold RList at hx ⊢
    obtain ⟨v, vs', e, h1, h2⟩ := hx
    exact ⟨v, vs', e, R_map h x v h1, RList_map h xs vs' h2⟩
end
end

def mapT (m : Nat → Option Nat) : List (Nat × AV) → List (Nat × AV)
  | [] => []
  | (i, x) :: l => (i, mapA m x) :: mapT m l
theorem look_map (m : Nat → Option Nat) : ∀ (l : List (Nat × AV)) (n : Nat), look (mapT m l) n = mapA m (look l n)
  | [], n => by simp [mapT, look, mapA]
  | (i, x) :: l, n => by
    show look ((i, mapA m x) :: mapT m l) n = mapA m (look ((i, x) :: l) n)
    rw [look_cons, look_cons]
    cases (i == n)
    · simp only [cond_false]; exact look_map m l n
    · rfl

/-! ### Values lent -/
/-- A value as a callee may read it that does not own anything. -/
def borA : Nat → St → AV → AV
  | 0, _, x => bif x.shut then x else .any
  | k + 1, s, .hnd r off n _ _ => match s.reg r with
    | .arr _ sz els => .imm none false sz ((els.drop off).take n)
    | _ => .any
  | k + 1, s, .ptr r i o => match s.reg r with
    | .box _ cs => .pim ((cs.drop o).map (borA k s))
    | .arr _ _ els => .pim ((els.getD i []).drop o)
    | _ => .any
  | k + 1, s, .fn f caps => .fn f (caps.map (borA k s))
  | k + 1, s, .agg cs => .agg (cs.map (borA k s))
  | k + 1, s, .tup cs => .tup (cs.map (borA k s))
  | k + 1, s, .opt c x => .opt c (borA k s x)
  | _, _, x => x
def allOb (p : AV → Prop) : List AV → Prop
  | [] => True
  | x :: xs => p x ∧ allOb p xs
def borOb : Nat → St → AV → Prop
  | 0, _, _ => True
  | k + 1, s, .hnd r off n _ _ => match s.reg r with
    | .arr _ _ els => off + n ≤ els.length
    | _ => True
  | k + 1, s, .ptr r i o => match s.reg r with
    | .box _ cs => i = 0 ∧ allOb (borOb k s) (cs.drop o)
    | .arr _ _ els => i < els.length
    | _ => True
  | k + 1, s, .fn _ caps => allOb (borOb k s) caps
  | k + 1, s, .agg cs => allOb (borOb k s) cs
  | k + 1, s, .tup cs => allOb (borOb k s) cs
  | k + 1, s, .opt _ x => borOb k s x
  | _, _, _ => True

section
variable {P : Program} {E : Env} {Q : Exit → St → Prop} {s : St} {a : Act} {w : World} {ρ : Nat → Option (Option Place)} {ok : Nat → Prop}
theorem allOb_mem {p : AV → Prop} : ∀ {l : List AV}, allOb p l → ∀ x ∈ l, p x
  | [], _, x, h => by cases h
  | y :: l, h, x, hx => by
    rcases List.mem_cons.1 hx with rfl | hx
    · exact h.1
    · exact allOb_mem h.2 x hx
theorem RcList_of {ok' : Nat → Prop} {g : AV → AV} : ∀ {l : List AV} {vs : List Value}, RList w ok ρ l vs → (∀ x ∈ l, ∀ v, R w ok ρ x v → Rc w ok' (g x) v) → RcList w ok' (l.map g) vs
  | [], vs, h, _ => by unfold RList at h; subst h; unfold List.map RcList; rfl
  | x :: l, vs, h, hg => by
    unfold RList at h
    obtain ⟨v, vs', rfl, h1, h2⟩ := h
    show RcList w ok' (g x :: l.map g) (v :: vs')
    unfold RcList
    exact ⟨v, vs', rfl, hg x List.mem_cons_self v h1, RcList_of h2 fun y hy => hg y (List.mem_cons_of_mem _ hy)⟩
theorem RcCells_of {ok' : Nat → Prop} {b : Nat} : ∀ {l : List AV} {vs : List Value} (o : Nat), RcList w ok' l vs → (∀ j u, vs[j]? = some u → w.cell? ⟨b, o + j, none⟩ = some u) → RcCells w ok' b o l
  | [], vs, o, _, _ => by unfold RcCells; trivial
  | x :: l, vs, o, h, hc => by
    unfold RcList at h
    obtain ⟨v, vs', rfl, h1, h2⟩ := h
    unfold RcCells
    refine ⟨⟨v, by simpa using hc 0 v rfl, h1⟩, RcCells_of (o + 1) h2 fun j u hu => ?_⟩
    have := hc (j + 1) u (by simpa using hu)
    rw [show o + 1 + j = o + (j + 1) by omega]; exact this
theorem RcList_drop {ok' : Nat → Prop} : ∀ {l : List AV} {vs : List Value} (n : Nat), RcList w ok' l vs → RcList w ok' (l.drop n) (vs.drop n)
  | l, vs, 0, h => h
  | [], vs, n + 1, h => by unfold RcList at h; subst h; simp [RcList]
  | x :: l, vs, n + 1, h => by
    unfold RcList at h
    obtain ⟨v, vs', rfl, _, h2⟩ := h
    exact RcList_drop n h2
theorem RList_drop : ∀ {l : List AV} {vs : List Value} (n : Nat), RList w ok ρ l vs → RList w ok ρ (l.drop n) (vs.drop n)
  | l, vs, 0, h => h
  | [], vs, n + 1, h => by unfold RList at h; subst h; simp [RList]
  | x :: l, vs, n + 1, h => by
    unfold RList at h
    obtain ⟨v, vs', rfl, _, h2⟩ := h
    exact RList_drop n h2
/-- Rows of cells out of a list of cells. -/
theorem RcEls_of {ok' : Nat → Prop} {b sz : Nat} : ∀ {els : List (List AV)} {vs : List Value} (o : Nat), (∀ el ∈ els, el.length = sz) → RcList w ok' els.flatten vs → (∀ j u, vs[j]? = some u → w.cell? ⟨b, o + j, none⟩ = some u) → RcEls w ok' b sz o els
  | [], vs, o, _, _, _ => by unfold RcEls; trivial
  | el :: els, vs, o, hl, h, hc => by
    rw [List.flatten_cons] at h
    obtain ⟨us, ts, rfl, h1, h2⟩ := RcList_split h
    have he := hl el List.mem_cons_self
    have hu : us.length = sz := by rw [RcList_length h1, he]
    unfold RcEls
    refine ⟨he, RcCells_of o h1 fun j u hj => hc j u ?_, RcEls_of (o + sz) (fun x hx => hl x (List.mem_cons_of_mem _ hx)) h2 fun j u hj => ?_⟩
    · have hlt := (List.getElem?_eq_some_iff.1 hj).1
      rw [List.getElem?_append_left hlt]; exact hj
    · have := hc (sz + j) u (by rw [List.getElem?_append_right (by omega), hu, Nat.add_sub_cancel_left]; exact hj)
      rw [Nat.add_assoc]; exact this

theorem sub_els {ok' : Nat → Prop} {els : List (List AV)} {sz : Nat} {vs : List Value} (hl : ∀ el ∈ els, el.length = sz) (h : RcList w ok' els.flatten vs) (off n : Nat) :
    RcList w ok' ((els.drop off).take n).flatten ((vs.drop (off * sz)).take (((els.drop off).take n).length * sz)) ∨ els.length < off := by
  rcases Nat.lt_or_ge els.length off with h1 | h1
  · exact .inr h1
  left
  have e1 : els = els.take off ++ ((els.drop off).take n ++ (els.drop off).drop n) := by rw [List.take_append_drop, List.take_append_drop]
  rw [e1, List.flatten_append, List.flatten_append] at h
  obtain ⟨v1, v2, rfl, h2, h3⟩ := RcList_split h
  obtain ⟨v3, v4, rfl, h4, h5⟩ := RcList_split h3
  have l1 : v1.length = off * sz := by
    rw [RcList_length h2, flatten_length (fun el hm => hl el (List.mem_of_mem_take hm))]
    rw [List.length_take, Nat.min_eq_left h1]
  have l3 : v3.length = ((els.drop off).take n).length * sz := by
    rw [RcList_length h4, flatten_length (fun el hm => hl el (List.mem_of_mem_drop (List.mem_of_mem_take hm)))]
  rw [← l1, List.drop_left, ← l3, List.take_left]
  exact h4

theorem borA_ok (hr : RelM E s a w ρ ok) : ∀ (k : Nat) (x : AV) (v : Value), borOb k s x → R w ok ρ x v → Rc w (fun b => b < w.heap.size) (borA k s x) v := by
  have hrd : Reads ok w w := fun _ _ _ _ h => h
  have hall : ∀ b, ok b → b < w.heap.size := hr.mem.okl
  intro k
  induction k with
  | zero =>
    intro x v _ h
    unfold borA
    cases hs : x.shut with
    | false => simp only [cond_false]; unfold Rc; trivial
    | true => simp only [cond_true]; exact Rc_frame hrd hall _ _ (Rc_of_R x v hs h)
  | succ k ih =>
    intro x v hob h
    cases x with
    | any => unfold borA Rc; trivial
    | val y => unfold borA; exact Rc_frame hrd hall _ _ (Rc_of_R _ v rfl h)
    | imm a b c d => unfold borA; exact Rc_frame hrd hall _ _ (Rc_of_R _ v rfl h)
    | pim cs => unfold borA; exact Rc_frame hrd hall _ _ (Rc_of_R _ v rfl h)
    | fn f caps =>
      unfold borA; unfold borOb at hob; unfold R at h; unfold Rc
      obtain ⟨vs, h1, h2⟩ := h
      exact ⟨vs, h1, RcList_of h2 fun x hx v hv => ih x v (allOb_mem hob x hx) hv⟩
    | agg cs =>
      unfold borA; unfold borOb at hob; unfold R at h; unfold Rc
      obtain ⟨vs, h1, h2⟩ := h
      exact ⟨vs, h1, RcList_of h2 fun x hx v hv => ih x v (allOb_mem hob x hx) hv⟩
    | tup cs =>
      unfold borA; unfold borOb at hob; unfold R at h; unfold Rc
      obtain ⟨vs, h1, h2⟩ := h
      exact ⟨vs, h1, RcList_of h2 fun x hx v hv => ih x v (allOb_mem hob x hx) hv⟩
    | opt c x =>
      unfold borA; unfold borOb at hob; unfold R at h; unfold Rc
      exact ⟨fun hc => ih x v hob (h.1 hc), h.2⟩
    | hnd r off n k' ex =>
      unfold borA; unfold borOb at hob
      split <;> first | (unfold Rc; trivial) | skip
      rename_i e sz els hg
      rw [hg] at hob
      dsimp only at hob
      unfold R at h
      have hlen : ((els.drop off).take n).length = n := by simp; omega
      rcases hr.mem.reg r _ (reg_some hg (by simp)) with ⟨b, d, C, pre, vs, rest, h1, h2, h3, h4, h5, h6⟩ | ⟨h1, h2⟩
      · rcases h with ⟨p, cc, ad, h7, rfl, h8, h9, h10, h11, h12⟩ | ⟨h7, _⟩
        · rw [h1] at h7
          obtain rfl := by simpa using h7
          unfold Rc
          refine ⟨some ad, cc, by rw [hlen], by rw [hlen]; omega, fun q hq => (by cases hq), fun h => (by cases h), fun h => (by cases h), fun ad' had hne => ?_⟩
          injection had with had
          subst had
          have hn0 : n ≠ 0 := fun e => hne (List.eq_nil_of_length_eq_zero (by rw [hlen, e]))
          rcases h8 with h8 | rfl
          · omega
          refine ⟨rfl, (hr.mem.own r _ h1).1, ?_⟩
          rcases sub_els h5 h6 off n with h13 | h13
          · refine RcEls_of _ (fun el hm => h5 el (List.mem_of_mem_drop (List.mem_of_mem_take hm))) (RcList_frame hrd hall _ _ h13) fun j u hj => ?_
            have hjl := (List.getElem?_eq_some_iff.1 hj).1
            rw [List.length_take] at hjl
            rw [List.getElem?_take, if_pos (by omega), List.getElem?_drop] at hj
            rw [cell_of h2, ← Array.getElem?_toList, h3]
            dsimp only
            rw [List.getElem?_append_right (by omega), h4, show d + off * sz + j - d = off * sz + j by omega]
            have := (List.getElem?_eq_some_iff.1 hj).1
            rw [List.getElem?_append_left this]; exact hj
          · omega
        · rw [h1] at h7; injection h7 with h7; cases h7
      · rcases h with ⟨p, cc, ad, h7, _⟩ | ⟨h7, rfl, h8, h9, h10⟩
        · rw [h2] at h7; injection h7 with h7; cases h7
        · subst h1
          unfold Rc
          refine ⟨none, 0, by simp, by simp, fun q hq => (by cases hq), fun _ => rfl, fun h => (by cases h), fun ad' had _ => (by cases had)⟩
    | ptr r i o =>
      unfold borA; unfold borOb at hob
      unfold R at h
      obtain ⟨p, h0, rfl⟩ := h
      split
      · rename_i e cs hg
        rw [hg] at hob
        dsimp only at hob
        obtain ⟨rfl, hob⟩ := hob
        obtain ⟨b, C, h1, h2, h3⟩ := hr.mem.reg r _ (reg_some hg (by simp))
        rw [h0] at h1
        obtain rfl := by simpa using h1
        unfold Rc
        refine ⟨b, _, rfl, (hr.mem.own r _ h0).1, RcCells_of _ (RcList_of (RList_drop o h3) fun x hx v hv => ih x v (allOb_mem hob x hx) hv) fun j u hj => ?_⟩
        rw [List.getElem?_drop] at hj
        rw [cell_of h2, ← Array.getElem?_toList]
        simpa using hj
      · rename_i e sz els hg
        rw [hg] at hob
        dsimp only at hob
        rcases hr.mem.reg r _ (reg_some hg (by simp)) with ⟨b, d, C, pre, vs, rest, h1, h2, h3, h4, h5, h6⟩ | ⟨h1, h2⟩
        · rw [h0] at h1
          obtain rfl := by simpa using h1
          unfold Rc
          refine ⟨b, _, rfl, (hr.mem.own r _ h0).1, ?_⟩
          have hel : els[i]? = some (els.getD i []) := by rw [List.getD_eq_getElem?_getD, List.getElem?_eq_getElem hob]; rfl
          have hall2 := RcEls_of (b := b) d h5 (RcList_frame hrd hall _ _ h6) (fun j u hj => by
            rw [cell_of h2, ← Array.getElem?_toList, h3, List.getElem?_append_right (by omega), h4, show d + j - d = j by omega]
            have := (List.getElem?_eq_some_iff.1 hj).1
            rw [List.getElem?_append_left this]; exact hj)
          exact RcCells_drop o (RcEls_get hall2 i _ hel).2
        · rw [h0] at h2; injection h2 with h2; cases h2
      · unfold Rc; trivial
end
end Go.Proofs.Ytoickofcmngdjaa.Aw

/- A logic of abstract states for walks: calls, continued. -/
set_option linter.unusedVariables false
set_option linter.unusedSimpArgs false
namespace Go.Proofs.Ytoickofcmngdjaa.Aw
open Go.RowKit

section
variable {w : World} {ok : Nat → Prop} {ρ ρ' : Nat → Option (Option Place)} {m : Nat → Option Nat}
mutual
theorem R_map2 (h : ∀ r j, m r = some j → ρ' j = ρ r ∨ ρ r = none) : ∀ (x : AV) (v : Value), R w ok ρ x v → R w ok ρ' (mapA m x) v
  | .hnd r off n k ex, v, hx => by
    unfold mapA
    split
    · rename_i j hj
      unfold R at hx ⊢
      rcases h r j hj with h1 | h1
      · rw [h1]; exact hx
      · rw [h1] at hx
        rcases hx with ⟨p, cc, ad, h2, _⟩ | ⟨h2, _⟩ <;> cases h2
    · unfold R; trivial
  | .ptr r i o, v, hx => by
    unfold mapA
    split
    · rename_i j hj
      unfold R at hx ⊢
      rcases h r j hj with h1 | h1
      · rw [h1]; exact hx
      · rw [h1] at hx
        obtain ⟨p, h2, _⟩ := hx; cases h2
    · unfold R; trivial
  | .fn f caps, v, hx => by
    unfold mapA; unfold R at hx ⊢
    obtain ⟨vs, h1, h2⟩ := hx
    exact ⟨vs, h1, RList_map2 h _ _ h2⟩
  | .agg cs, v, hx => by
    unfold mapA; unfold R at hx ⊢
    obtain ⟨vs, h1, h2⟩ := hx
    exact ⟨vs, h1, RList_map2 h _ _ h2⟩
  | .tup cs, v, hx => by
    unfold mapA; unfold R at hx ⊢
    obtain ⟨vs, h1, h2⟩ := hx
    exact ⟨vs, h1, RList_map2 h _ _ h2⟩
  | .opt c x, v, hx => by
    unfold mapA; unfold R at hx ⊢
    exact ⟨fun hc => R_map2 h x v (hx.1 hc), hx.2⟩
  | .any, v, hx => by unfold mapA R; trivial
  | .val x, v, hx => by unfold mapA; unfold R at hx ⊢; exact hx
  | .imm a b c d, v, hx => by unfold mapA; unfold R at hx ⊢; exact hx
  | .pim cs, v, hx => by unfold mapA; unfold R at hx ⊢; exact hx
theorem RList_map2 (h : ∀ r j, m r = some j → ρ' j = ρ r ∨ ρ r = none) : ∀ (xs : List AV) (vs : List Value), RList w ok ρ xs vs → RList w ok ρ' (mapL m xs) vs
  | [], vs, hx => by unfold mapL; unfold RList at hx ⊢; exact hx
  | x :: xs, vs, hx => by
    unfold mapL; unfold RList at hx ⊢
    obtain ⟨v, vs', e, h1, h2⟩ := hx
    exact ⟨v, vs', e, R_map2 h x v h1, RList_map2 h xs vs' h2⟩
end
end
/-- A function of the program with a body of its own. -/
def fnOk (P : Program) (f : FuncId) : Bool := match P.funcs[f]? with
  | some fn => fn.body.isSome && fn.name != "runtime.NumGoroutine"
  | none => false

section
variable {P : Program} {E : Env} {Q : Exit → St → Prop} {s s' : St} {a : Act} {w : World} {ρ : Nat → Option (Option Place)} {ok : Nat → Prop}

theorem run_callFunc {f : FuncId} (h : fnOk P f = true) (vals : Array Value) : (callFunc f vals).run P w = .ok (.enter f vals) w := by
  unfold fnOk at h
  split at h
  · rename_i fn hf
    simp only [Bool.and_eq_true, bne_iff_ne, ne_eq] at h
    have hb : ¬ fn.body = none := fun e => by rw [e] at h; simp at h
    simp [callFunc, hf, h.2, hb]
  · cases h

set_option maxHeartbeats 1000000 in
theorem call_inv {o : Oper} {f : FuncId} {xs : List Opd} (hc : comp P o = some (.call f xs)) : fnOk P f = true ∧ ∃ vals : Array Value, vals.toList = xs.map (Opd.cv a) ∧ (execOp a.eval o).run P w = .ok (.enter f vals) w := by
  replace hc := comp0_of hc (by simp)
  obtain ⟨dst, op, type, ps, after, guard⟩ := o
  cases op <;> simp only [comp0, Option.some.injEq, reduceCtorEq] at hc
  case call c =>
    obtain ⟨callee, args, argTypes⟩ := c
    dsimp only at hc
    cases callee with
    | invoke r m => simp only [reduceCtorEq] at hc
    | builtin b =>
      cases b <;> simp only [reduceCtorEq] at hc
      all_goals (repeat' (split at hc)) <;> simp only [Option.some.injEq, reduceCtorEq] at hc
    | value g =>
      cases g <;> simp only [Option.some.injEq, reduceCtorEq] at hc
      rename_i f'
      split at hc <;> first | (cases hc; done) | skip
      rename_i fn hf
      split at hc <;> first | (cases hc; done) | skip
      rename_i hcond
      simp only [Option.some.injEq, AOp.call.injEq] at hc
      obtain ⟨rfl, rfl⟩ := hc
      have hok : fnOk P f' = true := by unfold fnOk; rw [hf]; simp [hcond.1, hcond.2]
      refine ⟨hok, args.map a.eval, ?_, ?_⟩
      · simp only [Array.toList_map, List.map_map]
        refine List.map_congr_left fun x _ => ?_
        exact (Opd.cv_of a x).symm
      · simp only [execOp, resolve, Act.eval, Deferred.ofValue, Sem.run_bind, Sem.run_pure, Result.andThen_ok, invoke]
        have := run_callFunc (w := w) hok (args.map a.eval)
        simpa using this
  case makeFunc fn first caps =>
    cases fn <;> simp only [reduceCtorEq] at hc
    split at hc <;> simp only [Option.some.injEq, reduceCtorEq] at hc
  all_goals (repeat' (split at hc)) <;> first | (simp only [Option.some.injEq, reduceCtorEq] at hc; done) | (simp only [Option.map_eq_some_iff, reduceCtorEq, and_false, exists_false] at hc; done) | skip


set_option maxHeartbeats 1000000 in
theorem callv_inv {o : Oper} {g : Opd} {xs : List Opd} (hc : comp P o = some (.callv g xs)) {f : FuncId} {caps : Array Value} (hg : g.cv a = .func (.func f) #[] caps) (hok : fnOk P f = true) :
    ∃ vals : Array Value, vals.toList = xs.map (Opd.cv a) ∧ (execOp a.eval o).run P w = .ok (.enter f (vals ++ caps)) w := by
  replace hc := comp0_of hc (by simp)
  obtain ⟨dst, op, type, ps, after, guard⟩ := o
  cases op <;> simp only [comp0, Option.some.injEq, reduceCtorEq] at hc
  case call c =>
    obtain ⟨callee, args, argTypes⟩ := c
    dsimp only at hc
    cases callee with
    | invoke r m => simp only [reduceCtorEq] at hc
    | builtin b =>
      cases b <;> simp only [reduceCtorEq] at hc
      all_goals (repeat' (split at hc)) <;> simp only [Option.some.injEq, reduceCtorEq] at hc
    | value g' =>
      have key : g = .of g' → xs = args.toList.map .of → ∃ vals : Array Value, vals.toList = xs.map (Opd.cv a) ∧ (execOp a.eval { dst := dst, op := .call { callee := .value g', args := args, argTypes := argTypes }, type := type, pos := ps, after := after, guard := guard }).run P w = .ok (.enter f (vals ++ caps)) w := by
        rintro rfl rfl
        rw [Opd.cv_of] at hg
        refine ⟨args.map a.eval, ?_, ?_⟩
        · simp only [Array.toList_map, List.map_map]
          refine List.map_congr_left fun x _ => ?_
          exact (Opd.cv_of a x).symm
        · simp only [execOp, resolve, hg, Deferred.ofValue, Sem.run_bind, Sem.run_pure, Result.andThen_ok, invoke]
          have := run_callFunc (w := w) hok (args.map a.eval ++ caps)
          simpa using this
      cases g' with
      | func f' =>
        dsimp only at hc
        split at hc <;> first | (cases hc; done) | skip
        split at hc <;> simp only [Option.some.injEq, reduceCtorEq] at hc
      | tmp t => simp only [Option.some.injEq, AOp.callv.injEq] at hc; exact key hc.1.symm hc.2.symm
      | const t => simp only [Option.some.injEq, AOp.callv.injEq] at hc; exact key hc.1.symm hc.2.symm
      | global t => simp only [Option.some.injEq, AOp.callv.injEq] at hc; exact key hc.1.symm hc.2.symm
  case makeFunc fn first caps =>
    cases fn <;> simp only [reduceCtorEq] at hc
    split at hc <;> simp only [Option.some.injEq, reduceCtorEq] at hc
  all_goals (repeat' (split at hc)) <;> first | (simp only [Option.some.injEq, reduceCtorEq] at hc; done) | (simp only [Option.map_eq_some_iff, reduceCtorEq, and_false, exists_false] at hc; done) | skip

/-! ### Coming back from a call that was lent the regions of π -/
def kpM (s : St) (π : List Nat) : Nat → Option Nat := fun r => match pos π r with
  | some _ => bif isBox (s.reg r) then some r else none
  | none => some r
def bkM (π : List Nat) (L : Nat) : Nat → Option Nat := fun i => match π[i]? with
  | some r => some r
  | none => some (L + (i - π.length))
def retRg (s : St) (π : List Nat) (rg : List Reg) : Nat → List Reg → List Reg
  | _, [] => (rg.drop π.length).map (mapR (bkM π s.rg.length))
  | r, g :: l => (match pos π r with
    | some i => mapR (bkM π s.rg.length) (rg.getD i .dead)
    | none => mapR (kpM s π) g) :: retRg s π rg (r + 1) l
def retS (s : St) (π : List Nat) (dst : Option Nat) (rg : List Reg) (x : AV) : St :=
  St.putO ⟨mapT (kpM s π) s.tm, retRg s π rg 0 s.rg⟩ dst (mapA (bkM π s.rg.length) x)

theorem retRg_get (s : St) (π : List Nat) (rg : List Reg) : ∀ (l : List Reg) (r i : Nat), (retRg s π rg r l)[i]? =
    if i < l.length then (match pos π (r + i) with | some j => some (mapR (bkM π s.rg.length) (rg.getD j .dead)) | none => (l[i]?).map (mapR (kpM s π)))
    else ((rg.drop π.length).map (mapR (bkM π s.rg.length)))[i - l.length]?
  | [], r, i => by simp [retRg]
  | g :: l, r, 0 => by
    simp only [retRg, List.getElem?_cons_zero, List.length_cons, Nat.zero_lt_succ, if_true, Nat.add_zero, Option.map_some]
    cases pos π r <;> rfl
  | g :: l, r, i + 1 => by
    simp only [retRg, List.getElem?_cons_succ, List.length_cons, Nat.add_lt_add_iff_right, Nat.add_sub_add_right]
    rw [retRg_get s π rg l (r + 1) i, show r + 1 + i = r + (i + 1) by omega]
theorem retRg_len (s : St) (π : List Nat) (rg : List Reg) : ∀ (l : List Reg) (r : Nat), (retRg s π rg r l).length = l.length + (rg.length - π.length)
  | [], r => by simp [retRg]
  | g :: l, r => by simp only [retRg, List.length_cons, retRg_len s π rg l (r + 1)]; omega

def piOk (len : Nat) (π : List Nat) : Bool := ((List.range π.length).all fun j => pos π (π.getD j 0) == some j) && π.all (fun r => Nat.blt r len)
theorem piOk_inj {len : Nat} {π : List Nat} (h : piOk len π = true) : (∀ j r, π[j]? = some r → pos π r = some j) ∧ ∀ r ∈ π, r < len := by
  simp only [piOk, Bool.and_eq_true] at h
  refine ⟨fun j r hj => ?_, fun r hm => ?_⟩
  · have hlt := (List.getElem?_eq_some_iff.1 hj).1
    have := List.all_eq_true.1 h.1 j (List.mem_range.2 hlt)
    rw [List.getD_eq_getElem?_getD, hj] at this
    simpa using this
  · have := List.all_eq_true.1 h.2 r hm
    simpa [Nat.blt_eq] using this

theorem RegOk_map {okA okB : Nat → Prop} {w' : World} {ρ' ρN : Nat → Option (Option Place)} {m : Nat → Option Nat} (hk : ∀ b, okA b → okB b) (hm : ∀ r j, m r = some j → ρN j = ρ' r) {i r : Nat} (hi : ρN r = ρ' i) {g : Reg} (h : RegOk w' okA ρ' i g) : RegOk w' okB ρN r (mapR m g) := by
  have hrd : Reads okA w' w' := fun _ _ _ _ h => h
  cases g with
  | dead => exact hi.trans h
  | box e cs =>
    obtain ⟨b, C, h1, h2, h3⟩ := h
    exact ⟨b, C, by rw [hi, mapL_length]; exact h1, h2, RList_frame hrd hk (fun _ _ x => x) _ _ (RList_map hm _ _ h3)⟩
  | arr e sz els =>
    rcases h with ⟨b, d, C, pre, vs, rest, h1, h2, h3, h4, h5, h6⟩ | ⟨h1, h2⟩
    · exact .inl ⟨b, d, C, pre, vs, rest, hi.trans h1, h2, h3, h4, h5, RcList_frame hrd hk _ _ h6⟩
    · exact .inr ⟨h1, hi.trans h2⟩
  | tab e cs =>
    rcases h with ⟨b, d, C, pre, vs, rest, h1, h2, h3, h4, h6⟩ | ⟨h1, h2⟩
    · exact .inl ⟨b, d, C, pre, vs, rest, hi.trans h1, h2, h3, h4, RList_frame hrd hk (fun _ _ x => x) _ _ (RList_map hm _ _ h6)⟩
    · exact .inr ⟨by rw [h1]; rfl, hi.trans h2⟩

theorem ret_core (hr : RelM E s a w ρ ok) {π : List Nat} (hπ : piOk s.rg.length π = true) (hpin : ∀ r ∈ π, isBox (s.reg r) = true ∨ E.pin r = none)
    {w' : World} {okX : Nat → Prop} {ρ' : Nat → Option (Option Place)} {rg : List Reg} {x : AV} {v : Value} {dst : Option Nat} (hd : dstOk E.n dst = true)
    (hm : Mem w' okX ρ' rg) (hx : R w' okX ρ' x v) (hok : ∀ b, okX b → ok b ∨ w.heap.size ≤ b ∨ ∃ r0 p0, pl π ρ r0 = some (some p0) ∧ p0.b = b) (hlen : π.length ≤ rg.length)
    (hown : ∀ r p, ρ' r = some (some p) → w.heap.size ≤ p.b ∨ ∃ r0 p0, pl π ρ r0 = some (some p0) ∧ p0.b = p.b)
    (hK : Keeps w.heap.size (fun b => ∃ r0 p0, pl π ρ r0 = some (some p0) ∧ p0.b = b) w w')
    (hbox : ∀ r, isBox (s.reg (π.getD r 0)) = true → r < π.length → ρ' r = pl π ρ r) :
    RelM E (retS s π dst rg x) (a.put dst v) w' (fun r => if r < s.rg.length then (match pos π r with | some i => ρ' i | none => ρ r) else ρ' (r - s.rg.length + π.length)) (fun b => ok b ∨ okX b) := by
  obtain ⟨hinj, hlt⟩ := piOk_inj hπ
  generalize hN : (fun r => if r < s.rg.length then (match pos π r with | some i => ρ' i | none => ρ r) else ρ' (r - s.rg.length + π.length)) = ρN
  have hpl : ∀ {r i}, pos π r = some i → pl π ρ i = ρ r := fun h => pl_of h
  have hposlt : ∀ {r i}, pos π r = some i → i < π.length := fun h => (List.getElem?_eq_some_iff.1 (pos_get h)).1
  have hN1 : ∀ {r i}, pos π r = some i → ρN r = ρ' i := fun {r i} h => by
    have : r < s.rg.length := hlt r (List.mem_of_getElem? (pos_get h))
    rw [← hN]; simp only [this, if_true, h]
  have hN2 : ∀ {r}, pos π r = none → r < s.rg.length → ρN r = ρ r := fun {r} h h' => by
    rw [← hN]; simp only [h', if_true, h]
  have hN3 : ∀ {r}, s.rg.length ≤ r → ρN r = ρ' (r - s.rg.length + π.length) := fun {r} h => by
    rw [← hN]; simp only [show ¬ r < s.rg.length by omega, if_false]
  have hkp : ∀ r j, kpM s π r = some j → ρN j = ρ r ∨ (s.rg.length ≤ r ∧ ρ r = none) := fun r j h => by
    unfold kpM at h
    split at h
    · rename_i i hi
      obtain ⟨h1, h2⟩ := cond_some' h
      simp only [Option.some.injEq] at h2
      subst h2
      left
      rw [hN1 hi, ← hpl hi]
      refine hbox i ?_ (hposlt hi)
      rw [List.getD_eq_getElem?_getD, pos_get hi]; exact h1
    · rename_i hi
      simp only [Option.some.injEq] at h
      subst h
      rcases Nat.lt_or_ge r s.rg.length with h1 | h1
      · exact .inl (hN2 hi h1)
      · exact .inr ⟨h1, hr.mem.out r h1⟩
  have hbk : ∀ r j, bkM π s.rg.length r = some j → ρN j = ρ' r := fun r j h => by
    unfold bkM at h
    split at h
    · rename_i q hq
      simp only [Option.some.injEq] at h
      subst h
      exact hN1 (hinj _ _ hq)
    · rename_i hq
      simp only [Option.some.injEq] at h
      subst h
      have : π.length ≤ r := by simpa using hq
      rw [hN3 (by omega), show s.rg.length + (r - π.length) - s.rg.length + π.length = r by omega]
  have hsz : w.heap.size ≤ w'.heap.size := hK.size
  have hsame : ∀ b, b < w.heap.size → (∀ r0 p0, pl π ρ r0 = some (some p0) → p0.b ≠ b) → w'.heap[b]? = w.heap[b]? := fun b hb hno => hK.block b hb fun ⟨r0, p0, h1, h2⟩ => hno r0 p0 h1 h2
  have hokno : ∀ b, ok b → ∀ r0 p0, pl π ρ r0 = some (some p0) → p0.b ≠ b := fun b hb r0 p0 h1 e => by
    unfold pl at h1
    obtain ⟨q, _, h2⟩ := Option.bind_eq_some_iff.1 h1
    exact (hr.mem.own q p0 h2).2 (e ▸ hb)
  have hrd : Reads ok w w' := Reads.of_same fun b hb => hsame b (hr.mem.okl b hb) (hokno b hb)
  have holdno : ∀ {r p}, pos π r = none → ρ r = some (some p) → ∀ r0 p0, pl π ρ r0 = some (some p0) → p0.b ≠ p.b := fun {r p} h h' r0 p0 h1 e => by
    unfold pl at h1
    obtain ⟨q, h2, h3⟩ := Option.bind_eq_some_iff.1 h1
    have := hr.mem.inj q r p0 p h3 h' e
    subst this
    rw [hinj _ _ h2] at h; cases h
  have hokm : ∀ b, ok b → ok b ∨ okX b := fun b h => .inl h
  have hokx : ∀ b, okX b → ok b ∨ okX b := fun b h => .inr h
  -- an old value
  have hold : ∀ y u, R w ok ρ y u → R w' (fun b => ok b ∨ okX b) ρN (mapA (kpM s π) y) u := fun y u hy => by
    have h1 : R w' (fun b => ok b ∨ okX b) ρ y u := R_frame hrd hokm (fun _ _ x => x) _ _ hy
    -- a number beyond the regions stands for nothing
    refine R_map2 (fun r j hj => ?_) _ _ h1
    exact hkp r j hj |>.elim .inl fun h => .inr h.2
  have hregs : ∀ r g, (retRg s π rg 0 s.rg)[r]? = some g → RegOk w' (fun b => ok b ∨ okX b) ρN r g := fun r g hg => by
    rw [retRg_get] at hg
    split at hg
    · rename_i hlt'
      rw [Nat.zero_add] at hg
      split at hg
      · rename_i i hi
        simp only [Option.some.injEq] at hg
        subst hg
        have hil : i < rg.length := Nat.lt_of_lt_of_le (hposlt hi) hlen
        exact RegOk_map hokx hbk (hN1 hi) (hm.reg i (rg.getD i .dead) (by rw [List.getD_eq_getElem?_getD, List.getElem?_eq_getElem hil]; rfl))
      · rename_i hi
        obtain ⟨g0, hg0, rfl⟩ := Option.map_eq_some_iff.1 hg
        have h0 := hr.mem.reg r g0 hg0
        cases g0 with
        | dead => exact (hN2 hi hlt').trans h0
        | box e cs =>
          obtain ⟨b, C, h1, h2, h3⟩ := h0
          refine ⟨b, C, by rw [hN2 hi hlt', mapL_length]; exact h1, ?_, ?_⟩
          · exact (hpB_same (hsame b (hr.mem.own _ _ h1).1 (holdno hi h1))).trans h2
          · have h4 : RList w' (fun b => ok b ∨ okX b) ρ cs C.toList := RList_frame hrd hokm (fun _ _ x => x) _ _ h3
            exact RList_map2 (fun r j hj => hkp r j hj |>.elim .inl fun h => .inr h.2) _ _ h4
        | arr e sz els =>
          rcases h0 with ⟨b, d, C, pre, vs, rest, h1, h2, h3, h4, h5, h6⟩ | ⟨h1, h2⟩
          · exact .inl ⟨b, d, C, pre, vs, rest, (hN2 hi hlt').trans h1, (hpB_same (hsame b (hr.mem.own _ _ h1).1 (holdno hi h1))).trans h2, h3, h4, h5, RcList_frame hrd hokm _ _ h6⟩
          · exact .inr ⟨h1, (hN2 hi hlt').trans h2⟩
        | tab e cs =>
          rcases h0 with ⟨b, d, C, pre, vs, rest, h1, h2, h3, h4, h6⟩ | ⟨h1, h2⟩
          · refine .inl ⟨b, d, C, pre, vs, rest, (hN2 hi hlt').trans h1, (hpB_same (hsame b (hr.mem.own _ _ h1).1 (holdno hi h1))).trans h2, h3, h4, ?_⟩
            have h5 : RList w' (fun b => ok b ∨ okX b) ρ cs vs := RList_frame hrd hokm (fun _ _ x => x) _ _ h6
            exact RList_map2 (fun r j hj => hkp r j hj |>.elim .inl fun h => .inr h.2) _ _ h5
          · exact .inr ⟨by rw [h1]; rfl, (hN2 hi hlt').trans h2⟩
    · rename_i hge
      rw [List.getElem?_map, Option.map_eq_some_iff] at hg
      obtain ⟨g0, hg0, rfl⟩ := hg
      rw [List.getElem?_drop] at hg0
      refine RegOk_map hokx hbk ?_ (hm.reg _ g0 hg0)
      rw [hN3 (by omega), Nat.add_comm]
  have hNcase : ∀ r p, ρN r = some (some p) → (∃ i, ρ' i = some (some p) ∧ (pos π r = some i ∨ (s.rg.length ≤ r ∧ i = r - s.rg.length + π.length))) ∨ (pos π r = none ∧ ρ r = some (some p)) := fun r p h => by
    rcases Nat.lt_or_ge r s.rg.length with h1 | h1
    · cases hp : pos π r with
      | some i => rw [hN1 hp] at h; exact .inl ⟨i, h, .inl rfl⟩
      | none => rw [hN2 hp h1] at h; exact .inr ⟨rfl, h⟩
    · rw [hN3 h1] at h; exact .inl ⟨_, h, .inr ⟨h1, rfl⟩⟩
  have hmix : ∀ {i r p q}, ρ' i = some (some p) → pos π r = none → ρ r = some (some q) → p.b ≠ q.b := fun {i r p q} h1 h2 h3 e => by
    rcases hown i p h1 with h4 | ⟨r0, p0, h4, h5⟩
    · have := (hr.mem.own r q h3).1; omega
    · exact holdno h2 h3 r0 p0 h4 (h5.trans e)
  have hmem : Mem w' (fun b => ok b ∨ okX b) ρN (retRg s π rg 0 s.rg) := by
    refine ⟨fun b hb => ?_, fun r r' p p' h1 h2 h3 => ?_, fun r p h => ?_, hregs, fun r h => ?_⟩
    · rcases hb with hb | hb
      · exact Nat.lt_of_lt_of_le (hr.mem.okl b hb) hsz
      · exact hm.okl b hb
    · rcases hNcase r p h1 with ⟨i, h4, h5⟩ | ⟨h4, h5⟩ <;> rcases hNcase r' p' h2 with ⟨i', h6, h7⟩ | ⟨h6, h7⟩
      · have e := hm.inj i i' p p' h4 h6 h3
        subst e
        rcases h5 with h5 | ⟨h5, h5'⟩ <;> rcases h7 with h7 | ⟨h7, h7'⟩
        · have e1 := pos_get h5; have e2 := pos_get h7
          rw [e1] at e2; exact Option.some.inj e2
        · have := hposlt h5; omega
        · have := hposlt h7; omega
        · omega
      · exact absurd h3 (hmix h4 h6 h7)
      · exact absurd h3.symm (hmix h6 h4 h5)
      · exact hr.mem.inj r r' p p' h5 h7 h3
    · rcases hNcase r p h with ⟨i, h4, _⟩ | ⟨h4, h5⟩
      · refine ⟨(hm.own i p h4).1, fun h6 => ?_⟩
        rcases h6 with h6 | h6
        · rcases hown i p h4 with h7 | ⟨r0, p0, h7, h8⟩
          · have := hr.mem.okl _ h6; omega
          · exact hokno _ h6 r0 p0 h7 h8
        · exact (hm.own i p h4).2 h6
      · have h6 := hr.mem.own r p h5
        refine ⟨Nat.lt_of_lt_of_le h6.1 hsz, fun h7 => ?_⟩
        rcases h7 with h7 | h7
        · exact h6.2 h7
        · rcases hok _ h7 with h8 | h8 | ⟨r0, p0, h8, h9⟩
          · exact h6.2 h8
          · omega
          · exact holdno h4 h5 r0 p0 h8 h9
    · rw [retRg_len] at h
      rw [hN3 (by omega)]
      exact hm.out _ (by omega)
  have hrel : RelM E ⟨mapT (kpM s π) s.tm, retRg s π rg 0 s.rg⟩ a w' ρN (fun b => ok b ∨ okX b) := by
    refine ⟨hmem, fun n => ?_, hr.siz, hr.dfr, ⟨hK.os.trans hr.kps.os, hK.tape.trans hr.kps.tape, hK.output.trans hr.kps.output, Nat.le_trans hr.kps.size hsz, fun k hk hno => ?_⟩, Nat.le_trans hr.bas hsz, fun r p h => ?_, fun b hb => ?_, fun r p h => ?_⟩
    · show R w' _ ρN (look (mapT (kpM s π) s.tm) n) _
      rw [look_map]; exact hold _ _ (hr.tm n)
    · rw [hsame k (Nat.lt_of_lt_of_le hk hr.bas) fun r0 p0 h1 e => ?_]
      · exact hr.kps.block k hk hno
      · unfold pl at h1
        obtain ⟨q, _, h2⟩ := Option.bind_eq_some_iff.1 h1
        rcases hr.ownr q p0 h2 with h3 | h3
        · omega
        · exact hno (e ▸ h3)
    · rcases hNcase r p h with ⟨i, h4, _⟩ | ⟨_, h5⟩
      · rcases hown i p h4 with h7 | ⟨r0, p0, h7, h8⟩
        · left; have := hr.bas; omega
        · unfold pl at h7
          obtain ⟨q, _, h9⟩ := Option.bind_eq_some_iff.1 h7
          rw [← h8]; exact hr.ownr q p0 h9
      · exact hr.ownr r p h5
    · rcases hb with hb | hb
      · exact hr.okr b hb
      · rcases hok b hb with h1 | h1 | ⟨r0, p0, h1, e1⟩
        · exact hr.okr b h1
        · right; left; have := hr.bas; omega
        · unfold pl at h1
          obtain ⟨q, _, h2⟩ := Option.bind_eq_some_iff.1 h1
          rcases hr.ownr q p0 h2 with h3 | h3
          · right; left; rw [← e1]; exact h3
          · right; right; rw [← e1]; exact h3
    · have h1 := hr.pin r p h
      have hlt' : r < s.rg.length := by
        rcases Nat.lt_or_ge r s.rg.length with h2 | h2
        · exact h2
        · rw [hr.mem.out r h2] at h1; cases h1
      cases hp : pos π r with
      | none => rw [hN2 hp hlt']; exact h1
      | some i =>
        rw [hN1 hp]
        have hmemr : r ∈ π := List.mem_of_getElem? (pos_get hp)
        rcases hpin r hmemr with h2 | h2
        · rw [hbox i (by rw [List.getD_eq_getElem?_getD, pos_get hp]; exact h2) (hposlt hp), hpl hp]; exact h1
        · rw [h2] at h; cases h
  unfold retS
  exact hrel.putO hd (R_frame (fun _ _ _ _ h => h) hokx (fun _ _ x => x) _ _ (R_map hbk _ _ hx))
end
end Go.Proofs.Ytoickofcmngdjaa.Aw
