/- A logic of abstract states for walks: every operation. -/
import Derived.Test.YtmkodhpbjedfkaaAwH
import Derived.Laws.Small
import Derived.Laws.StructEq
set_option linter.unusedVariables false
set_option linter.unusedSimpArgs false
namespace Go.Proofs.Ytmkodhpbjedfkaa.Aw
open Go.RowKit

def AOp.mild : AOp → Bool
  | .store .. => false
  | _ => true
/-- The world stays. -/
def AOp.still : AOp → Bool
  | .store .. => false
  | .alloc .. => false
  | .box .. => false
  | .bsl .. => false
  | .mksl .. => false
  | .stb .. => false
  | _ => true

section
variable {P : Program} {E : Env} {s s' : St} {a : Act} {w : World} {ρ : Nat → Option (Option Place)} {ok : Nat → Prop} {ev : Opd → AV} {z : AV}

theorem mk_int {k : IntKind} {n : Int} {v : Value} (h : R w ok ρ (.val (.int k n)) v) : v = .int k n := R_val h

theorem optInt_ok {x : Option Operand} {l : Option Int} (h : optInt ev (x.map Opd.of) = some l) (hev : ∀ y ∈ x, R w ok ρ (ev (.of y)) (a.eval y)) : Bd l (x.map a.eval) := by
  cases x with
  | none => simp only [Option.map_none, optInt, Option.some.injEq] at h; subst h; exact .none
  | some y =>
    simp only [Option.map_some, optInt] at h
    split at h
    · rename_i k n hy
      simp only [Option.some.injEq] at h
      subst h
      have := hev y rfl
      rw [hy] at this
      rw [Option.map_some, R_val this]; exact .some
    · cases h

theorem caps_ok : ∀ (l : List Operand), (∀ y ∈ l, R w ok ρ (ev (.of y)) (a.eval y)) → RList w ok ρ ((l.map Opd.of).map ev) (l.map a.eval)
  | [], _ => by unfold RList; rfl
  | y :: l, h => by
    simp only [List.map_cons]
    unfold RList
    exact ⟨_, _, rfl, h y List.mem_cons_self, caps_ok l fun x hx => h x (List.mem_cons_of_mem _ hx)⟩

theorem rows_parts {sz : Nat} : ∀ (l : List (Nat × Operand)) (k : Nat), l.map (·.1) = (List.range' k l.length) → (∀ y ∈ l, R w ok ρ (ev (.of y.2)) (a.eval y.2)) →
    PartsOk P w ok ρ (fun i => some (i * sz, sz)) (l.map fun p => (p.1, a.eval p.2)) (((l.map fun p => ev (.of p.2)).zipIdx k).map fun p => (p.2 * sz, sz, p.1))
  | [], k, _, _ => .nil
  | (i, y) :: l, k, h, hev => by
    simp only [List.length_cons, List.map_cons, List.range'_succ] at h
    injection h with h1 h2
    subst h1
    simp only [List.map_cons, List.zipIdx_cons]
    exact .cons rfl (hev _ List.mem_cons_self) (rows_parts l (i + 1) h2 fun x hx => hev x (List.mem_cons_of_mem _ hx))

theorem arr_parts {sz : Nat} : ∀ (l : List (Nat × Operand)), (∀ y ∈ l, R w ok ρ (ev (.of y.2)) (a.eval y.2)) →
    PartsOk P w ok ρ (fun i => some (i * sz, sz)) (l.map fun p => (p.1, a.eval p.2)) (l.map fun p => (p.1 * sz, sz, ev (.of p.2)))
  | [], _ => .nil
  | (i, y) :: l, hev => by
    simp only [List.map_cons]
    exact .cons rfl (hev _ List.mem_cons_self) (arr_parts l fun x hx => hev x (List.mem_cons_of_mem _ hx))

theorem equalIn_bool {ty : TypeId} (hu : P.underlying ty = some .bool) (d : Nat) (b c : Bool) {w : World} : (Op.equalIn (d + 1) ty (.bool b) (.bool c)).run P w = .ok (b == c) w := by
  rw [Op.equalIn]
  simp only [Sem.run_bind, run_underlying hu, Result.andThen_ok]; rfl
theorem equalIn_slice {ty e : TypeId} (hu : P.underlying ty = some (.slice e)) (d : Nat) (A : Option Addr) (p q m n : Nat) {w : World} : (Op.equalIn (d + 1) ty (.slice A p q) (.slice none m n)).run P w = .ok A.isNone w := by
  rw [Op.equalIn]
  cases A <;> (simp only [Sem.run_bind, run_underlying hu, Result.andThen_ok]; rfl)
theorem equalIn_ptr {ty e : TypeId} (hu : P.underlying ty = some (.pointer e)) (d : Nat) (A : Option Addr) {w : World} : (Op.equalIn (d + 1) ty (.pointer A) (.pointer none)).run P w = .ok A.isNone w := by
  rw [Op.equalIn]
  cases A <;> (simp only [Sem.run_bind, run_underlying hu, Result.andThen_ok]; rfl)
theorem run_equal_bool {ty : TypeId} (hu : P.underlying ty = some .bool) (b c : Bool) {w : World} : (Op.equal ty (.bool b) (.bool c)).run P w = .ok (b == c) w := equalIn_bool hu 9999 b c
theorem run_equal_slice {ty e : TypeId} (hu : P.underlying ty = some (.slice e)) (A : Option Addr) (p q m n : Nat) {w : World} : (Op.equal ty (.slice A p q) (.slice none m n)).run P w = .ok A.isNone w := equalIn_slice hu 9999 A p q m n
theorem run_equal_ptr {ty e : TypeId} (hu : P.underlying ty = some (.pointer e)) (A : Option Addr) {w : World} : (Op.equal ty (.pointer A) (.pointer none)).run P w = .ok A.isNone w := equalIn_ptr hu 9999 A
/-- A comparison by == or !=, of values that are neither numbers nor strings. -/
def otherKind : Value → Value → Bool
  | .bool _, .bool _ => true
  | .slice .., .slice .. => true
  | .pointer _, .pointer _ => true
  | _, _ => false
theorem run_eq2 {ty : TypeId} {x y : Value} {ox oy : Operand} {b : Bool} (neg : Bool) {w : World} (h : (Op.equal ty x y).run P w = .ok b w) (hk : otherKind x y = true) :
    (do eqGuard (if neg = true then .neq else .eql) ty ox oy x y; binOp (if neg = true then .neq else .eql) ty x y : Sem Value).run P w = .ok (.bool (bif neg then !b else b)) w := by
  unfold otherKind at hk
  split at hk <;> first | (cases hk; done) | skip
  all_goals cases neg <;> simp [eqGuard, binOp, h]

theorem RList_uncons {x : AV} {xs : List AV} {vs : List Value} (h : RList w ok ρ (x :: xs) vs) : ∃ v vs', vs = v :: vs' ∧ R w ok ρ x v ∧ RList w ok ρ xs vs' := by
  unfold RList at h; exact h
theorem drop_one {vs : Array Value} {o : Nat} {v : Value} {l : List Value} (h : vs.toList.drop o = v :: l) : vs[o]? = some v ∧ vs.toList.drop (o + 1) = l := by
  constructor
  · have : (vs.toList.drop o)[0]? = some v := by rw [h]; rfl
    rw [List.getElem?_drop, Array.getElem?_toList] at this
    simpa using this
  · rw [← List.drop_drop, h]; rfl
theorem run_part1 {ty : TypeId} {d : TypeDesc} (hd : P.underlying ty = some d) (hag : isAg d = false) {vs : Array Value} {o : Nat} {v : Value} (h : vs[o]? = some v) (w : World) : (part ty vs o).run P w = .ok v w := by
  simp [part, run_isAgg hd, hag, h]
theorem eqFields_ok {d : Nat} : ∀ {fs : List Field} {o : Nat} {ks : List EK} {xs ys : List AV} {vs us : Array Value} {b : Bool}, eqKinds P o fs = some ks → RList w ok ρ xs (vs.toList.drop o) → RList w ok ρ ys (us.toList.drop o) → eqCells ks xs ys = some b →
    ∀ w', (Op.eqFields (d + 1) vs us fs).run P w' = .ok b w'
  | [], o, ks, xs, ys, vs, us, b, hk, hx, hy, hb, w' => by
    simp only [eqKinds, Option.some.injEq] at hk
    subst hk
    unfold eqCells at hb
    split at hb <;> first | (cases hb; done) | skip
    simp only [Option.some.injEq] at hb; subst hb; rfl
  | f :: fs, o, ks, xs, ys, vs, us, b, hk, hx, hy, hb, w' => by
    unfold eqKinds at hk
    split at hk <;> first | (cases hk; done) | skip
    rename_i hf
    obtain ⟨hf, rfl⟩ := hf
    unfold Op.eqFields
    rw [if_pos hf]
    split at hk <;> first | (cases hk; done) | skip
    · rename_i k0 hu
      simp only [Option.map_eq_some_iff] at hk
      obtain ⟨ks', hk', rfl⟩ := hk
      unfold eqCells at hb
      split at hb <;> first | (cases hb; done) | skip
      rename_i k a xs' k' b' ys'
      split at hb <;> first | (cases hb; done) | skip
      rename_i hkk
      subst hkk
      simp only [Option.map_eq_some_iff] at hb
      obtain ⟨r, hr, rfl⟩ := hb
      obtain ⟨v, l1, e1, r1, m1⟩ := RList_uncons hx
      obtain ⟨u, l2, e2, r2, m2⟩ := RList_uncons hy
      obtain rfl := R_val r1
      obtain rfl := R_val r2
      obtain ⟨g1, g2⟩ := drop_one e1
      obtain ⟨g3, g4⟩ := drop_one e2
      rw [← g2] at m1; rw [← g4] at m2
      have ih := eqFields_ok (d := d) hk' m1 m2 hr
      simp only [Sem.run_bind, run_part1 hu rfl g1, run_part1 hu rfl g3, Result.andThen_ok, run_equalIn_int _ _ _ _ _ _ _ hu]
      cases hab : (a == b') <;> simp [ih]
    · rename_i hu
      simp only [Option.map_eq_some_iff] at hk
      obtain ⟨ks', hk', rfl⟩ := hk
      unfold eqCells at hb
      split at hb <;> first | (cases hb; done) | skip
      rename_i a xs' b' ys'
      simp only [Option.map_eq_some_iff] at hb
      obtain ⟨r, hr, rfl⟩ := hb
      obtain ⟨v, l1, e1, r1, m1⟩ := RList_uncons hx
      obtain ⟨u, l2, e2, r2, m2⟩ := RList_uncons hy
      obtain rfl := R_val r1
      obtain rfl := R_val r2
      obtain ⟨g1, g2⟩ := drop_one e1
      obtain ⟨g3, g4⟩ := drop_one e2
      rw [← g2] at m1; rw [← g4] at m2
      have ih := eqFields_ok (d := d) hk' m1 m2 hr
      simp only [Sem.run_bind, run_part1 hu rfl g1, run_part1 hu rfl g3, Result.andThen_ok, run_equalIn_string _ _ _ _ _ hu]
      cases hab : (a.toList == b'.toList) <;> simp [ih]
    · rename_i hu
      simp only [Option.map_eq_some_iff] at hk
      obtain ⟨ks', hk', rfl⟩ := hk
      unfold eqCells at hb
      split at hb <;> first | (cases hb; done) | skip
      rename_i a xs' b' ys'
      simp only [Option.map_eq_some_iff] at hb
      obtain ⟨r, hr, rfl⟩ := hb
      obtain ⟨v, l1, e1, r1, m1⟩ := RList_uncons hx
      obtain ⟨u, l2, e2, r2, m2⟩ := RList_uncons hy
      obtain rfl := R_val r1
      obtain rfl := R_val r2
      obtain ⟨g1, g2⟩ := drop_one e1
      obtain ⟨g3, g4⟩ := drop_one e2
      rw [← g2] at m1; rw [← g4] at m2
      have ih := eqFields_ok (d := d) hk' m1 m2 hr
      simp only [Sem.run_bind, run_part1 hu rfl g1, run_part1 hu rfl g3, Result.andThen_ok, run_equalIn_bool' _ _ _ _ _ hu]
      cases hab : (a == b') <;> simp [ih]

set_option maxHeartbeats 1000000 in
theorem aop_sound {o : Oper} {ao : AOp} (hc : comp P o = some ao) {ob : Prop} (h : aop ev s ao = some (z, s', ob)) (hob : ob) (hr : RelM E s a w ρ ok)
    (hev : ∀ x ∈ ao.opds, R w ok ρ (ev x) (x.cv a)) : Outc E s' z a w ao.still ao.mild (fun w => (execOp a.eval o).run P w) := by
  have hbad : ∀ f xs, ao ≠ .bad f xs := by rintro f xs rfl; simp [aop] at h
  replace hc := comp0_of hc hbad
  obtain ⟨dst, op, type, pos, after, guard⟩ := o
  have hof : ∀ {x : Operand}, Opd.of x ∈ ao.opds → R w ok ρ (ev (.of x)) (a.eval x) := fun hx => by
    have := hev _ hx; rwa [Opd.cv_of] at this
  cases op <;> simp only [comp0, Option.some.injEq, reduceCtorEq] at hc
  case move x =>
    subst hc
    simp only [aop, Option.some.injEq, Prod.mk.injEq] at h
    obtain ⟨rfl, rfl, rfl⟩ := h
    exact Outc.same hr (fun _ _ => rfl) (hof (by simp [AOp.opds]))
  case assign x =>
    subst hc
    simp only [aop, Option.some.injEq, Prod.mk.injEq] at h
    obtain ⟨rfl, rfl, rfl⟩ := h
    exact Outc.same hr (fun _ _ => rfl) (hof (by simp [AOp.opds]))
  case pick c x y =>
    subst hc
    simp only [aop] at h
    split at h
    · rename_i b hb
      simp only [Option.some.injEq, Prod.mk.injEq] at h
      obtain ⟨rfl, rfl, rfl⟩ := h
      have h1 : R w ok ρ (ev (.of c)) (a.eval c) := hof (by simp [AOp.opds])
      rw [hb] at h1
      have h2 : R w ok ρ (ev (.of x)) (a.eval x) := hof (by simp [AOp.opds])
      have h3 : R w ok ρ (ev (.of y)) (a.eval y) := hof (by simp [AOp.opds])
      refine Outc.same hr (v := bif b then a.eval x else a.eval y) (fun w he => ?_) (pickAV_ok (fun e => R_strip (hob.1 e) h2) (fun e => R_strip (hob.2 e) h3))
      simp only [execOp, R_val h1, asBool]
      cases b <;> rfl
    · cases h
  case binOp op ty x y ty' =>
    split at hc
    · rename_i hu
      have key : ∀ neg : Bool, ao = .beq neg (.of x) (.of y) → op = (if neg then .neq else .eql) → Outc E s' z a w ao.still ao.mild (fun w => (execOp a.eval { dst := dst, op := .binOp op ty x y ty', type := type, pos := pos, after := after, guard := guard }).run P w) := by
        rintro neg rfl rfl
        have h1 : R w ok ρ (ev (.of x)) (a.eval x) := hof (by simp [AOp.opds])
        have h2 : R w ok ρ (ev (.of y)) (a.eval y) := hof (by simp [AOp.opds])
        simp only [aop] at h
        split at h <;> first | (cases h; done) | skip
        rename_i b c hb hc'
        rw [hb] at h1; rw [hc'] at h2
        simp only [Option.some.injEq, Prod.mk.injEq] at h
        obtain ⟨rfl, rfl, rfl⟩ := h
        refine Outc.same hr (v := .bool (bif neg then !(b == c) else (b == c))) (fun w he => ?_) (R_val_mk _)
        simp only [execOp, R_val h1, R_val h2]
        exact run_value (run_eq2 neg (run_equal_bool hu b c) rfl)
      cases op <;> simp only [reduceCtorEq, Option.some.injEq] at hc
      · exact key false hc.symm rfl
      · exact key true hc.symm rfl
    · rename_i e hu
      split at hc <;> first | (cases hc; done) | skip
      rename_i m n
      have key : ∀ (neg : Bool), ao = .nilS neg (.of x) → op = (if neg then .neq else .eql) → Outc E s' z a w ao.still ao.mild (fun w => (execOp a.eval { dst := dst, op := .binOp op ty x (.const (.slice none m n)) ty', type := type, pos := pos, after := after, guard := guard }).run P w) := by
        rintro neg rfl rfl
        have h1 : R w ok ρ (ev (.of x)) (a.eval x) := hof (by simp [AOp.opds])
        simp only [aop] at h
        split at h <;> first | (cases h; done) | skip
        · rename_i b fu sz els hb
          rw [hb] at h1
          simp only [Option.some.injEq, Prod.mk.injEq] at h
          obtain ⟨rfl, rfl, rfl⟩ := h
          unfold R Rc at h1
          obtain ⟨A, c, h2, _, h3, _⟩ := h1
          refine Outc.same hr (v := .bool (bif neg then !b else b)) (fun w he => ?_) (R_val_mk _)
          simp only [execOp, h2]
          have := run_eq2 (P := P) (ox := x) (oy := .const (.slice none m n)) (w := w) neg (run_equal_slice hu A els.length c m n) rfl
          rw [h3 b rfl] at this
          exact run_value this
        · rename_i p q hb
          rw [hb] at h1
          simp only [Option.some.injEq, Prod.mk.injEq] at h
          obtain ⟨rfl, rfl, rfl⟩ := h
          refine Outc.same hr (v := .bool (!neg)) (fun w he => ?_) (R_val_mk _)
          simp only [execOp, R_val h1]
          have := run_eq2 (P := P) (ox := x) (oy := .const (.slice none m n)) (w := w) neg (run_equal_slice hu none p q m n) rfl
          cases neg <;> exact run_value this
      cases op <;> simp only [reduceCtorEq, Option.some.injEq] at hc
      · exact key false hc.symm rfl
      · exact key true hc.symm rfl
    · rename_i e hu
      split at hc <;> first | (cases hc; done) | skip
      have key : ∀ (neg : Bool), ao = .nilP neg (.of x) → op = (if neg then .neq else .eql) → Outc E s' z a w ao.still ao.mild (fun w => (execOp a.eval { dst := dst, op := .binOp op ty x (.const (.pointer none)) ty', type := type, pos := pos, after := after, guard := guard }).run P w) := by
        rintro neg rfl rfl
        have h1 : R w ok ρ (ev (.of x)) (a.eval x) := hof (by simp [AOp.opds])
        simp only [aop] at h
        split at h <;> first | (cases h; done) | skip
        · rename_i hb
          rw [hb] at h1
          simp only [Option.some.injEq, Prod.mk.injEq] at h
          obtain ⟨rfl, rfl, rfl⟩ := h
          refine Outc.same hr (v := .bool (!neg)) (fun w he => ?_) (R_val_mk _)
          simp only [execOp, R_val h1]
          have := run_eq2 (P := P) (ox := x) (oy := .const (.pointer none)) (w := w) neg (run_equal_ptr hu none) rfl
          cases neg <;> exact run_value this
        · rename_i r i o hb
          rw [hb] at h1
          simp only [Option.some.injEq, Prod.mk.injEq] at h
          obtain ⟨rfl, rfl, rfl⟩ := h
          unfold R at h1
          obtain ⟨p, _, h2⟩ := h1
          refine Outc.same hr (v := .bool neg) (fun w he => ?_) (R_val_mk _)
          simp only [execOp, h2]
          have := run_eq2 (P := P) (ox := x) (oy := .const (.pointer none)) (w := w) neg (run_equal_ptr hu (some ⟨p.b, p.d + i * p.sz + o, none⟩)) rfl
          cases neg <;> exact run_value this
        · rename_i cs hb
          rw [hb] at h1
          simp only [Option.some.injEq, Prod.mk.injEq] at h
          obtain ⟨rfl, rfl, rfl⟩ := h
          unfold R Rc at h1
          obtain ⟨b, o, h2, _⟩ := h1
          refine Outc.same hr (v := .bool neg) (fun w he => ?_) (R_val_mk _)
          simp only [execOp, h2]
          have := run_eq2 (P := P) (ox := x) (oy := .const (.pointer none)) (w := w) neg (run_equal_ptr hu (some ⟨b, o, none⟩)) rfl
          cases neg <;> exact run_value this
      cases op <;> simp only [reduceCtorEq, Option.some.injEq] at hc
      · exact key false hc.symm rfl
      · exact key true hc.symm rfl
    · rename_i fs hu
      split at hc <;> first | (cases hc; done) | skip
      rename_i hcond
      split at hc <;> first | (cases hc; done) | skip
      rename_i ks hks
      have hfo : P.underlying ty = some (.struct (P.fieldsOf ty)) := by unfold Program.fieldsOf; rw [hu]
      have hks' : eqKinds P 0 (P.fieldsOf ty).toList = some ks := by unfold Program.fieldsOf; rw [hu]; exact hks
      have key : ∀ (neg : Bool), ao = .aeq neg ks (.of x) (.of y) → op = (if neg then .neq else .eql) → Outc E s' z a w ao.still ao.mild (fun w => (execOp a.eval { dst := dst, op := .binOp op ty x y ty', type := type, pos := pos, after := after, guard := guard }).run P w) := by
        rintro neg rfl rfl
        have h1 : R w ok ρ (ev (.of x)) (a.eval x) := hof (by simp [AOp.opds])
        have h2 : R w ok ρ (ev (.of y)) (a.eval y) := hof (by simp [AOp.opds])
        simp only [aop] at h
        split at h <;> first | (cases h; done) | skip
        rename_i xs ys hxs hys
        rw [hxs] at h1; rw [hys] at h2
        simp only [Option.map_eq_some_iff, Prod.mk.injEq] at h
        obtain ⟨b, hb, rfl, rfl, rfl⟩ := h
        unfold R at h1 h2
        obtain ⟨vs, h3, h4⟩ := h1
        obtain ⟨us, h5, h6⟩ := h2
        refine Outc.same hr (v := .bool (bif neg then !b else b)) (fun w he => ?_) (R_val_mk _)
        simp only [execOp, h3, h5]
        have hrun := eqFields_ok (P := P) (d := 9998) hks' (vs := vs) (us := us) (by simpa using h4) (by simpa using h6) hb w
        cases neg
        · simp only [Bool.false_eq_true, if_false, cond_false]
          refine run_value ?_
          rw [Sem.run_bind, run_eqGuard_agg _ _ _ _ _ _ _ hcond.2, Result.andThen_ok, run_eql_struct, run_equalIn_struct _ 9999 ty vs us hfo hcond.1, hrun]; rfl
        · simp only [if_true, cond_true]
          refine run_value ?_
          rw [Sem.run_bind, run_eqGuard_agg _ _ _ _ _ _ _ hcond.2, Result.andThen_ok, run_neq_struct, run_equalIn_struct _ 9999 ty vs us hfo hcond.1, hrun]; rfl
      cases op <;> simp only [reduceCtorEq, Option.some.injEq] at hc
      · exact key false hc.symm rfl
      · exact key true hc.symm rfl
    · simp only [Option.some.injEq] at hc
      subst hc
      simp only [aop, Option.map_eq_some_iff, Prod.mk.injEq, Prod.exists] at h
      obtain ⟨z', ob', h1, rfl, rfl, rfl⟩ := h
      obtain ⟨v, h2, h3⟩ := binAV_ok (P := P) h1 hob (hof (x := x) (by simp [AOp.opds])) (hof (x := y) (by simp [AOp.opds])) ty x y
      exact Outc.same hr (fun w he => run_value (h2 w)) h3
  case unOp op ty x =>
    subst hc
    simp only [aop] at h
    have h1 : R w ok ρ (ev (.of x)) (a.eval x) := hof (by simp [AOp.opds])
    split at h
    · rename_i b hb
      simp only [Option.some.injEq, Prod.mk.injEq] at h
      obtain ⟨rfl, rfl, rfl⟩ := h
      rw [hb] at h1
      refine Outc.same hr (fun w he => run_value (v := .bool (!b)) ?_) (R_val_mk _)
      rw [R_val h1]; rfl
    · rename_i k n hb
      simp only [Option.some.injEq, Prod.mk.injEq] at h
      obtain ⟨rfl, rfl, rfl⟩ := h
      rw [hb] at h1
      refine Outc.same hr (fun w he => run_value (v := .int k (k.wrap (0 - n))) ?_) (R_val_mk _)
      rw [R_val h1]; rfl
    · cases h
  case load ty p =>
    split at hc
    · rename_i d i hd hi
      simp only [Option.some.injEq] at hc
      subst hc
      simp only [aop, Option.map_eq_some_iff, Prod.mk.injEq, Prod.exists] at h
      obtain ⟨cs, o, ob', h1, rfl, rfl, rfl⟩ := h
      exact snd_load hr hd hi (hof (by simp [AOp.opds])) h1 hob.1 hob.2.1 hob.2.2
    · cases hc
  case store ty p x =>
    split at hc
    · rename_i i hi
      simp only [Option.some.injEq] at hc
      subst hc
      have hp : R w ok ρ (ev (.of p)) (a.eval p) := hof (by simp [AOp.opds])
      have hx : R w ok ρ (ev (.of x)) (a.eval x) := hof (by simp [AOp.opds])
      simp only [aop] at h
      split at h
      · rename_i r j o hpx
        split at h
        · rename_i e cs hg
          simp only [Option.some.injEq, Prod.mk.injEq] at h
          obtain ⟨rfl, rfl, rfl⟩ := h
          exact snd_store hr hi hp hx hpx _ (.inl ⟨e, cs, hg, rfl, hob.1, hob.2.1, hob.2.2.1, hob.2.2.2⟩)
        · rename_i e sz els hg
          simp only [Option.some.injEq, Prod.mk.injEq] at h
          obtain ⟨rfl, rfl, rfl⟩ := h
          exact snd_store hr hi hp hx hpx _ (.inr ⟨e, sz, els, hg, rfl, hob.1, hob.2.1, hob.2.2.1, hob.2.2.2.1, hob.2.2.2.2⟩)
        · cases h
      · cases h
    · cases hc
  case nilCheck x =>
    subst hc
    have h1 : R w ok ρ (ev (.of x)) (a.eval x) := hof (by simp [AOp.opds])
    simp only [aop] at h
    split at h <;> first | (cases h; done) | skip
    · rename_i cs hb
      simp only [Option.some.injEq, Prod.mk.injEq] at h
      obtain ⟨rfl, rfl, rfl⟩ := h
      rw [hb] at h1
      refine Outc.same hr (v := a.eval x) (fun w he => ?_) h1
      unfold R Rc at h1
      obtain ⟨b, o, h2, _⟩ := h1
      simp only [execOp, h2]; rfl
    · rename_i r i o hb
      simp only [Option.some.injEq, Prod.mk.injEq] at h
      obtain ⟨rfl, rfl, rfl⟩ := h
      rw [hb] at h1
      refine Outc.same hr (v := a.eval x) (fun w he => ?_) h1
      unfold R at h1
      obtain ⟨p, _, h2⟩ := h1
      simp only [execOp, h2]; rfl
    · rename_i f caps hb
      simp only [Option.some.injEq, Prod.mk.injEq] at h
      obtain ⟨rfl, rfl, rfl⟩ := h
      rw [hb] at h1
      refine Outc.same hr (v := a.eval x) (fun w he => ?_) h1
      unfold R at h1
      obtain ⟨vs, h2, _⟩ := h1
      simp only [execOp, h2]; rfl
    · rename_i g fs cs hb
      simp only [Option.some.injEq, Prod.mk.injEq] at h
      obtain ⟨rfl, rfl, rfl⟩ := h
      rw [hb] at h1
      refine Outc.same hr (v := a.eval x) (fun w he => ?_) h1
      obtain ⟨f, rfl⟩ := hob
      simp only [execOp, R_val h1]; rfl
  case fieldAddr ty p f =>
    split at hc <;> first | (cases hc; done) | skip
    rename_i fs hd
    split at hc <;> first | (cases hc; done) | skip
    rename_i fd hf
    split at hc <;> first | (cases hc; done) | skip
    rename_i i hi
    split at hc <;> first | (cases hc; done) | skip
    rename_i h0
    simp only [Option.some.injEq] at hc
    subst hc
    have h1 : R w ok ρ (ev (.of p)) (a.eval p) := hof (by simp [AOp.opds])
    simp only [aop] at h
    split at h <;> first | (cases h; done) | skip
    · rename_i cs hb
      simp only [Option.some.injEq, Prod.mk.injEq] at h
      obtain ⟨rfl, rfl, rfl⟩ := h
      exact snd_fld hr hd hf hi h0 h1 (.inl ⟨cs, hb, rfl⟩)
    · rename_i r j o hb
      simp only [Option.some.injEq, Prod.mk.injEq] at h
      obtain ⟨rfl, rfl, rfl⟩ := h
      exact snd_fld hr hd hf hi h0 h1 (.inr ⟨r, j, o, hb, rfl⟩)
  case field ty x f =>
    split at hc <;> first | (cases hc; done) | skip
    rename_i fs hd
    split at hc <;> first | (cases hc; done) | skip
    rename_i fd hf
    split at hc <;> first | (cases hc; done) | skip
    rename_i d i hd' hi
    simp only [Option.some.injEq] at hc
    subst hc
    have h1 : R w ok ρ (ev (.of x)) (a.eval x) := hof (by simp [AOp.opds])
    simp only [aop] at h
    split at h <;> first | (cases h; done) | skip
    rename_i cs hb
    simp only [Option.some.injEq, Prod.mk.injEq] at h
    obtain ⟨rfl, rfl, rfl⟩ := h
    rw [hb] at h1
    exact snd_part hr hd hf hd' hi h1 hob.1 hob.2
  case indexAddr ty x ix =>
    split at hc <;> first | (cases hc; done) | skip
    · rename_i e hd
      split at hc <;> first | (cases hc; done) | skip
      rename_i i hi
      simp only [Option.some.injEq] at hc
      subst hc
      have h1 : R w ok ρ (ev (.of x)) (a.eval x) := hof (by simp [AOp.opds])
      have h2 : R w ok ρ (ev (.of ix)) (a.eval ix) := hof (by simp [AOp.opds])
      simp only [aop] at h
      split at h <;> first | (cases h; done) | skip
      rename_i k n hn
      rw [hn] at h2
      simp only [execOp, R_val h2]
      split at h <;> first | (cases h; done) | skip
      · rename_i nl fu sz' els hb
        cases he : (sz' == i.size) <;> simp only [he, cond_true, cond_false, reduceCtorEq] at h
        obtain rfl : sz' = i.size := by simpa using he
        simp only [Option.some.injEq, Prod.mk.injEq] at h
        obtain ⟨rfl, rfl, rfl⟩ := h
        exact snd_idx hr hd hi h1 (.inl ⟨nl, fu, els, hb, rfl, hob.1, hob.2⟩)
      · rename_i r off m c ex hb
        split at h <;> first | (cases h; done) | skip
        rename_i e' sz' els hg
        cases he : (sz' == i.size) <;> simp only [he, cond_true, cond_false, reduceCtorEq] at h
        obtain rfl : sz' = i.size := by simpa using he
        simp only [Option.some.injEq, Prod.mk.injEq] at h
        obtain ⟨rfl, rfl, rfl⟩ := h
        exact snd_idx hr hd hi h1 (.inr ⟨r, off, m, c, ex, e', els, hb, hg, rfl, hob.1, hob.2⟩)
    · rename_i len e hd
      split at hc <;> first | (cases hc; done) | skip
      rename_i i hi
      simp only [Option.some.injEq] at hc
      subst hc
      have h1 : R w ok ρ (ev (.of x)) (a.eval x) := hof (by simp [AOp.opds])
      have h2 : R w ok ρ (ev (.of ix)) (a.eval ix) := hof (by simp [AOp.opds])
      simp only [aop] at h
      split at h <;> first | (cases h; done) | skip
      rename_i k n hn
      rw [hn] at h2
      simp only [execOp, R_val h2]
      split at h <;> first | (cases h; done) | skip
      · rename_i r j o hb
        simp only [Option.some.injEq, Prod.mk.injEq] at h
        obtain ⟨rfl, rfl, rfl⟩ := h
        exact snd_idxa hr hd hi h1 hob.1 hob.2 (.inr ⟨r, j, o, hb, rfl⟩)
      · rename_i cs hb
        simp only [Option.some.injEq, Prod.mk.injEq] at h
        obtain ⟨rfl, rfl, rfl⟩ := h
        exact snd_idxa hr hd hi h1 hob.1 hob.2 (.inl ⟨cs, hb, rfl⟩)
  case index ty x ix =>
    split at hc <;> first | (cases hc; done) | skip
    · rename_i len e hd
      split at hc <;> first | (cases hc; done) | skip
      rename_i d i hd' hi
      simp only [Option.some.injEq] at hc
      subst hc
      have h1 : R w ok ρ (ev (.of x)) (a.eval x) := hof (by simp [AOp.opds])
      have h2 : R w ok ρ (ev (.of ix)) (a.eval ix) := hof (by simp [AOp.opds])
      simp only [aop] at h
      split at h <;> first | (cases h; done) | skip
      rename_i k n hn
      rw [hn] at h2
      simp only [execOp, R_val h2]
      split at h <;> first | (cases h; done) | skip
      rename_i cs hb
      rw [hb] at h1
      simp only [Option.some.injEq, Prod.mk.injEq] at h
      obtain ⟨rfl, rfl, rfl⟩ := h
      exact snd_idxv hr hd hd' hi h1 hob.1 hob.2.1 hob.2.2.1 hob.2.2.2
    · rename_i hd
      simp only [Option.some.injEq] at hc
      subst hc
      have h1 : R w ok ρ (ev (.of x)) (a.eval x) := hof (by simp [AOp.opds])
      have h2 : R w ok ρ (ev (.of ix)) (a.eval ix) := hof (by simp [AOp.opds])
      simp only [aop] at h
      split at h <;> first | (cases h; done) | skip
      rename_i k n hn
      rw [hn] at h2
      split at h <;> first | (cases h; done) | skip
      rename_i b hb
      rw [hb] at h1
      simp only [execOp, R_val h2, R_val h1]
      simp only [Option.some.injEq, Prod.mk.injEq] at h
      obtain ⟨rfl, rfl, rfl⟩ := h
      exact snd_sidx hr hd hob.1 hob.2
  case alloc e =>
    split at hc <;> first | (cases hc; done) | skip
    rename_i i hi
    split at hc <;> first | (cases hc; done) | skip
    rename_i zv hz
    simp only [Option.some.injEq] at hc
    subst hc
    simp only [aop, Option.some.injEq, Prod.mk.injEq] at h
    obtain ⟨rfl, rfl, rfl⟩ := h
    exact snd_alloc hr hi hz
  case box e x =>
    subst hc
    simp only [aop, Option.some.injEq, Prod.mk.injEq] at h
    obtain ⟨rfl, rfl, rfl⟩ := h
    exact snd_box hr (hof (by simp [AOp.opds])) hob
  case build ty parts =>
    split at hc <;> first | (cases hc; done) | skip
    rename_i i hi
    split at hc <;> first | (cases hc; done) | skip
    rename_i zv hz
    split at hc <;> first | (cases hc; done) | skip
    · rename_i fs hd
      split at hc <;> first | (cases hc; done) | skip
      rename_i hall
      simp only [Option.map_eq_some_iff] at hc
      obtain ⟨l, hl, rfl⟩ := hc
      simp only [aop, Option.some.injEq, Prod.mk.injEq] at h
      obtain ⟨rfl, rfl, rfl⟩ := h
      have hmem : ∀ (ps : List (Nat × Operand)) (qs : List (Nat × Nat × Opd)), partsOf P fs ps = some qs → ∀ y ∈ ps.map (·.2), Opd.of y ∈ qs.map (·.2.2) := by
        intro ps
        induction ps with
        | nil => intro qs _ y hy; cases hy
        | cons p ps ih =>
          intro qs hq y hy
          obtain ⟨i1, x1⟩ := p
          unfold partsOf at hq
          split at hq <;> first | (cases hq; done) | skip
          split at hq <;> first | (cases hq; done) | skip
          split at hq <;> first | (cases hq; done) | skip
          rename_i r1 hr1
          simp only [Option.some.injEq] at hq
          subst hq
          simp only [List.map_cons, List.mem_cons] at hy ⊢
          rcases hy with rfl | hy
          · exact .inl rfl
          · exact .inr (ih _ hr1 y hy)
      have hp := partsOf_ok (P := P) (w := w) (ok := ok) (ρ := ρ) (xs := parts.toList.map (·.2)) ev a.eval (fun x hx => hof (by simpa [AOp.opds] using hmem _ _ hl x hx)) parts.toList l (fun p hp => List.mem_map.2 ⟨p, hp, rfl⟩) hl
      have := snd_build hr hi hz hd (fun fd hfd => by simpa using Array.all_eq_true_iff_forall_mem.1 hall fd hfd) hp hob
      have e : (parts.toList.map fun p => (p.1, a.eval p.2)).toArray = parts.map fun (i, x) => (i, a.eval x) := by
        rw [← Array.toList_map]
      rw [e] at this
      exact this
    · rename_i n e hd
      split at hc <;> first | (cases hc; done) | skip
      rename_i j hj
      simp only [Option.some.injEq] at hc
      subst hc
      simp only [aop, Option.some.injEq, Prod.mk.injEq] at h
      obtain ⟨rfl, rfl, rfl⟩ := h
      have hp := arr_parts (P := P) (w := w) (ok := ok) (ρ := ρ) (ev := ev) (a := a) (sz := j.size) parts.toList (fun y hy => hof (by
        simp only [AOp.opds, List.map_map]
        exact List.mem_map.2 ⟨y, hy, rfl⟩))
      simp only [List.map_map] at hob
      have := snd_builda hr hi hz hd hj hp hob
      have e : (parts.toList.map fun p => (p.1, a.eval p.2)).toArray = parts.map fun (i, x) => (i, a.eval x) := by
        rw [← Array.toList_map]
      rw [e] at this
      simp only [List.map_map]
      exact this
  case buildSlice ty len parts =>
    split at hc <;> first | (cases hc; done) | skip
    rename_i e hd
    split at hc <;> first | (cases hc; done) | skip
    rename_i i hi
    split at hc <;> first | (cases hc; done) | skip
    rename_i hcond
    obtain ⟨hrng, hle, hs, hzs⟩ := hcond
    obtain ⟨zv, hz⟩ := Option.isSome_iff_exists.1 hzs
    simp only [Option.some.injEq] at hc
    subst hc
    simp only [aop, Option.some.injEq, Prod.mk.injEq, List.map_map] at h
    obtain ⟨rfl, rfl, rfl⟩ := h
    have hlen : parts.toList.length = len := by have := congrArg List.length hrng; simpa using this
    have hp := rows_parts (P := P) (w := w) (ok := ok) (ρ := ρ) (ev := ev) (a := a) (sz := i.size) parts.toList 0 (by rw [hrng, hlen, List.range_eq_range']) (fun y hy => hof (by
      simp only [AOp.opds, List.map_map]
      exact List.mem_map.2 ⟨y, hy, rfl⟩))
    have := snd_bsl hr hd hi hle hs hz (xs := parts.toList.map fun p => ev (.of p.2)) (by simpa using hlen) hp (show elsOb i.size (parts.toList.map fun p => ev (.of p.2)) from hob)
    have e : (parts.toList.map fun p => (p.1, a.eval p.2)).toArray = parts.map fun (i, x) => (i, a.eval x) := by
      rw [← Array.toList_map]
    rw [e] at this
    simp only [List.map_map] at this
    exact this
  case makeSlice ty l c =>
    split at hc <;> first | (cases hc; done) | skip
    rename_i e hd
    split at hc <;> first | (cases hc; done) | skip
    rename_i i hi
    split at hc <;> first | (cases hc; done) | skip
    rename_i zv hz
    split at hc <;> first | (cases hc; done) | skip
    rename_i hcond
    simp only [Option.some.injEq] at hc
    subst hc
    have h1 : R w ok ρ (ev (.of l)) (a.eval l) := hof (by simp [AOp.opds])
    have h2 : R w ok ρ (ev (.of c)) (a.eval c) := hof (by simp [AOp.opds])
    simp only [aop] at h
    split at h <;> first | (cases h; done) | skip
    rename_i m n hm hn
    rw [hm] at h1; rw [hn] at h2
    simp only [Option.some.injEq, Prod.mk.injEq] at h
    obtain ⟨rfl, rfl, rfl⟩ := h
    simp only [execOp, R_val h1, R_val h2, hob.1]
    exact snd_mksl hr hd hi hz hcond.1 hob.2.1 hob.2.2.1 hob.2.2.2
  case slice ty x lo hi mx =>
    split at hc <;> first | (cases hc; done) | skip
    · rename_i e hd
      split at hc <;> first | (cases hc; done) | skip
      rename_i i hinf
      simp only [Option.some.injEq] at hc
      subst hc
      have h1 : R w ok ρ (ev (.of x)) (a.eval x) := hof (by simp [AOp.opds])
      simp only [aop] at h
      split at h <;> first | (cases h; done) | skip
      rename_i lo' hi' mx' hlo hhi hmx
      have bl := optInt_ok (w := w) (ok := ok) (ρ := ρ) (a := a) hlo (fun y hy => hof (by cases hy; simp [AOp.opds]))
      have bh := optInt_ok (w := w) (ok := ok) (ρ := ρ) (a := a) hhi (fun y hy => hof (by cases hy; simp [AOp.opds]))
      have bm := optInt_ok (w := w) (ok := ok) (ρ := ρ) (a := a) hmx (fun y hy => hof (by cases hy; simp [AOp.opds]))
      simp only [execOp]
      split at h <;> first | (cases h; done) | skip
      · rename_i nl fu sz' els hb
        rw [hb] at h1
        cases he : (sz' == i.size) <;> simp only [he, cond_true, cond_false, reduceCtorEq] at h
        obtain rfl : sz' = i.size := by simpa using he
        split at h
        · simp only [Option.some.injEq, Prod.mk.injEq] at h
          obtain ⟨rfl, rfl, rfl⟩ := h
          generalize mx.map a.eval = M at *
          cases bm
          exact snd_slc_imm hr hd hinf h1 bl bh hob.1 hob.2.1 hob.2.2 (.inl ⟨rfl, rfl⟩)
        · rename_i m
          simp only [Option.some.injEq, Prod.mk.injEq] at h
          obtain ⟨rfl, rfl, rfl⟩ := h
          generalize mx.map a.eval = M at *
          cases bm
          rename_i km
          refine snd_slc_imm hr hd hinf h1 bl bh hob.2.1 hob.2.2.1 hob.2.2.2.1 (.inr ⟨hob.1, km, ?_⟩)
          rw [hob.2.2.2.2]
      · rename_i r off n k ex hb
        rw [hb] at h1
        split at h <;> first | (cases h; done) | skip
        rename_i e' sz' els hg
        cases he : (sz' == i.size) <;> simp only [he, cond_true, cond_false, reduceCtorEq] at h
        obtain rfl : sz' = i.size := by simpa using he
        split at h
        · simp only [Option.some.injEq, Prod.mk.injEq] at h
          obtain ⟨rfl, rfl, rfl⟩ := h
          generalize mx.map a.eval = M at *
          cases bm
          exact snd_slc_hnd hr hd hinf h1 hg bl bh hob.1 hob.2.1 hob.2.2 (.inl ⟨rfl, rfl⟩)
        · rename_i m
          simp only [Option.some.injEq, Prod.mk.injEq] at h
          obtain ⟨rfl, rfl, rfl⟩ := h
          generalize mx.map a.eval = M at *
          cases bm
          rename_i km
          exact snd_slc_hnd hr hd hinf h1 hg bl bh hob.2.1 hob.2.2.1 hob.2.2.2.1 (.inr ⟨hob.1, km, m, rfl, hob.2.2.2.2.1, hob.2.2.2.2.2, rfl⟩)
      · rename_i hb
        rw [hb] at h1
        simp only [Option.some.injEq, Prod.mk.injEq] at h
        obtain ⟨rfl, rfl, rfl⟩ := h
        rw [R_val h1]
        exact snd_slc_nil hr hd hinf bl bh bm hob.1 hob.2.1 hob.2.2.1 hob.2.2.2
    · rename_i hd
      split at hc <;> first | (cases hc; done) | skip
      rename_i hmx
      simp only [Option.some.injEq] at hc
      subst hc
      have h1 : R w ok ρ (ev (.of x)) (a.eval x) := hof (by simp [AOp.opds])
      simp only [aop] at h
      split at h <;> first | (cases h; done) | skip
      rename_i lo' hi' hlo hhi
      have bl := optInt_ok (w := w) (ok := ok) (ρ := ρ) (a := a) hlo (fun y hy => hof (by cases hy; simp [AOp.opds]))
      have bh := optInt_ok (w := w) (ok := ok) (ρ := ρ) (a := a) hhi (fun y hy => hof (by cases hy; simp [AOp.opds]))
      split at h <;> first | (cases h; done) | skip
      rename_i b hb
      rw [hb] at h1
      simp only [Option.some.injEq, Prod.mk.injEq] at h
      obtain ⟨rfl, rfl, rfl⟩ := h
      cases mx with
      | some y => simp at hmx
      | none =>
        simp only [execOp, R_val h1, Option.map_none]
        exact snd_slcs hr hd bl bh hob.1 hob.2.1 hob.2.2
  case extract x i =>
    subst hc
    have h1 : R w ok ρ (ev (.of x)) (a.eval x) := hof (by simp [AOp.opds])
    simp only [aop] at h
    split at h <;> first | (cases h; done) | skip
    rename_i cs hb
    rw [hb] at h1
    simp only [Option.some.injEq, Prod.mk.injEq] at h
    obtain ⟨rfl, rfl, rfl⟩ := h
    obtain ⟨vs, h2, h3⟩ := R_tup h1
    obtain ⟨u, h4, h5⟩ := RList_get h3 i (cs.getD i .any) (by rw [List.getD_eq_getElem?_getD, List.getElem?_eq_getElem hob]; rfl)
    refine Outc.same hr (fun w he => run_value (v := u) ?_) h5
    rw [h2]
    rw [Array.getElem?_toList] at h4
    simp [Instr.extract, h4]
  case makeFunc fn first caps =>
    cases fn <;> simp only [reduceCtorEq] at hc
    rename_i f
    split at hc <;> first | (cases hc; done) | skip
    rename_i hemp
    simp only [Option.some.injEq] at hc
    subst hc
    simp only [aop, Option.some.injEq, Prod.mk.injEq] at h
    obtain ⟨rfl, rfl, rfl⟩ := h
    obtain rfl : first = #[] := by simpa using hemp
    refine Outc.same hr (fun w he => run_value (v := .func (.func f) #[] (caps.map a.eval)) ?_) ?_
    · simp [Instr.makeFunc]
    · unfold R
      refine ⟨_, rfl, ?_⟩
      have := caps_ok (w := w) (ok := ok) (ρ := ρ) (ev := ev) (a := a) caps.toList (fun y hy => hof (by simp only [AOp.opds]; exact List.mem_map.2 ⟨y, hy, rfl⟩))
      rwa [Array.toList_map]
  case convert src dst x =>
    split at hc <;> first | (cases hc; done) | skip
    · rename_i k' k hs hd
      simp only [Option.some.injEq] at hc
      subst hc
      have h1 : R w ok ρ (ev (.of x)) (a.eval x) := hof (by simp [AOp.opds])
      simp only [aop] at h
      split at h <;> first | (cases h; done) | skip
      rename_i k'' n hb
      rw [hb] at h1
      simp only [Option.some.injEq, Prod.mk.injEq] at h
      obtain ⟨rfl, rfl, rfl⟩ := h
      refine Outc.same hr (fun w he => run_value (v := .int k (k.wrap n)) ?_) (R_val_mk _)
      simp only [R_val h1, convert, Sem.run_bind, run_underlying hs, run_underlying hd, Result.andThen_ok, Conv.intToInt]
      rfl
    · rename_i e hs hd
      split at hc <;> first | (cases hc; done) | skip
      rename_i he
      simp only [Option.some.injEq] at hc
      subst hc
      have h1 : R w ok ρ (ev (.of x)) (a.eval x) := hof (by simp [AOp.opds])
      simp only [aop] at h
      split at h <;> first | (cases h; done) | skip
      rename_i b hb
      rw [hb] at h1
      simp only [Option.some.injEq, Prod.mk.injEq] at h
      obtain ⟨rfl, rfl, rfl⟩ := h
      simp only [execOp, R_val h1]
      exact snd_stb hr hs hd he
  case call c =>
    obtain ⟨callee, args, argTypes⟩ := c
    dsimp only at hc
    cases callee with
    | invoke r m => simp only [reduceCtorEq] at hc
    | value f =>
      cases f with
      | func f =>
        dsimp only at hc
        split at hc <;> first | (cases hc; done) | skip
        split at hc <;> first | (cases hc; done) | skip
        simp only [Option.some.injEq] at hc
        subst hc
        simp only [aop, reduceCtorEq] at h
      | _ =>
        simp only [Option.some.injEq] at hc
        subst hc
        simp only [aop, reduceCtorEq] at h
    | builtin b =>
      cases b <;> simp only [reduceCtorEq] at hc
      case append =>
        (repeat' (split at hc)) <;> first | (cases hc; done) | skip
        all_goals
          simp only [Option.some.injEq] at hc
          subst hc
          simp only [aop, reduceCtorEq] at h
      case clear =>
        (repeat' (split at hc)) <;> first | (cases hc; done) | skip
        all_goals
          simp only [Option.some.injEq] at hc
          subst hc
          simp only [aop, reduceCtorEq] at h
      case cap =>
        split at hc <;> first | (cases hc; done) | skip
        rename_i x ty ha ht
        obtain ⟨args⟩ := args
        obtain ⟨argTypes⟩ := argTypes
        simp only at ha ht
        subst ha ht
        have hexec : ∀ (v : Value) (w : World), (Builtin.cap_ #[ty] type #[a.eval x]).run P w = .ok v w → (execOp a.eval { dst := dst, op := .call { callee := .builtin .cap, args := #[x], argTypes := #[ty] }, type := type, pos := pos, after := after, guard := guard }).run P w = .ok (.value v) w := fun v w hv => by
          simp only [execOp, resolve, Sem.run_bind, Sem.run_pure, Result.andThen_ok, invoke, builtin]
          have : (#[x] : Array Operand).map a.eval = #[a.eval x] := by simp
          rw [this]
          simp [hv]
        split at hc <;> first | (cases hc; done) | skip
        rename_i e hu
        simp only [Option.some.injEq] at hc
        subst hc
        have h1 : R w ok ρ (ev (.of x)) (a.eval x) := hof (by simp [AOp.opds])
        simp only [aop] at h
        split at h <;> first | (cases h; done) | skip
        · rename_i nl sz els hb
          rw [hb] at h1
          simp only [Option.some.injEq, Prod.mk.injEq] at h
          obtain ⟨rfl, rfl, rfl⟩ := h
          refine Outc.same hr (fun w he => hexec _ w ?_) (R_val_mk _)
          unfold R Rc at h1
          obtain ⟨A, c, h2, _, _, _, h3, _⟩ := h1
          rw [h2, h3 rfl]
          simp [Builtin.cap_, run_underlying hu, goInt]
        · rename_i r off n k hb
          rw [hb] at h1
          simp only [Option.some.injEq, Prod.mk.injEq] at h
          obtain ⟨rfl, rfl, rfl⟩ := h
          refine Outc.same hr (fun w he => hexec _ w ?_) (R_val_mk _)
          unfold R at h1
          rcases h1 with ⟨p, cc, ad, _, h2, _, _, _, _, h3⟩ | ⟨_, h2, _, _, h3⟩
          · rw [h2, h3 rfl]; simp [Builtin.cap_, run_underlying hu, goInt]
          · rw [h2, h3]; simp [Builtin.cap_, run_underlying hu, goInt]
        · rename_i hb
          rw [hb] at h1
          simp only [Option.some.injEq, Prod.mk.injEq] at h
          obtain ⟨rfl, rfl, rfl⟩ := h
          refine Outc.same hr (fun w he => hexec _ w ?_) (R_val_mk _)
          rw [R_val h1]; simp [Builtin.cap_, run_underlying hu, goInt]
      case copy =>
        split at hc <;> first | (cases hc; done) | skip
        split at hc <;> first | (cases hc; done) | skip
        split at hc <;> first | (cases hc; done) | skip
        simp only [Option.some.injEq] at hc
        subst hc
        simp only [aop, reduceCtorEq] at h
      case len =>
        split at hc <;> first | (cases hc; done) | skip
        rename_i x ty ha ht
        obtain ⟨args⟩ := args
        obtain ⟨argTypes⟩ := argTypes
        simp only at ha ht
        subst ha ht
        have hexec : ∀ (v : Value) (w : World), (Builtin.len_ #[ty] type #[a.eval x]).run P w = .ok v w → (execOp a.eval { dst := dst, op := .call { callee := .builtin .len, args := #[x], argTypes := #[ty] }, type := type, pos := pos, after := after, guard := guard }).run P w = .ok (.value v) w := fun v w hv => by
          simp only [execOp, resolve, Sem.run_bind, Sem.run_pure, Result.andThen_ok, invoke, builtin]
          have : (#[x] : Array Operand).map a.eval = #[a.eval x] := by simp
          rw [this]
          simp [hv]
        split at hc <;> first | (cases hc; done) | skip
        · rename_i hu
          simp only [Option.some.injEq] at hc
          subst hc
          have h1 : R w ok ρ (ev (.of x)) (a.eval x) := hof (by simp [AOp.opds])
          simp only [aop] at h
          split at h <;> first | (cases h; done) | skip
          rename_i b hb
          rw [hb] at h1
          simp only [Option.some.injEq, Prod.mk.injEq] at h
          obtain ⟨rfl, rfl, rfl⟩ := h
          refine Outc.same hr (fun w he => hexec _ w ?_) (R_val_mk _)
          rw [R_val h1]
          simp [Builtin.len_, run_underlying hu, goInt]
        · rename_i e hu
          simp only [Option.some.injEq] at hc
          subst hc
          have h1 : R w ok ρ (ev (.of x)) (a.eval x) := hof (by simp [AOp.opds])
          simp only [aop] at h
          split at h <;> first | (cases h; done) | skip
          · rename_i nl fu sz els hb
            rw [hb] at h1
            simp only [Option.some.injEq, Prod.mk.injEq] at h
            obtain ⟨rfl, rfl, rfl⟩ := h
            refine Outc.same hr (fun w he => hexec _ w ?_) (R_val_mk _)
            unfold R Rc at h1
            obtain ⟨A, c, h2, _⟩ := h1
            rw [h2]
            simp [Builtin.len_, run_underlying hu, goInt]
          · rename_i r off n k ex hb
            rw [hb] at h1
            simp only [Option.some.injEq, Prod.mk.injEq] at h
            obtain ⟨rfl, rfl, rfl⟩ := h
            refine Outc.same hr (fun w he => hexec _ w ?_) (R_val_mk _)
            unfold R at h1
            rcases h1 with ⟨p, cc, ad, _, h2, _⟩ | ⟨_, h2, _, h3, _⟩
            · rw [h2]; simp [Builtin.len_, run_underlying hu, goInt]
            · rw [h2, h3]; simp [Builtin.len_, run_underlying hu, goInt]
          · rename_i A n c hb
            rw [hb] at h1
            simp only [Option.some.injEq, Prod.mk.injEq] at h
            obtain ⟨rfl, rfl, rfl⟩ := h
            refine Outc.same hr (fun w he => hexec _ w ?_) (R_val_mk _)
            rw [R_val h1]; simp [Builtin.len_, run_underlying hu, goInt]
      case max =>
        split at hc <;> first | (cases hc; done) | skip
        rename_i x y ha
        obtain ⟨args⟩ := args
        simp only at ha
        subst ha
        simp only [Option.some.injEq] at hc
        subst hc
        have h1 : R w ok ρ (ev (.of x)) (a.eval x) := hof (by simp [AOp.opds])
        have h2 : R w ok ρ (ev (.of y)) (a.eval y) := hof (by simp [AOp.opds])
        simp only [aop] at h
        split at h <;> first | (cases h; done) | skip
        rename_i k m k' n hm hn
        rw [hm] at h1; rw [hn] at h2
        simp only [Option.some.injEq, Prod.mk.injEq] at h
        obtain ⟨rfl, rfl, rfl⟩ := h
        refine Outc.same hr (v := .int k (max m n)) (fun w he => ?_) (R_val_mk _)
        simp only [execOp, resolve, Sem.run_bind, Sem.run_pure, Result.andThen_ok, invoke, builtin]
        have : (#[x, y] : Array Operand).map a.eval = #[a.eval x, a.eval y] := by simp
        rw [this, R_val h1, R_val h2]
        have hmx : (if n > m then n else m) = max m n := by split <;> omega
        simp [Builtin.max_, Builtin.max2, ← hmx]
      case min =>
        split at hc <;> first | (cases hc; done) | skip
        rename_i x y ha
        obtain ⟨args⟩ := args
        simp only at ha
        subst ha
        simp only [Option.some.injEq] at hc
        subst hc
        have h1 : R w ok ρ (ev (.of x)) (a.eval x) := hof (by simp [AOp.opds])
        have h2 : R w ok ρ (ev (.of y)) (a.eval y) := hof (by simp [AOp.opds])
        simp only [aop] at h
        split at h <;> first | (cases h; done) | skip
        rename_i k m k' n hm hn
        rw [hm] at h1; rw [hn] at h2
        simp only [Option.some.injEq, Prod.mk.injEq] at h
        obtain ⟨rfl, rfl, rfl⟩ := h
        refine Outc.same hr (v := .int k (min m n)) (fun w he => ?_) (R_val_mk _)
        simp only [execOp, resolve, Sem.run_bind, Sem.run_pure, Result.andThen_ok, invoke, builtin]
        have : (#[x, y] : Array Operand).map a.eval = #[a.eval x, a.eval y] := by simp
        rw [this, R_val h1, R_val h2]
        have hmn : (if n < m then n else m) = min m n := by split <;> omega
        simp [Builtin.min_, Builtin.min2, ← hmn]
end
end Go.Proofs.Ytmkodhpbjedfkaa.Aw
