/- A logic of abstract states for walks: states, and what writes and new blocks do to them. -/
import Derived.Test.YtmkodhpbjedfkaaAwA
set_option linter.unusedVariables false
set_option linter.unusedSimpArgs false
namespace Go.Proofs.Ytmkodhpbjedfkaa.Aw
open Go.RowKit

/-- An operand without a program's numbers. -/
inductive Opd where
  | t (n : Nat)
  | v (x : Value)
  deriving Inhabited

def Opd.of : Operand → Opd
  | .tmp i => .t i
  | .const x => .v x
  | .global g => .v (.pointer (some ⟨g, 0, none⟩))
  | .func f => .v (.func (.func f) #[] #[])

structure St where
  tm : List (Nat × AV)
  rg : List Reg
  deriving Inhabited

def look : List (Nat × AV) → Nat → AV
  | [], _ => .any
  | (i, x) :: l, n => bif i == n then x else look l n
def putTm (l : List (Nat × AV)) (n : Nat) (x : AV) : List (Nat × AV) := (n, x) :: l
def St.ev (s : St) : Opd → AV
  | .t n => look s.tm n
  | .v x => .val x
def St.put (s : St) (n : Nat) (x : AV) : St := { s with tm := putTm s.tm n x }
def Opd.cv (a : Act) : Opd → Value
  | .t n => a.tmps.getD n undef
  | .v x => x
theorem Opd.cv_of (a : Act) (x : Operand) : (Opd.of x).cv a = a.eval x := by cases x <;> rfl

theorem look_mem : ∀ {l : List (Nat × AV)} {n : Nat}, look l n = .any ∨ (n, look l n) ∈ l
  | [], n => .inl rfl
  | (i, x) :: l, n => by
    unfold look
    cases h : (i == n)
    · simp only [cond_false]
      rcases look_mem (l := l) (n := n) with h1 | h1
      · exact .inl h1
      · exact .inr (List.mem_cons_of_mem _ h1)
    · simp only [cond_true]
      obtain rfl : i = n := by simpa using h
      exact .inr List.mem_cons_self
structure Env where
  base : Nat
  O0 : Nat → Prop
  okE : Nat → Prop
  w0 : World
  pin : Nat → Option Place
  n : Nat
  np : Nat

structure Keeps (base : Nat) (O0 : Nat → Prop) (w0 w : World) : Prop where
  os : w.os = w0.os
  tape : w.tape = w0.tape
  output : w.output = w0.output
  size : w0.heap.size ≤ w.heap.size
  block : ∀ k, k < base → ¬ O0 k → w.heap[k]? = w0.heap[k]?

structure RelM (E : Env) (s : St) (a : Act) (w : World) (ρ : Nat → Option (Option Place)) (ok : Nat → Prop) : Prop where
  mem : Mem w ok ρ s.rg
  tm : ∀ n, R w ok ρ (look s.tm n) (a.tmps.getD n undef)
  siz : a.tmps.size = E.n
  dfr : a.defers = []
  kps : Keeps E.base E.O0 E.w0 w
  bas : E.base ≤ w.heap.size
  ownr : ∀ r p, ρ r = some (some p) → E.base ≤ p.b ∨ E.O0 p.b
  okr : ∀ b, ok b → E.okE b ∨ E.base ≤ b ∨ E.O0 b
  pin : ∀ r p, E.pin r = some p → ρ r = some (some p)

def Rel (E : Env) (s : St) (a : Act) (w : World) : Prop := ∃ ρ ok, RelM E s a w ρ ok

theorem look_put (l : List (Nat × AV)) (n m : Nat) (x : AV) : look (putTm l n x) m = if m = n then x else look l m := by
  unfold putTm
  rw [look]
  cases hi : (n == m)
  · have e1 : n ≠ m := by simpa using hi
    rw [cond_false, if_neg (Ne.symm e1)]
  · have e1 : n = m := by simpa using hi
    rw [cond_true, if_pos e1.symm]

theorem RelM.ev {E : Env} {s : St} {a : Act} {w : World} {ρ ok} (h : RelM E s a w ρ ok) (x : Opd) : R w ok ρ (s.ev x) (x.cv a) := by
  cases x with
  | t n => exact h.tm n
  | v x => unfold St.ev Opd.cv R; rfl

theorem RelM.put {E : Env} {s : St} {a : Act} {w : World} {ρ ok} (h : RelM E s a w ρ ok) {d : Nat} (hd : d < E.n) {x : AV} {v : Value} (hx : R w ok ρ x v) :
    RelM E (s.put d x) (a.put (some d) v) w ρ ok := by
  refine ⟨h.mem, fun n => ?_, by simpa [Act.put] using h.siz, h.dfr, h.kps, h.bas, h.ownr, h.okr, h.pin⟩
  show R w ok ρ (look (putTm s.tm d x) n) _
  rw [look_put]
  by_cases e : n = d
  · subst e
    rw [if_pos rfl]
    have : (a.put (some n) v).tmps.getD n undef = v := by
      have := h.siz
      simp [Act.put, Array.getD, show n < a.tmps.size by omega]
    rw [this]; exact hx
  · rw [if_neg e]
    have : (a.put (some d) v).tmps.getD n undef = a.tmps.getD n undef := by
      simp [Act.put, Array.getD_eq_getD_getElem?, Array.getElem?_setIfInBounds_ne (Ne.symm e)]
    rw [this]; exact h.tm n

/-! ### Worlds -/
theorem cell_of {w : World} {b o : Nat} {C : Array Value} {e : TypeId} {fr : Nat × Nat} (h : w.heap[b]? = some (.cells C e fr)) : w.cell? ⟨b, o, none⟩ = C[o]? := by
  simp [World.cell?, h]
theorem cell_same {w w' : World} {b o : Nat} (h : w'.heap[b]? = w.heap[b]?) : w'.cell? ⟨b, o, none⟩ = w.cell? ⟨b, o, none⟩ := by
  simp [World.cell?, h]
theorem Reads.of_same {ok : Nat → Prop} {w w' : World} (h : ∀ b, ok b → w'.heap[b]? = w.heap[b]?) : Reads ok w w' :=
  fun b o v hb hc => by rw [cell_same (h b hb)]; exact hc

/-- Region r's block turns; nothing else does. -/
theorem Mem.write {w w' : World} {ok ρ} {rg : List Reg} (h : Mem w ok ρ rg) {r : Nat} {p : Place} (hp : ρ r = some (some p)) (hs : w'.heap.size = w.heap.size)
    (hb : ∀ k, k ≠ p.b → w'.heap[k]? = w.heap[k]?) {g' : Reg} (hg : RegOk w' ok ρ r g') : Mem w' ok ρ (rg.set r g') := by
  have hr : Reads ok w w' := Reads.of_same fun b hb' => hb b fun e => (h.own r p hp).2 (e ▸ hb')
  refine ⟨fun b hb' => by rw [hs]; exact h.okl b hb', h.inj, fun r' p' hp' => by rw [hs]; exact h.own r' p' hp', fun r' g hg' => ?_, fun r' hr' => h.out r' (by simpa using hr')⟩
  by_cases e : r' = r
  · subst e
    rw [List.getElem?_set] at hg'
    simp only [if_true] at hg'
    split at hg'
    · obtain rfl : g' = g := by simpa using hg'
      exact hg
    · simp at hg'
  · rw [List.getElem?_set_ne (Ne.symm e)] at hg'
    have h0 := h.reg r' g hg'
    cases g with
    | dead => exact h0
    | box e' cs =>
      obtain ⟨b, C, h1, h2, h3⟩ := h0
      have hne : b ≠ p.b := fun e2 => e (h.inj _ _ _ _ h1 hp e2)
      exact ⟨b, C, h1, by rw [hb b hne]; exact h2, RList_frame hr (fun _ x => x) (fun _ _ x => x) _ _ h3⟩
    | arr e' sz els =>
      rcases h0 with ⟨b, d, C, pre, vs, rest, h1, h2, h3, h4, h5, h6⟩ | h0
      · have hne : b ≠ p.b := fun e2 => e (h.inj _ _ _ _ h1 hp e2)
        exact .inl ⟨b, d, C, pre, vs, rest, h1, by rw [hb b hne]; exact h2, h3, h4, h5, RcList_frame hr (fun _ x => x) _ _ h6⟩
      · exact .inr h0

/-- Every block stays; there may be new ones. -/
structure Ext (w w' : World) : Prop where
  os : w'.os = w.os
  tape : w'.tape = w.tape
  output : w'.output = w.output
  size : w.heap.size ≤ w'.heap.size
  block : ∀ k, k < w.heap.size → w'.heap[k]? = w.heap[k]?
theorem Ext.refl (w : World) : Ext w w := ⟨rfl, rfl, rfl, Nat.le_refl _, fun _ _ => rfl⟩
theorem Ext.trans {a b c : World} (h : Ext a b) (k : Ext b c) : Ext a c :=
  ⟨k.os.trans h.os, k.tape.trans h.tape, k.output.trans h.output, Nat.le_trans h.size k.size, fun i hi => (k.block i (Nat.lt_of_lt_of_le hi h.size)).trans (h.block i hi)⟩
theorem Ext.below {w w' : World} (h : Below w.heap.size w w') : Ext w w' := ⟨h.os, h.tape, h.output, h.size, h.block⟩
theorem Ext.push (w : World) (o : Obj) : Ext w { w with heap := w.heap.push o } :=
  ⟨rfl, rfl, rfl, by simp, fun k hk => by simp [Array.getElem?_push]; omega⟩
theorem Ext.drawn (w : World) (n : Nat) : Ext w { w with drawn := n } := ⟨rfl, rfl, rfl, Nat.le_refl _, fun _ _ => rfl⟩
theorem Ext.reads {w w' : World} (h : Ext w w') {ok : Nat → Prop} (hk : ∀ b, ok b → b < w.heap.size) : Reads ok w w' := Reads.of_same fun b hb => h.block b (hk b hb)

theorem Mem.ext {w w' : World} {ok ρ} {rg : List Reg} (h : Mem w ok ρ rg) (he : Ext w w') : Mem w' ok ρ rg := by
  have hr := he.reads h.okl
  refine ⟨fun b hb => Nat.lt_of_lt_of_le (h.okl b hb) he.size, h.inj, fun r p hp => ⟨Nat.lt_of_lt_of_le (h.own r p hp).1 he.size, (h.own r p hp).2⟩, fun r g hg => ?_, h.out⟩
  have h0 := h.reg r g hg
  cases g with
  | dead => exact h0
  | box e' cs =>
    obtain ⟨b, C, h1, h2, h3⟩ := h0
    exact ⟨b, C, h1, by rw [he.block b (h.own _ _ h1).1]; exact h2, RList_frame hr (fun _ x => x) (fun _ _ x => x) _ _ h3⟩
  | arr e' sz els =>
    rcases h0 with ⟨b, d, C, pre, vs, rest, h1, h2, h3, h4, h5, h6⟩ | h0
    · exact .inl ⟨b, d, C, pre, vs, rest, h1, by rw [he.block b (h.own _ _ h1).1]; exact h2, h3, h4, h5, RcList_frame hr (fun _ x => x) _ _ h6⟩
    · exact .inr h0

/-- A place more. -/
def addPl (ρ : Nat → Option (Option Place)) (r : Nat) (p : Option Place) : Nat → Option (Option Place) := fun k => if k = r then some p else ρ k
theorem addPl_old {ρ : Nat → Option (Option Place)} {n : Nat} (hn : ρ n = none) (p : Option Place) : ∀ r q, ρ r = some q → addPl ρ n p r = some q := fun r q h => by
  unfold addPl
  by_cases e : r = n
  · subst e; rw [hn] at h; cases h
  · rw [if_neg e]; exact h

/-- A new region, its block new. -/
theorem Mem.alloc {w w' : World} {ok ρ} {rg : List Reg} (h : Mem w ok ρ rg) (he : Ext w w') {p : Place} (hp : p.b = w.heap.size) (hs : w.heap.size < w'.heap.size) {g : Reg}
    (hg : RegOk w' ok (addPl ρ rg.length (some p)) rg.length g) : Mem w' ok (addPl ρ rg.length (some p)) (rg ++ [g]) := by
  have hn := h.out rg.length (Nat.le_refl _)
  have hold := addPl_old hn (some p)
  have h' := h.ext he
  have hr := he.reads h.okl
  refine ⟨h'.okl, fun r r' q q' h1 h2 h3 => ?_, fun r q hq => ?_, fun r g' hg' => ?_, fun r hr' => ?_⟩
  · unfold addPl at h1 h2
    by_cases e1 : r = rg.length <;> by_cases e2 : r' = rg.length
    · rw [e1, e2]
    · rw [if_pos e1] at h1; rw [if_neg e2] at h2
      injection h1 with h1; injection h1 with h1
      have := (h.own r' q' h2).1
      rw [← h3, ← h1, hp] at this; omega
    · rw [if_neg e1] at h1; rw [if_pos e2] at h2
      injection h2 with h2; injection h2 with h2
      have := (h.own r q h1).1
      rw [h3, ← h2, hp] at this; omega
    · rw [if_neg e1] at h1; rw [if_neg e2] at h2
      exact h.inj r r' q q' h1 h2 h3
  · unfold addPl at hq
    by_cases e1 : r = rg.length
    · rw [if_pos e1] at hq
      injection hq with hq; injection hq with hq
      rw [← hq, hp]
      exact ⟨hs, fun hk => by have := h.okl _ hk; omega⟩
    · rw [if_neg e1] at hq; exact h'.own r q hq
  · by_cases e1 : r = rg.length
    · subst e1
      obtain rfl : g = g' := by simpa using hg'
      exact hg
    · have hlt : r < rg.length := by
        have := (List.getElem?_eq_some_iff.1 hg').1
        simp at this; omega
      rw [List.getElem?_append_left hlt] at hg'
      have h0 := h'.reg r g' hg'
      have hρr : addPl ρ rg.length (some p) r = ρ r := by unfold addPl; rw [if_neg e1]
      cases g' with
      | dead => exact hρr.trans h0
      | box e' cs =>
        obtain ⟨b, C, h1, h2, h3⟩ := h0
        exact ⟨b, C, hρr.trans h1, h2, RList_frame (fun _ _ _ _ x => x) (fun _ x => x) hold _ _ h3⟩
      | arr e' sz els =>
        rcases h0 with ⟨b, d, C, pre, vs, rest, h1, h2⟩ | ⟨h0, h1⟩
        · exact .inl ⟨b, d, C, pre, vs, rest, hρr.trans h1, h2⟩
        · exact .inr ⟨h0, hρr.trans h1⟩
  · unfold addPl
    have : rg.length + 1 ≤ r := by simpa using hr'
    rw [if_neg (by omega)]
    exact h.out r (by omega)

theorem Keeps.ext {base : Nat} {O0 : Nat → Prop} {w0 w w' : World} (h : Keeps base O0 w0 w) (hb : base ≤ w.heap.size) (he : Ext w w') : Keeps base O0 w0 w' :=
  ⟨he.os.trans h.os, he.tape.trans h.tape, he.output.trans h.output, Nat.le_trans h.size he.size, fun k hk ho => (he.block k (Nat.lt_of_lt_of_le hk hb)).trans (h.block k hk ho)⟩

theorem RelM.ext {E : Env} {s : St} {a : Act} {w w' : World} {ρ ok} (h : RelM E s a w ρ ok) (he : Ext w w') : RelM E s a w' ρ ok :=
  ⟨h.mem.ext he, fun n => R_frame (he.reads h.mem.okl) (fun _ x => x) (fun _ _ x => x) _ _ (h.tm n), h.siz, h.dfr, h.kps.ext h.bas he, Nat.le_trans h.bas he.size, h.ownr, h.okr, h.pin⟩

/-- The state behind a new region. -/
theorem RelM.alloc {E : Env} {s : St} {a : Act} {w w' : World} {ρ ok} (h : RelM E s a w ρ ok) (he : Ext w w') {p : Place} (hp : p.b = w.heap.size) (hs : w.heap.size < w'.heap.size) {g : Reg}
    (hg : RegOk w' ok (addPl ρ s.rg.length (some p)) s.rg.length g) : RelM E { s with rg := s.rg ++ [g] } a w' (addPl ρ s.rg.length (some p)) ok := by
  have hn := h.mem.out s.rg.length (Nat.le_refl _)
  have hold := addPl_old hn (some p)
  refine ⟨h.mem.alloc he hp hs hg, fun n => R_frame (he.reads h.mem.okl) (fun _ x => x) hold _ _ (h.tm n), h.siz, h.dfr, h.kps.ext h.bas he, Nat.le_trans h.bas he.size, fun r q hq => ?_, h.okr, fun r q hq => hold _ _ (h.pin r q hq)⟩
  unfold addPl at hq
  by_cases e1 : r = s.rg.length
  · rw [if_pos e1] at hq
    injection hq with hq; injection hq with hq
    rw [← hq, hp]; exact .inl h.bas
  · rw [if_neg e1] at hq; exact h.ownr r q hq

/-- The state behind a write to region r. -/
theorem RelM.write {E : Env} {s : St} {a : Act} {w w' : World} {ρ ok} (h : RelM E s a w ρ ok) {r : Nat} {p : Place} (hp : ρ r = some (some p)) (hs : w'.heap.size = w.heap.size)
    (ho : w'.os = w.os) (ht : w'.tape = w.tape) (hu : w'.output = w.output)
    (hb : ∀ k, k ≠ p.b → w'.heap[k]? = w.heap[k]?) {g' : Reg} (hg : RegOk w' ok ρ r g') : RelM E { s with rg := s.rg.set r g' } a w' ρ ok := by
  have hr : Reads ok w w' := Reads.of_same fun b hb' => hb b fun e => (h.mem.own r p hp).2 (e ▸ hb')
  refine ⟨h.mem.write hp hs hb hg, fun n => R_frame hr (fun _ x => x) (fun _ _ x => x) _ _ (h.tm n), h.siz, h.dfr, ⟨ho.trans h.kps.os, ht.trans h.kps.tape, hu.trans h.kps.output, by rw [hs]; exact h.kps.size, fun k hk hno => ?_⟩, by rw [hs]; exact h.bas, h.ownr, h.okr, h.pin⟩
  have hne : k ≠ p.b := fun e => by
    rcases h.ownr r p hp with h1 | h1
    · omega
    · exact hno (e ▸ h1)
  rw [hb k hne]; exact h.kps.block k hk hno

/-! ### Reading cells -/
theorem RcCells_get {w : World} {ok : Nat → Prop} {b : Nat} : ∀ {xs : List AV} {o : Nat}, RcCells w ok b o xs → ∀ (j : Nat) (x : AV), xs[j]? = some x → ∃ v, w.cell? ⟨b, o + j, none⟩ = some v ∧ Rc w ok x v
  | [], o, _, j, x, hx => by simp at hx
  | y :: xs, o, h, j, x, hx => by
    unfold RcCells at h
    obtain ⟨⟨v, h1, h2⟩, h3⟩ := h
    cases j with
    | zero => obtain rfl : y = x := by simpa using hx
              exact ⟨v, h1, h2⟩
    | succ j =>
      obtain ⟨v, h4, h5⟩ := RcCells_get h3 j x (by simpa using hx)
      exact ⟨v, by rw [← h4]; congr 2; omega, h5⟩
theorem RcEls_get {w : World} {ok : Nat → Prop} {b sz : Nat} : ∀ {els : List (List AV)} {o : Nat}, RcEls w ok b sz o els → ∀ (i : Nat) (el : List AV), els[i]? = some el → el.length = sz ∧ RcCells w ok b (o + i * sz) el
  | [], o, _, i, x, hx => by simp at hx
  | e :: els, o, h, i, el, hx => by
    unfold RcEls at h
    obtain ⟨h0, h1, h2⟩ := h
    cases i with
    | zero => obtain rfl : e = el := by simpa using hx
              exact ⟨h0, by simpa using h1⟩
    | succ i =>
      obtain ⟨h3, h4⟩ := RcEls_get h2 i el (by simpa using hx)
      exact ⟨h3, by rw [show o + (i + 1) * sz = o + sz + i * sz by rw [Nat.succ_mul]; omega]; exact h4⟩
theorem RcCells_drop {w : World} {ok : Nat → Prop} {b : Nat} : ∀ {xs : List AV} {o : Nat} (n : Nat), RcCells w ok b o xs → RcCells w ok b (o + n) (xs.drop n)
  | xs, o, 0, h => h
  | [], o, n + 1, h => by unfold RcCells; trivial
  | x :: xs, o, n + 1, h => by
    unfold RcCells at h
    rw [List.drop_succ_cons, show o + (n + 1) = o + 1 + n by omega]
    exact RcCells_drop n h.2

/-- Behind the address b, o lie cells that the abstract cells stand for. -/
def CellsAt (w : World) (ok : Nat → Prop) (ρ : Nat → Option (Option Place)) (b o : Nat) (xs : List AV) : Prop :=
  ∀ j x, xs[j]? = some x → ∃ v, w.cell? ⟨b, o + j, none⟩ = some v ∧ R w ok ρ x v
theorem CellsAt.vals {w : World} {ok ρ} {b : Nat} : ∀ {xs : List AV} {o : Nat}, CellsAt w ok ρ b o xs → ∃ us, RList w ok ρ xs us ∧ ∀ j u, us[j]? = some u → w.cell? ⟨b, o + j, none⟩ = some u
  | [], o, _ => ⟨[], by unfold RList; rfl, fun j u h => by simp at h⟩
  | x :: xs, o, h => by
    obtain ⟨v, h1, h2⟩ := h 0 x rfl
    obtain ⟨us, h3, h4⟩ := CellsAt.vals (xs := xs) (o := o + 1) fun j y hy => by
      obtain ⟨u, h5, h6⟩ := h (j + 1) y (by simpa using hy)
      exact ⟨u, by rw [← h5]; congr 2; omega, h6⟩
    refine ⟨v :: us, by unfold RList; exact ⟨v, us, rfl, h2, h3⟩, fun j u hu => ?_⟩
    cases j with
    | zero => obtain rfl : v = u := by simpa using hu
              exact h1
    | succ j => rw [← h4 j u (by simpa using hu)]; congr 2; omega
theorem CellsAt.sub {w : World} {ok ρ} {b o : Nat} {xs : List AV} (h : CellsAt w ok ρ b o xs) (d n : Nat) : CellsAt w ok ρ b (o + d) ((xs.drop d).take n) := by
  intro j x hx
  have h1 : xs[d + j]? = some x := by
    have : j < n := by
      rcases Nat.lt_or_ge j n with h | h
      · exact h
      · rw [List.getElem?_take, if_neg (by omega)] at hx; cases hx
    rw [List.getElem?_take, if_pos this, List.getElem?_drop] at hx
    exact hx
  obtain ⟨v, h2, h3⟩ := h (d + j) x h1
  exact ⟨v, by rw [← h2]; congr 2; omega, h3⟩

theorem add_plain (b o j : Nat) : (⟨b, o, none⟩ : Addr).add j = ⟨b, o + j, none⟩ := by
  unfold Addr.add
  split
  · rename_i h; subst h; rfl
  · rfl

theorem run_loadCells {P : Program} {w : World} {b o : Nat} : ∀ (us : List Value) (i : Nat) (acc : Array Value), (∀ j u, us[j]? = some u → w.cell? ⟨b, o + i + j, none⟩ = some u) →
    (loadCellsFrom ⟨b, o, none⟩ i us.length acc).run P w = .ok (acc ++ us.toArray) w
  | [], i, acc, _ => by simp [loadCellsFrom]
  | u :: us, i, acc, h => by
    have h0 := h 0 u rfl
    have ih := run_loadCells (P := P) us (i + 1) (acc.push u) fun j x hx => by
      have h1 := h (j + 1) x (by simpa using hx)
      rw [show o + (i + 1) + j = o + i + (j + 1) by omega]; exact h1
    simp only [List.length_cons, loadCellsFrom, add_plain]
    simp only [Nat.add_zero] at h0
    show ((load ⟨b, o + i, none⟩).bind fun v => loadCellsFrom ⟨b, o, none⟩ (i + 1) us.length (acc.push v)).run P w = _
    simp only [load, Sem.bind, Sem.run, h0]
    rw [ih]; simp
end Go.Proofs.Ytmkodhpbjedfkaa.Aw
