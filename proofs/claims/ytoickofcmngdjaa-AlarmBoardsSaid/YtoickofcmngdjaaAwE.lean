/- A logic of abstract states for walks: values, memory, their meaning. -/
import Derived.Below
import Derived.Deep.Quiet
import Derived.WalkKit
import Derived.KernelRfl
import Derived.RowKit3
set_option linter.unusedVariables false
set_option linter.unusedSimpArgs false
namespace Go.Proofs.Ytoickofcmngdjaa.Aw

/-- Abstract values. -/
inductive AV where
  | any
  | val (v : Value)
  | imm (nil : Option Bool) (full : Bool) (sz : Nat) (els : List (List AV))
  | pim (cs : List AV)
  | hnd (r off n k : Nat) (ex : Bool)
  | ptr (r i o : Nat)
  | fn (f : FuncId) (caps : List AV)
  | agg (cs : List AV)
  | tup (cs : List AV)
  | opt (c : Bool) (x : AV)
  deriving Inhabited

/-- Abstract blocks of memory that the call owns. -/
inductive Reg where
  | dead
  | box (e : TypeId) (cs : List AV)
  | arr (e : TypeId) (sz : Nat) (els : List (List AV))
  | tab (e : TypeId) (cs : List AV)
  deriving Inhabited

mutual
/-- A closed abstract value stands for a value; it reads only blocks of 'ok'. -/
def Rc (w : World) (ok : Nat → Prop) : AV → Value → Prop
  | .any, _ => True
  | .val x, v => v = x
  | .imm nil full sz els, v => ∃ A c, v = .slice A els.length c ∧ els.length ≤ c ∧ (∀ q, nil = some q → A.isNone = q) ∧ (A = none → c = 0) ∧ (full = true → c = els.length) ∧
      ∀ a, A = some a → els ≠ [] → a.spot = none ∧ ok a.block ∧ RcEls w ok a.block sz a.off els
  | .pim cs, v => ∃ b o, v = .pointer (some ⟨b, o, none⟩) ∧ ok b ∧ RcCells w ok b o cs
  | .hnd .., _ => False
  | .ptr .., _ => False
  | .fn f caps, v => ∃ vs : Array Value, v = .func (.func f) #[] vs ∧ RcList w ok caps vs.toList
  | .agg cs, v => ∃ vs : Array Value, v = .agg vs ∧ RcList w ok cs vs.toList
  | .tup cs, v => ∃ vs : Array Value, v = .tuple vs ∧ RcList w ok cs vs.toList
  | .opt c x, v => (c = true → Rc w ok x v) ∧ (c = false → v = undef)
def RcList (w : World) (ok : Nat → Prop) : List AV → List Value → Prop
  | [], vs => vs = []
  | x :: xs, vs => ∃ v vs', vs = v :: vs' ∧ Rc w ok x v ∧ RcList w ok xs vs'
def RcCells (w : World) (ok : Nat → Prop) (b : Nat) : Nat → List AV → Prop
  | _, [] => True
  | o, x :: xs => (∃ v, w.cell? ⟨b, o, none⟩ = some v ∧ Rc w ok x v) ∧ RcCells w ok b (o + 1) xs
def RcEls (w : World) (ok : Nat → Prop) (b sz : Nat) : Nat → List (List AV) → Prop
  | _, [] => True
  | o, el :: els => el.length = sz ∧ RcCells w ok b o el ∧ RcEls w ok b sz (o + sz) els
end

/-- Where a region lies: its block, its first cell there, the cells of an element, the cells of the block. -/
structure Place where
  b : Nat
  d : Nat
  sz : Nat
  tot : Nat

mutual
/-- An abstract value stands for a value. -/
def R (w : World) (ok : Nat → Prop) (ρ : Nat → Option (Option Place)) : AV → Value → Prop
  | .any, _ => True
  | .val x, v => v = x
  | .imm nil full sz els, v => Rc w ok (.imm nil full sz els) v
  | .pim cs, v => Rc w ok (.pim cs) v
  | .hnd r off n k ex, v => (∃ p cc ad, ρ r = some (some p) ∧ v = .slice (some ad) n cc ∧ (cc = 0 ∨ ad = ⟨p.b, p.d + off * p.sz, none⟩) ∧ n ≤ k ∧ k ≤ cc ∧ p.d + (off + cc) * p.sz ≤ p.tot ∧ (ex = true → cc = k)) ∨
      (ρ r = some none ∧ v = .slice none 0 0 ∧ off = 0 ∧ n = 0 ∧ k = 0)
  | .ptr r i o, v => ∃ p, ρ r = some (some p) ∧ v = .pointer (some ⟨p.b, p.d + i * p.sz + o, none⟩)
  | .fn f caps, v => ∃ vs : Array Value, v = .func (.func f) #[] vs ∧ RList w ok ρ caps vs.toList
  | .agg cs, v => ∃ vs : Array Value, v = .agg vs ∧ RList w ok ρ cs vs.toList
  | .tup cs, v => ∃ vs : Array Value, v = .tuple vs ∧ RList w ok ρ cs vs.toList
  | .opt c x, v => (c = true → R w ok ρ x v) ∧ (c = false → v = undef)
def RList (w : World) (ok : Nat → Prop) (ρ : Nat → Option (Option Place)) : List AV → List Value → Prop
  | [], vs => vs = []
  | x :: xs, vs => ∃ v vs', vs = v :: vs' ∧ R w ok ρ x v ∧ RList w ok ρ xs vs'
end

/-- A block as it lies, but for a mark that lies behind its cells (bytes alone have one; 5 is their type's number). -/
def hpB (w : World) (b : Nat) : Option Obj := match w.heap[b]? with
  | some (.cells C e fr) => if e = 5 ∧ C.size ≤ fr.1 then some (.cells C e (0, 0)) else some (.cells C e fr)
  | o => o
theorem hpB_of {w : World} {b : Nat} {C : Array Value} {e : TypeId} (h : w.heap[b]? = some (.cells C e (0, 0))) : hpB w b = some (.cells C e (0, 0)) := by
  unfold hpB; rw [h]; dsimp only; split <;> rfl
theorem hpB_inv {w : World} {b : Nat} {C : Array Value} {e : TypeId} (h : hpB w b = some (.cells C e (0, 0))) : ∃ fr : Nat × Nat, w.heap[b]? = some (.cells C e fr) ∧ (fr = (0, 0) ∨ (e = 5 ∧ C.size ≤ fr.1)) := by
  unfold hpB at h
  split at h
  · rename_i C' e' fr hh
    split at h
    · rename_i hle
      injection h with h1; injection h1 with h2 h3 h4; subst h2 h3
      exact ⟨fr, hh, .inr hle⟩
    · injection h with h1; injection h1 with h2 h3 h4; subst h2 h3 h4
      exact ⟨_, hh, .inl rfl⟩
  · rename_i o hno
    exact absurd h (hno _ _ _)
theorem hpB_same {w w' : World} {b : Nat} (h : w'.heap[b]? = w.heap[b]?) : hpB w' b = hpB w b := by unfold hpB; rw [h]
/-- What is known of a region. -/
def RegOk (w : World) (ok : Nat → Prop) (ρ : Nat → Option (Option Place)) (r : Nat) : Reg → Prop
  | .dead => ρ r = none
  | .box e cs => ∃ b, ∃ C : Array Value, ρ r = some (some ⟨b, 0, cs.length, cs.length⟩) ∧ hpB w b = some (.cells C e (0, 0)) ∧ RList w ok ρ cs C.toList
  | .arr e sz els => (∃ b d, ∃ C : Array Value, ∃ pre vs rest, ρ r = some (some ⟨b, d, sz, C.size⟩) ∧ hpB w b = some (.cells C e (0, 0)) ∧ C.toList = pre ++ (vs ++ rest) ∧ pre.length = d ∧
      (∀ el ∈ els, el.length = sz) ∧ RcList w ok els.flatten vs) ∨ (els = [] ∧ ρ r = some none)
  | .tab e cs => (∃ b d, ∃ C : Array Value, ∃ pre vs rest, ρ r = some (some ⟨b, d, 1, C.size⟩) ∧ hpB w b = some (.cells C e (0, 0)) ∧ C.toList = pre ++ (vs ++ rest) ∧ pre.length = d ∧ RList w ok ρ cs vs) ∨ (cs = [] ∧ ρ r = some none)

structure Mem (w : World) (ok : Nat → Prop) (ρ : Nat → Option (Option Place)) (rg : List Reg) : Prop where
  okl : ∀ b, ok b → b < w.heap.size
  inj : ∀ r r' p p', ρ r = some (some p) → ρ r' = some (some p') → p.b = p'.b → r = r'
  own : ∀ r p, ρ r = some (some p) → p.b < w.heap.size ∧ ¬ ok p.b
  reg : ∀ r g, rg[r]? = some g → RegOk w ok ρ r g
  out : ∀ r, rg.length ≤ r → ρ r = none

/-! ### Frames -/
def Reads (ok : Nat → Prop) (w w' : World) : Prop := ∀ b o v, ok b → w.cell? ⟨b, o, none⟩ = some v → w'.cell? ⟨b, o, none⟩ = some v

section
variable {w w' : World} {ok ok' : Nat → Prop}
mutual
theorem Rc_frame (h : Reads ok w w') (hk : ∀ b, ok b → ok' b) : ∀ (x : AV) (v : Value), Rc w ok x v → Rc w' ok' x v
  | .any, _, _ => by unfold Rc; trivial
  | .val x, v, hr => by unfold Rc at *; exact hr
  | .imm nil full sz els, v, hr => by
    unfold Rc at *
    obtain ⟨A, c, e, h1, h2, h3, h3', h4⟩ := hr
    refine ⟨A, c, e, h1, h2, h3, h3', fun a ha hne => ?_⟩
    obtain ⟨h5, h6, h7⟩ := h4 a ha hne
    exact ⟨h5, hk _ h6, RcEls_frame h hk h6 _ _ h7⟩
  | .pim cs, v, hr => by
    unfold Rc at *
    obtain ⟨b, o, e, h1, h2⟩ := hr
    exact ⟨b, o, e, hk _ h1, RcCells_frame h hk h1 _ _ h2⟩
  | .hnd .., _, hr => by unfold Rc at hr; exact hr.elim
  | .ptr .., _, hr => by unfold Rc at hr; exact hr.elim
  | .fn f caps, v, hr => by
    unfold Rc at *
    obtain ⟨vs, e, h1⟩ := hr
    exact ⟨vs, e, RcList_frame h hk _ _ h1⟩
  | .agg cs, v, hr => by
    unfold Rc at *
    obtain ⟨vs, e, h1⟩ := hr
    exact ⟨vs, e, RcList_frame h hk _ _ h1⟩
  | .tup cs, v, hr => by
    unfold Rc at *
    obtain ⟨vs, e, h1⟩ := hr
    exact ⟨vs, e, RcList_frame h hk _ _ h1⟩
  | .opt c x, v, hr => by
    unfold Rc at *
    exact ⟨fun hc => Rc_frame h hk x v (hr.1 hc), hr.2⟩
theorem RcList_frame (h : Reads ok w w') (hk : ∀ b, ok b → ok' b) : ∀ (xs : List AV) (vs : List Value), RcList w ok xs vs → RcList w' ok' xs vs
  | [], vs, hr => by unfold RcList at *; exact hr
  | x :: xs, vs, hr => by
    unfold RcList at *
    obtain ⟨v, vs', e, h1, h2⟩ := hr
    exact ⟨v, vs', e, Rc_frame h hk x v h1, RcList_frame h hk xs vs' h2⟩
theorem RcCells_frame (h : Reads ok w w') (hk : ∀ b, ok b → ok' b) {b : Nat} (hb : ok b) : ∀ (o : Nat) (xs : List AV), RcCells w ok b o xs → RcCells w' ok' b o xs
  | o, [], _ => by unfold RcCells; trivial
  | o, x :: xs, hr => by
    unfold RcCells at *
    obtain ⟨⟨v, h1, h2⟩, h3⟩ := hr
    exact ⟨⟨v, h _ _ _ hb h1, Rc_frame h hk x v h2⟩, RcCells_frame h hk hb (o + 1) xs h3⟩
theorem RcEls_frame (h : Reads ok w w') (hk : ∀ b, ok b → ok' b) {b sz : Nat} (hb : ok b) : ∀ (o : Nat) (els : List (List AV)), RcEls w ok b sz o els → RcEls w' ok' b sz o els
  | o, [], _ => by unfold RcEls; trivial
  | o, el :: els, hr => by
    unfold RcEls at *
    obtain ⟨h0, h1, h2⟩ := hr
    exact ⟨h0, RcCells_frame h hk hb o el h1, RcEls_frame h hk hb (o + sz) els h2⟩
end

variable {ρ ρ' : Nat → Option (Option Place)}
mutual
theorem R_frame (h : Reads ok w w') (hk : ∀ b, ok b → ok' b) (hρ : ∀ r p, ρ r = some p → ρ' r = some p) : ∀ (x : AV) (v : Value), R w ok ρ x v → R w' ok' ρ' x v
  | .any, _, _ => by unfold R; trivial
  | .val x, v, hr => by unfold R at *; exact hr
  | .imm nil full sz els, v, hr => by unfold R at *; exact Rc_frame h hk _ _ hr
  | .pim cs, v, hr => by unfold R at *; exact Rc_frame h hk _ _ hr
  | .hnd r off n k ex, v, hr => by
    unfold R at *
    rcases hr with ⟨p, cc, ad, h1, h2⟩ | ⟨h1, h2⟩
    · exact .inl ⟨p, cc, ad, hρ _ _ h1, h2⟩
    · exact .inr ⟨hρ _ _ h1, h2⟩
  | .ptr r i o, v, hr => by
    unfold R at *
    obtain ⟨p, h1, h2⟩ := hr
    exact ⟨p, hρ _ _ h1, h2⟩
  | .fn f caps, v, hr => by
    unfold R at *
    obtain ⟨vs, e, h1⟩ := hr
    exact ⟨vs, e, RList_frame h hk hρ _ _ h1⟩
  | .agg cs, v, hr => by
    unfold R at *
    obtain ⟨vs, e, h1⟩ := hr
    exact ⟨vs, e, RList_frame h hk hρ _ _ h1⟩
  | .tup cs, v, hr => by
    unfold R at *
    obtain ⟨vs, e, h1⟩ := hr
    exact ⟨vs, e, RList_frame h hk hρ _ _ h1⟩
  | .opt c x, v, hr => by
    unfold R at *
    exact ⟨fun hc => R_frame h hk hρ x v (hr.1 hc), hr.2⟩
theorem RList_frame (h : Reads ok w w') (hk : ∀ b, ok b → ok' b) (hρ : ∀ r p, ρ r = some p → ρ' r = some p) : ∀ (xs : List AV) (vs : List Value), RList w ok ρ xs vs → RList w' ok' ρ' xs vs
  | [], vs, hr => by unfold RList at *; exact hr
  | x :: xs, vs, hr => by
    unfold RList at *
    obtain ⟨v, vs', e, h1, h2⟩ := hr
    exact ⟨v, vs', e, R_frame h hk hρ x v h1, RList_frame h hk hρ xs vs' h2⟩
end

mutual
/-- A closed value is a value. -/
theorem R_of_Rc : ∀ (x : AV) (v : Value), Rc w ok x v → R w ok ρ x v
  | .any, _, _ => by unfold R; trivial
  | .val x, v, hr => by unfold R; unfold Rc at hr; exact hr
  | .imm nil full sz els, v, hr => by unfold R; exact hr
  | .pim cs, v, hr => by unfold R; exact hr
  | .hnd .., _, hr => by unfold Rc at hr; exact hr.elim
  | .ptr .., _, hr => by unfold Rc at hr; exact hr.elim
  | .fn f caps, v, hr => by
    unfold R; unfold Rc at hr
    obtain ⟨vs, e, h1⟩ := hr
    exact ⟨vs, e, RList_of_Rc _ _ h1⟩
  | .agg cs, v, hr => by
    unfold R; unfold Rc at hr
    obtain ⟨vs, e, h1⟩ := hr
    exact ⟨vs, e, RList_of_Rc _ _ h1⟩
  | .tup cs, v, hr => by
    unfold R; unfold Rc at hr
    obtain ⟨vs, e, h1⟩ := hr
    exact ⟨vs, e, RList_of_Rc _ _ h1⟩
  | .opt c x, v, hr => by
    unfold R; unfold Rc at hr
    exact ⟨fun hc => R_of_Rc x v (hr.1 hc), hr.2⟩
theorem RList_of_Rc : ∀ (xs : List AV) (vs : List Value), RcList w ok xs vs → RList w ok ρ xs vs
  | [], vs, hr => by unfold RList; unfold RcList at hr; exact hr
  | x :: xs, vs, hr => by
    unfold RList; unfold RcList at hr
    obtain ⟨v, vs', e, h1, h2⟩ := hr
    exact ⟨v, vs', e, R_of_Rc x v h1, RList_of_Rc xs vs' h2⟩
end

mutual
/-- No handle and no pointer into owned memory at the top. -/
def AV.shut : AV → Bool
  | .any => true
  | .val _ => true
  | .imm .. => true
  | .pim _ => true
  | .hnd .. => false
  | .ptr .. => false
  | .fn _ caps => shutAll caps
  | .agg cs => shutAll cs
  | .tup cs => shutAll cs
  | .opt _ x => x.shut
def shutAll : List AV → Bool
  | [] => true
  | x :: xs => x.shut && shutAll xs
end

mutual
theorem Rc_of_R : ∀ (x : AV) (v : Value), x.shut = true → R w ok ρ x v → Rc w ok x v
  | .any, _, _, _ => by unfold Rc; trivial
  | .val x, v, _, hr => by unfold Rc; unfold R at hr; exact hr
  | .imm nil full sz els, v, _, hr => by unfold R at hr; exact hr
  | .pim cs, v, _, hr => by unfold R at hr; exact hr
  | .hnd .., _, hs, _ => by simp [AV.shut] at hs
  | .ptr .., _, hs, _ => by simp [AV.shut] at hs
  | .fn f caps, v, hs, hr => by
    unfold Rc; unfold R at hr
    obtain ⟨vs, e, h1⟩ := hr
    exact ⟨vs, e, RcList_of_R _ _ (by simpa [AV.shut] using hs) h1⟩
  | .agg cs, v, hs, hr => by
    unfold Rc; unfold R at hr
    obtain ⟨vs, e, h1⟩ := hr
    exact ⟨vs, e, RcList_of_R _ _ (by simpa [AV.shut] using hs) h1⟩
  | .tup cs, v, hs, hr => by
    unfold Rc; unfold R at hr
    obtain ⟨vs, e, h1⟩ := hr
    exact ⟨vs, e, RcList_of_R _ _ (by simpa [AV.shut] using hs) h1⟩
  | .opt c x, v, hs, hr => by
    unfold Rc; unfold R at hr
    exact ⟨fun hc => Rc_of_R x v (by simpa [AV.shut] using hs) (hr.1 hc), hr.2⟩
theorem RcList_of_R : ∀ (xs : List AV) (vs : List Value), shutAll xs = true → RList w ok ρ xs vs → RcList w ok xs vs
  | [], vs, _, hr => by unfold RcList; unfold RList at hr; exact hr
  | x :: xs, vs, hs, hr => by
    unfold RcList; unfold RList at hr
    obtain ⟨v, vs', e, h1, h2⟩ := hr
    simp only [shutAll, Bool.and_eq_true] at hs
    exact ⟨v, vs', e, Rc_of_R x v hs.1 h1, RcList_of_R xs vs' hs.2 h2⟩
end
end

/-! ### Lists -/
section
variable {w : World} {ok : Nat → Prop} {ρ : Nat → Option (Option Place)}
theorem RcList_length : ∀ {xs : List AV} {vs : List Value}, RcList w ok xs vs → vs.length = xs.length
  | [], vs, h => by unfold RcList at h; subst h; rfl
  | x :: xs, vs, h => by
    unfold RcList at h
    obtain ⟨v, vs', rfl, _, h2⟩ := h
    simp [RcList_length h2]
theorem RList_length : ∀ {xs : List AV} {vs : List Value}, RList w ok ρ xs vs → vs.length = xs.length
  | [], vs, h => by unfold RList at h; subst h; rfl
  | x :: xs, vs, h => by
    unfold RList at h
    obtain ⟨v, vs', rfl, _, h2⟩ := h
    simp [RList_length h2]
theorem RList_get : ∀ {xs : List AV} {vs : List Value}, RList w ok ρ xs vs → ∀ (i : Nat) (x : AV), xs[i]? = some x → ∃ v, vs[i]? = some v ∧ R w ok ρ x v
  | [], vs, h, i, x, hx => by simp at hx
  | y :: xs, vs, h, i, x, hx => by
    unfold RList at h
    obtain ⟨v, vs', rfl, h1, h2⟩ := h
    cases i with
    | zero => obtain rfl : y = x := by simpa using hx
              exact ⟨v, rfl, h1⟩
    | succ i => exact RList_get h2 i x (by simpa using hx)
theorem RcList_get : ∀ {xs : List AV} {vs : List Value}, RcList w ok xs vs → ∀ (i : Nat) (x : AV), xs[i]? = some x → ∃ v, vs[i]? = some v ∧ Rc w ok x v
  | [], vs, h, i, x, hx => by simp at hx
  | y :: xs, vs, h, i, x, hx => by
    unfold RcList at h
    obtain ⟨v, vs', rfl, h1, h2⟩ := h
    cases i with
    | zero => obtain rfl : y = x := by simpa using hx
              exact ⟨v, rfl, h1⟩
    | succ i => exact RcList_get h2 i x (by simpa using hx)
theorem RList_append : ∀ {xs ys : List AV} {vs us : List Value}, RList w ok ρ xs vs → RList w ok ρ ys us → RList w ok ρ (xs ++ ys) (vs ++ us)
  | [], ys, vs, us, h, k => by unfold RList at h; subst h; exact k
  | x :: xs, ys, vs, us, h, k => by
    unfold RList at h
    obtain ⟨v, vs', rfl, h1, h2⟩ := h
    show RList w ok ρ (x :: (xs ++ ys)) (v :: (vs' ++ us))
    unfold RList
    exact ⟨v, vs' ++ us, rfl, h1, RList_append h2 k⟩
theorem RcList_append : ∀ {xs ys : List AV} {vs us : List Value}, RcList w ok xs vs → RcList w ok ys us → RcList w ok (xs ++ ys) (vs ++ us)
  | [], ys, vs, us, h, k => by unfold RcList at h; subst h; exact k
  | x :: xs, ys, vs, us, h, k => by
    unfold RcList at h
    obtain ⟨v, vs', rfl, h1, h2⟩ := h
    show RcList w ok (x :: (xs ++ ys)) (v :: (vs' ++ us))
    unfold RcList
    exact ⟨v, vs' ++ us, rfl, h1, RcList_append h2 k⟩
theorem RcList_split : ∀ {xs ys : List AV} {vs : List Value}, RcList w ok (xs ++ ys) vs → ∃ us ts, vs = us ++ ts ∧ RcList w ok xs us ∧ RcList w ok ys ts
  | [], ys, vs, h => ⟨[], vs, rfl, by unfold RcList; rfl, h⟩
  | x :: xs, ys, vs, h => by
    have h' : RcList w ok (x :: (xs ++ ys)) vs := h
    unfold RcList at h'
    obtain ⟨v, vs', rfl, h1, h2⟩ := h'
    obtain ⟨us, ts, rfl, h3, h4⟩ := RcList_split h2
    exact ⟨v :: us, ts, rfl, by unfold RcList; exact ⟨v, us, rfl, h1, h3⟩, h4⟩
theorem RList_split : ∀ {xs ys : List AV} {vs : List Value}, RList w ok ρ (xs ++ ys) vs → ∃ us ts, vs = us ++ ts ∧ RList w ok ρ xs us ∧ RList w ok ρ ys ts
  | [], ys, vs, h => ⟨[], vs, rfl, by unfold RList; rfl, h⟩
  | x :: xs, ys, vs, h => by
    have h' : RList w ok ρ (x :: (xs ++ ys)) vs := h
    unfold RList at h'
    obtain ⟨v, vs', rfl, h1, h2⟩ := h'
    obtain ⟨us, ts, rfl, h3, h4⟩ := RList_split h2
    exact ⟨v :: us, ts, rfl, by unfold RList; exact ⟨v, us, rfl, h1, h3⟩, h4⟩
end
end Go.Proofs.Ytoickofcmngdjaa.Aw

/- A logic of abstract states for walks: states, and what writes and new blocks do to them. -/
set_option linter.unusedVariables false
set_option linter.unusedSimpArgs false
namespace Go.Proofs.Ytoickofcmngdjaa.Aw
open Go.RowKit

/-- An operand without a program's numbers. -/
inductive Opd where
  | t (n : Nat)
  | v (x : Value)
  deriving Inhabited

def Opd.of : Operand → Opd
  | .tmp i => .t i
  | .const x => .v x
  | .global g => .v (.pointer (some ⟨g, 0, none⟩))
  | .func f => .v (.func (.func f) #[] #[])

structure St where
  tm : List (Nat × AV)
  rg : List Reg
  deriving Inhabited

def look : List (Nat × AV) → Nat → AV
  | [], _ => .any
  | (i, x) :: l, n => bif i == n then x else look l n
def putTm (l : List (Nat × AV)) (n : Nat) (x : AV) : List (Nat × AV) := (n, x) :: l
def St.ev (s : St) : Opd → AV
  | .t n => look s.tm n
  | .v x => .val x
def St.put (s : St) (n : Nat) (x : AV) : St := { s with tm := putTm s.tm n x }
def Opd.cv (a : Act) : Opd → Value
  | .t n => a.tmps.getD n undef
  | .v x => x
theorem Opd.cv_of (a : Act) (x : Operand) : (Opd.of x).cv a = a.eval x := by cases x <;> rfl

theorem look_mem : ∀ {l : List (Nat × AV)} {n : Nat}, look l n = .any ∨ (n, look l n) ∈ l
  | [], n => .inl rfl
  | (i, x) :: l, n => by
    unfold look
    cases h : (i == n)
    · simp only [cond_false]
      rcases look_mem (l := l) (n := n) with h1 | h1
      · exact .inl h1
      · exact .inr (List.mem_cons_of_mem _ h1)
    · simp only [cond_true]
      obtain rfl : i = n := by simpa using h
      exact .inr List.mem_cons_self
structure Env where
  base : Nat
  O0 : Nat → Prop
  okE : Nat → Prop
  w0 : World
  pin : Nat → Option Place
  n : Nat
  np : Nat

structure Keeps (base : Nat) (O0 : Nat → Prop) (w0 w : World) : Prop where
  os : w.os = w0.os
  tape : w.tape = w0.tape
  output : w.output = w0.output
  size : w0.heap.size ≤ w.heap.size
  block : ∀ k, k < base → ¬ O0 k → w.heap[k]? = w0.heap[k]?

structure RelM (E : Env) (s : St) (a : Act) (w : World) (ρ : Nat → Option (Option Place)) (ok : Nat → Prop) : Prop where
  mem : Mem w ok ρ s.rg
  tm : ∀ n, R w ok ρ (look s.tm n) (a.tmps.getD n undef)
  siz : a.tmps.size = E.n
  dfr : a.defers = []
  kps : Keeps E.base E.O0 E.w0 w
  bas : E.base ≤ w.heap.size
  ownr : ∀ r p, ρ r = some (some p) → E.base ≤ p.b ∨ E.O0 p.b
  okr : ∀ b, ok b → E.okE b ∨ E.base ≤ b ∨ E.O0 b
  pin : ∀ r p, E.pin r = some p → ρ r = some (some p)

def Rel (E : Env) (s : St) (a : Act) (w : World) : Prop := ∃ ρ ok, RelM E s a w ρ ok

theorem look_put (l : List (Nat × AV)) (n m : Nat) (x : AV) : look (putTm l n x) m = if m = n then x else look l m := by
  unfold putTm
  rw [look]
  cases hi : (n == m)
  · have e1 : n ≠ m := by simpa using hi
    rw [cond_false, if_neg (Ne.symm e1)]
  · have e1 : n = m := by simpa using hi
    rw [cond_true, if_pos e1.symm]

theorem RelM.ev {E : Env} {s : St} {a : Act} {w : World} {ρ ok} (h : RelM E s a w ρ ok) (x : Opd) : R w ok ρ (s.ev x) (x.cv a) := by
  cases x with
  | t n => exact h.tm n
  | v x => unfold St.ev Opd.cv R; rfl

theorem RelM.put {E : Env} {s : St} {a : Act} {w : World} {ρ ok} (h : RelM E s a w ρ ok) {d : Nat} (hd : d < E.n) {x : AV} {v : Value} (hx : R w ok ρ x v) :
    RelM E (s.put d x) (a.put (some d) v) w ρ ok := by
  refine ⟨h.mem, fun n => ?_, by simpa [Act.put] using h.siz, h.dfr, h.kps, h.bas, h.ownr, h.okr, h.pin⟩
  show R w ok ρ (look (putTm s.tm d x) n) _
  rw [look_put]
  by_cases e : n = d
  · subst e
    rw [if_pos rfl]
    have : (a.put (some n) v).tmps.getD n undef = v := by
      have := h.siz
      simp [Act.put, Array.getD, show n < a.tmps.size by omega]
    rw [this]; exact hx
  · rw [if_neg e]
    have : (a.put (some d) v).tmps.getD n undef = a.tmps.getD n undef := by
      simp [Act.put, Array.getD_eq_getD_getElem?, Array.getElem?_setIfInBounds_ne (Ne.symm e)]
    rw [this]; exact h.tm n

/-! ### Worlds -/
theorem cell_of0 {w : World} {b o : Nat} {C : Array Value} {e : TypeId} {fr : Nat × Nat} (h : w.heap[b]? = some (.cells C e fr)) : w.cell? ⟨b, o, none⟩ = C[o]? := by
  simp [World.cell?, h]
theorem cell_of {w : World} {b o : Nat} {C : Array Value} {e : TypeId} (h : hpB w b = some (.cells C e (0, 0))) : w.cell? ⟨b, o, none⟩ = C[o]? := by
  obtain ⟨fr, h1, _⟩ := hpB_inv h
  exact cell_of0 h1
theorem cell_same {w w' : World} {b o : Nat} (h : w'.heap[b]? = w.heap[b]?) : w'.cell? ⟨b, o, none⟩ = w.cell? ⟨b, o, none⟩ := by
  simp [World.cell?, h]
theorem Reads.of_same {ok : Nat → Prop} {w w' : World} (h : ∀ b, ok b → w'.heap[b]? = w.heap[b]?) : Reads ok w w' :=
  fun b o v hb hc => by rw [cell_same (h b hb)]; exact hc

/-- Region r's block turns; nothing else does. -/
theorem Mem.write {w w' : World} {ok ρ} {rg : List Reg} (h : Mem w ok ρ rg) {r : Nat} {p : Place} (hp : ρ r = some (some p)) (hs : w'.heap.size = w.heap.size)
    (hb : ∀ k, k ≠ p.b → w'.heap[k]? = w.heap[k]?) {g' : Reg} (hg : RegOk w' ok ρ r g') : Mem w' ok ρ (rg.set r g') := by
  have hr : Reads ok w w' := Reads.of_same fun b hb' => hb b fun e => (h.own r p hp).2 (e ▸ hb')
  refine ⟨fun b hb' => by rw [hs]; exact h.okl b hb', h.inj, fun r' p' hp' => by rw [hs]; exact h.own r' p' hp', fun r' g hg' => ?_, fun r' hr' => h.out r' (by simpa using hr')⟩
  by_cases e : r' = r
  · subst e
    rw [List.getElem?_set] at hg'
    simp only [if_true] at hg'
    split at hg'
    · obtain rfl : g' = g := by simpa using hg'
      exact hg
    · simp at hg'
  · rw [List.getElem?_set_ne (Ne.symm e)] at hg'
    have h0 := h.reg r' g hg'
    cases g with
    | dead => exact h0
    | box e' cs =>
      obtain ⟨b, C, h1, h2, h3⟩ := h0
      have hne : b ≠ p.b := fun e2 => e (h.inj _ _ _ _ h1 hp e2)
      exact ⟨b, C, h1, (hpB_same (hb b hne)).trans h2, RList_frame hr (fun _ x => x) (fun _ _ x => x) _ _ h3⟩
    | arr e' sz els =>
      rcases h0 with ⟨b, d, C, pre, vs, rest, h1, h2, h3, h4, h5, h6⟩ | h0
      · have hne : b ≠ p.b := fun e2 => e (h.inj _ _ _ _ h1 hp e2)
        exact .inl ⟨b, d, C, pre, vs, rest, h1, (hpB_same (hb b hne)).trans h2, h3, h4, h5, RcList_frame hr (fun _ x => x) _ _ h6⟩
      · exact .inr h0
    | tab e' cs =>
      rcases h0 with ⟨b, d, C, pre, vs, rest, h1, h2, h3, h4, h6⟩ | h0
      · have hne : b ≠ p.b := fun e2 => e (h.inj _ _ _ _ h1 hp e2)
        exact .inl ⟨b, d, C, pre, vs, rest, h1, (hpB_same (hb b hne)).trans h2, h3, h4, RList_frame hr (fun _ x => x) (fun _ _ x => x) _ _ h6⟩
      · exact .inr h0

/-- Every block stays; there may be new ones. -/
structure Ext (w w' : World) : Prop where
  os : w'.os = w.os
  tape : w'.tape = w.tape
  output : w'.output = w.output
  size : w.heap.size ≤ w'.heap.size
  block : ∀ k, k < w.heap.size → w'.heap[k]? = w.heap[k]?
theorem Ext.refl (w : World) : Ext w w := ⟨rfl, rfl, rfl, Nat.le_refl _, fun _ _ => rfl⟩
theorem Ext.trans {a b c : World} (h : Ext a b) (k : Ext b c) : Ext a c :=
  ⟨k.os.trans h.os, k.tape.trans h.tape, k.output.trans h.output, Nat.le_trans h.size k.size, fun i hi => (k.block i (Nat.lt_of_lt_of_le hi h.size)).trans (h.block i hi)⟩
theorem Ext.below {w w' : World} (h : Below w.heap.size w w') : Ext w w' := ⟨h.os, h.tape, h.output, h.size, h.block⟩
theorem Ext.push (w : World) (o : Obj) : Ext w { w with heap := w.heap.push o } :=
  ⟨rfl, rfl, rfl, by simp, fun k hk => by simp [Array.getElem?_push]; omega⟩
theorem Ext.drawn (w : World) (n : Nat) : Ext w { w with drawn := n } := ⟨rfl, rfl, rfl, Nat.le_refl _, fun _ _ => rfl⟩
theorem Ext.reads {w w' : World} (h : Ext w w') {ok : Nat → Prop} (hk : ∀ b, ok b → b < w.heap.size) : Reads ok w w' := Reads.of_same fun b hb => h.block b (hk b hb)

theorem Mem.ext {w w' : World} {ok ρ} {rg : List Reg} (h : Mem w ok ρ rg) (he : Ext w w') : Mem w' ok ρ rg := by
  have hr := he.reads h.okl
  refine ⟨fun b hb => Nat.lt_of_lt_of_le (h.okl b hb) he.size, h.inj, fun r p hp => ⟨Nat.lt_of_lt_of_le (h.own r p hp).1 he.size, (h.own r p hp).2⟩, fun r g hg => ?_, h.out⟩
  have h0 := h.reg r g hg
  cases g with
  | dead => exact h0
  | box e' cs =>
    obtain ⟨b, C, h1, h2, h3⟩ := h0
    exact ⟨b, C, h1, (hpB_same (he.block b (h.own _ _ h1).1)).trans h2, RList_frame hr (fun _ x => x) (fun _ _ x => x) _ _ h3⟩
  | arr e' sz els =>
    rcases h0 with ⟨b, d, C, pre, vs, rest, h1, h2, h3, h4, h5, h6⟩ | h0
    · exact .inl ⟨b, d, C, pre, vs, rest, h1, (hpB_same (he.block b (h.own _ _ h1).1)).trans h2, h3, h4, h5, RcList_frame hr (fun _ x => x) _ _ h6⟩
    · exact .inr h0
  | tab e' cs =>
    rcases h0 with ⟨b, d, C, pre, vs, rest, h1, h2, h3, h4, h6⟩ | h0
    · exact .inl ⟨b, d, C, pre, vs, rest, h1, (hpB_same (he.block b (h.own _ _ h1).1)).trans h2, h3, h4, RList_frame hr (fun _ x => x) (fun _ _ x => x) _ _ h6⟩
    · exact .inr h0

/-- A place more. -/
def addPl (ρ : Nat → Option (Option Place)) (r : Nat) (p : Option Place) : Nat → Option (Option Place) := fun k => if k = r then some p else ρ k
theorem addPl_old {ρ : Nat → Option (Option Place)} {n : Nat} (hn : ρ n = none) (p : Option Place) : ∀ r q, ρ r = some q → addPl ρ n p r = some q := fun r q h => by
  unfold addPl
  by_cases e : r = n
  · subst e; rw [hn] at h; cases h
  · rw [if_neg e]; exact h

/-- A new region, its block new. -/
theorem Mem.alloc {w w' : World} {ok ρ} {rg : List Reg} (h : Mem w ok ρ rg) (he : Ext w w') {p : Place} (hp : p.b = w.heap.size) (hs : w.heap.size < w'.heap.size) {g : Reg}
    (hg : RegOk w' ok (addPl ρ rg.length (some p)) rg.length g) : Mem w' ok (addPl ρ rg.length (some p)) (rg ++ [g]) := by
  have hn := h.out rg.length (Nat.le_refl _)
  have hold := addPl_old hn (some p)
  have h' := h.ext he
  have hr := he.reads h.okl
  refine ⟨h'.okl, fun r r' q q' h1 h2 h3 => ?_, fun r q hq => ?_, fun r g' hg' => ?_, fun r hr' => ?_⟩
  · unfold addPl at h1 h2
    by_cases e1 : r = rg.length <;> by_cases e2 : r' = rg.length
    · rw [e1, e2]
    · rw [if_pos e1] at h1; rw [if_neg e2] at h2
      injection h1 with h1; injection h1 with h1
      have := (h.own r' q' h2).1
      rw [← h3, ← h1, hp] at this; omega
    · rw [if_neg e1] at h1; rw [if_pos e2] at h2
      injection h2 with h2; injection h2 with h2
      have := (h.own r q h1).1
      rw [h3, ← h2, hp] at this; omega
    · rw [if_neg e1] at h1; rw [if_neg e2] at h2
      exact h.inj r r' q q' h1 h2 h3
  · unfold addPl at hq
    by_cases e1 : r = rg.length
    · rw [if_pos e1] at hq
      injection hq with hq; injection hq with hq
      rw [← hq, hp]
      exact ⟨hs, fun hk => by have := h.okl _ hk; omega⟩
    · rw [if_neg e1] at hq; exact h'.own r q hq
  · by_cases e1 : r = rg.length
    · subst e1
      obtain rfl : g = g' := by simpa using hg'
      exact hg
    · have hlt : r < rg.length := by
        have := (List.getElem?_eq_some_iff.1 hg').1
        simp at this; omega
      rw [List.getElem?_append_left hlt] at hg'
      have h0 := h'.reg r g' hg'
      have hρr : addPl ρ rg.length (some p) r = ρ r := by unfold addPl; rw [if_neg e1]
      cases g' with
      | dead => exact hρr.trans h0
      | box e' cs =>
        obtain ⟨b, C, h1, h2, h3⟩ := h0
        exact ⟨b, C, hρr.trans h1, h2, RList_frame (fun _ _ _ _ x => x) (fun _ x => x) hold _ _ h3⟩
      | arr e' sz els =>
        rcases h0 with ⟨b, d, C, pre, vs, rest, h1, h2⟩ | ⟨h0, h1⟩
        · exact .inl ⟨b, d, C, pre, vs, rest, hρr.trans h1, h2⟩
        · exact .inr ⟨h0, hρr.trans h1⟩
      | tab e' cs =>
        rcases h0 with ⟨b, d, C, pre, vs, rest, h1, h2, h3, h4, h6⟩ | ⟨h0, h1⟩
        · exact .inl ⟨b, d, C, pre, vs, rest, hρr.trans h1, h2, h3, h4, RList_frame (fun _ _ _ _ x => x) (fun _ x => x) hold _ _ h6⟩
        · exact .inr ⟨h0, hρr.trans h1⟩
  · unfold addPl
    have : rg.length + 1 ≤ r := by simpa using hr'
    rw [if_neg (by omega)]
    exact h.out r (by omega)

theorem Keeps.ext {base : Nat} {O0 : Nat → Prop} {w0 w w' : World} (h : Keeps base O0 w0 w) (hb : base ≤ w.heap.size) (he : Ext w w') : Keeps base O0 w0 w' :=
  ⟨he.os.trans h.os, he.tape.trans h.tape, he.output.trans h.output, Nat.le_trans h.size he.size, fun k hk ho => (he.block k (Nat.lt_of_lt_of_le hk hb)).trans (h.block k hk ho)⟩

theorem RelM.ext {E : Env} {s : St} {a : Act} {w w' : World} {ρ ok} (h : RelM E s a w ρ ok) (he : Ext w w') : RelM E s a w' ρ ok :=
  ⟨h.mem.ext he, fun n => R_frame (he.reads h.mem.okl) (fun _ x => x) (fun _ _ x => x) _ _ (h.tm n), h.siz, h.dfr, h.kps.ext h.bas he, Nat.le_trans h.bas he.size, h.ownr, h.okr, h.pin⟩

/-- The state behind a new region. -/
theorem RelM.alloc {E : Env} {s : St} {a : Act} {w w' : World} {ρ ok} (h : RelM E s a w ρ ok) (he : Ext w w') {p : Place} (hp : p.b = w.heap.size) (hs : w.heap.size < w'.heap.size) {g : Reg}
    (hg : RegOk w' ok (addPl ρ s.rg.length (some p)) s.rg.length g) : RelM E { s with rg := s.rg ++ [g] } a w' (addPl ρ s.rg.length (some p)) ok := by
  have hn := h.mem.out s.rg.length (Nat.le_refl _)
  have hold := addPl_old hn (some p)
  refine ⟨h.mem.alloc he hp hs hg, fun n => R_frame (he.reads h.mem.okl) (fun _ x => x) hold _ _ (h.tm n), h.siz, h.dfr, h.kps.ext h.bas he, Nat.le_trans h.bas he.size, fun r q hq => ?_, h.okr, fun r q hq => hold _ _ (h.pin r q hq)⟩
  unfold addPl at hq
  by_cases e1 : r = s.rg.length
  · rw [if_pos e1] at hq
    injection hq with hq; injection hq with hq
    rw [← hq, hp]; exact .inl h.bas
  · rw [if_neg e1] at hq; exact h.ownr r q hq

/-- The state behind a write to region r. -/
theorem RelM.write {E : Env} {s : St} {a : Act} {w w' : World} {ρ ok} (h : RelM E s a w ρ ok) {r : Nat} {p : Place} (hp : ρ r = some (some p)) (hs : w'.heap.size = w.heap.size)
    (ho : w'.os = w.os) (ht : w'.tape = w.tape) (hu : w'.output = w.output)
    (hb : ∀ k, k ≠ p.b → w'.heap[k]? = w.heap[k]?) {g' : Reg} (hg : RegOk w' ok ρ r g') : RelM E { s with rg := s.rg.set r g' } a w' ρ ok := by
  have hr : Reads ok w w' := Reads.of_same fun b hb' => hb b fun e => (h.mem.own r p hp).2 (e ▸ hb')
  refine ⟨h.mem.write hp hs hb hg, fun n => R_frame hr (fun _ x => x) (fun _ _ x => x) _ _ (h.tm n), h.siz, h.dfr, ⟨ho.trans h.kps.os, ht.trans h.kps.tape, hu.trans h.kps.output, by rw [hs]; exact h.kps.size, fun k hk hno => ?_⟩, by rw [hs]; exact h.bas, h.ownr, h.okr, h.pin⟩
  have hne : k ≠ p.b := fun e => by
    rcases h.ownr r p hp with h1 | h1
    · omega
    · exact hno (e ▸ h1)
  rw [hb k hne]; exact h.kps.block k hk hno

/-! ### Reading cells -/
theorem RcCells_get {w : World} {ok : Nat → Prop} {b : Nat} : ∀ {xs : List AV} {o : Nat}, RcCells w ok b o xs → ∀ (j : Nat) (x : AV), xs[j]? = some x → ∃ v, w.cell? ⟨b, o + j, none⟩ = some v ∧ Rc w ok x v
  | [], o, _, j, x, hx => by simp at hx
  | y :: xs, o, h, j, x, hx => by
    unfold RcCells at h
    obtain ⟨⟨v, h1, h2⟩, h3⟩ := h
    cases j with
    | zero => obtain rfl : y = x := by simpa using hx
              exact ⟨v, h1, h2⟩
    | succ j =>
      obtain ⟨v, h4, h5⟩ := RcCells_get h3 j x (by simpa using hx)
      exact ⟨v, by rw [← h4]; congr 2; omega, h5⟩
theorem RcEls_get {w : World} {ok : Nat → Prop} {b sz : Nat} : ∀ {els : List (List AV)} {o : Nat}, RcEls w ok b sz o els → ∀ (i : Nat) (el : List AV), els[i]? = some el → el.length = sz ∧ RcCells w ok b (o + i * sz) el
  | [], o, _, i, x, hx => by simp at hx
  | e :: els, o, h, i, el, hx => by
    unfold RcEls at h
    obtain ⟨h0, h1, h2⟩ := h
    cases i with
    | zero => obtain rfl : e = el := by simpa using hx
              exact ⟨h0, by simpa using h1⟩
    | succ i =>
      obtain ⟨h3, h4⟩ := RcEls_get h2 i el (by simpa using hx)
      exact ⟨h3, by rw [show o + (i + 1) * sz = o + sz + i * sz by rw [Nat.succ_mul]; omega]; exact h4⟩
theorem RcCells_drop {w : World} {ok : Nat → Prop} {b : Nat} : ∀ {xs : List AV} {o : Nat} (n : Nat), RcCells w ok b o xs → RcCells w ok b (o + n) (xs.drop n)
  | xs, o, 0, h => h
  | [], o, n + 1, h => by unfold RcCells; trivial
  | x :: xs, o, n + 1, h => by
    unfold RcCells at h
    rw [List.drop_succ_cons, show o + (n + 1) = o + 1 + n by omega]
    exact RcCells_drop n h.2

/-- Behind the address b, o lie cells that the abstract cells stand for. -/
def CellsAt (w : World) (ok : Nat → Prop) (ρ : Nat → Option (Option Place)) (b o : Nat) (xs : List AV) : Prop :=
  ∀ j x, xs[j]? = some x → ∃ v, w.cell? ⟨b, o + j, none⟩ = some v ∧ R w ok ρ x v
theorem CellsAt.vals {w : World} {ok ρ} {b : Nat} : ∀ {xs : List AV} {o : Nat}, CellsAt w ok ρ b o xs → ∃ us, RList w ok ρ xs us ∧ ∀ j u, us[j]? = some u → w.cell? ⟨b, o + j, none⟩ = some u
  | [], o, _ => ⟨[], by unfold RList; rfl, fun j u h => by simp at h⟩
  | x :: xs, o, h => by
    obtain ⟨v, h1, h2⟩ := h 0 x rfl
    obtain ⟨us, h3, h4⟩ := CellsAt.vals (xs := xs) (o := o + 1) fun j y hy => by
      obtain ⟨u, h5, h6⟩ := h (j + 1) y (by simpa using hy)
      exact ⟨u, by rw [← h5]; congr 2; omega, h6⟩
    refine ⟨v :: us, by unfold RList; exact ⟨v, us, rfl, h2, h3⟩, fun j u hu => ?_⟩
    cases j with
    | zero => obtain rfl : v = u := by simpa using hu
              exact h1
    | succ j => rw [← h4 j u (by simpa using hu)]; congr 2; omega
theorem CellsAt.sub {w : World} {ok ρ} {b o : Nat} {xs : List AV} (h : CellsAt w ok ρ b o xs) (d n : Nat) : CellsAt w ok ρ b (o + d) ((xs.drop d).take n) := by
  intro j x hx
  have h1 : xs[d + j]? = some x := by
    have : j < n := by
      rcases Nat.lt_or_ge j n with h | h
      · exact h
      · rw [List.getElem?_take, if_neg (by omega)] at hx; cases hx
    rw [List.getElem?_take, if_pos this, List.getElem?_drop] at hx
    exact hx
  obtain ⟨v, h2, h3⟩ := h (d + j) x h1
  exact ⟨v, by rw [← h2]; congr 2; omega, h3⟩

theorem add_plain (b o j : Nat) : (⟨b, o, none⟩ : Addr).add j = ⟨b, o + j, none⟩ := by
  unfold Addr.add
  split
  · rename_i h; subst h; rfl
  · rfl

theorem run_loadCells {P : Program} {w : World} {b o : Nat} : ∀ (us : List Value) (i : Nat) (acc : Array Value), (∀ j u, us[j]? = some u → w.cell? ⟨b, o + i + j, none⟩ = some u) →
    (loadCellsFrom ⟨b, o, none⟩ i us.length acc).run P w = .ok (acc ++ us.toArray) w
  | [], i, acc, _ => by simp [loadCellsFrom]
  | u :: us, i, acc, h => by
    have h0 := h 0 u rfl
    have ih := run_loadCells (P := P) us (i + 1) (acc.push u) fun j x hx => by
      have h1 := h (j + 1) x (by simpa using hx)
      rw [show o + (i + 1) + j = o + i + (j + 1) by omega]; exact h1
    simp only [List.length_cons, loadCellsFrom, add_plain]
    simp only [Nat.add_zero] at h0
    show ((load ⟨b, o + i, none⟩).bind fun v => loadCellsFrom ⟨b, o, none⟩ (i + 1) us.length (acc.push v)).run P w = _
    simp only [load, Sem.bind, Sem.run, h0]
    rw [ih]; simp
end Go.Proofs.Ytoickofcmngdjaa.Aw

/- A logic of abstract states for walks: operations without a program's tables, and what each does to a state. -/
set_option linter.unusedVariables false
set_option linter.unusedSimpArgs false
namespace Go.Proofs.Ytoickofcmngdjaa.Aw
open Go.RowKit

/-- Kinds of cells that a comparison of structs reads. -/
inductive EK where
  | i
  | s
  | b
  deriving Inhabited
inductive AOp where
  | mov (x : Opd)
  | pick (c x y : Opd)
  | bin (op : BinOp) (ty : TypeId) (x y : Opd)
  | un (op : UnOp) (x : Opd)
  | nilS (neg : Bool) (x : Opd)
  | nilI (neg : Bool) (x : Opd)
  | nilP (neg : Bool) (x : Opd)
  | beq (neg : Bool) (x y : Opd)
  | load (n : Nat) (ag : Bool) (p : Opd)
  | store (n : Nat) (p x : Opd)
  | fld (off : Nat) (p : Opd)
  | idx (sz : Nat) (x i : Opd)
  | idxa (len sz : Nat) (x i : Opd)
  | part (off n : Nat) (ag : Bool) (x : Opd)
  | idxv (len sz : Nat) (ag : Bool) (x i : Opd)
  | sidx (x i : Opd)
  | alloc (e : TypeId) (z : Value)
  | box (e : TypeId) (x : Opd)
  | build (z : Value) (parts : List (Nat × Nat × Opd))
  | bsl (e : TypeId) (sz len : Nat) (parts : List (Nat × Opd))
  | mksl (e : TypeId) (sz bytes : Nat) (z : Value) (l c : Opd)
  | slc (sz : Nat) (x : Opd) (lo hi mx : Option Opd)
  | slcs (x : Opd) (lo hi : Option Opd)
  | nilc (x : Opd)
  | ext (i : Nat) (x : Opd)
  | len (x : Opd)
  | lens (x : Opd)
  | mxi (x y : Opd)
  | mni (x y : Opd)
  | mkfn (f : FuncId) (caps : List Opd)
  | itoi (k : IntKind) (x : Opd)
  | stb (e : TypeId) (x : Opd)
  | call (f : FuncId) (args : List Opd)
  | callv (f : Opd) (args : List Opd)
  | app (e : TypeId) (sz bytes : Nat) (z : Value) (x y : Opd)
  | copy (sz : Nat) (x y : Opd)
  | cap (x : Opd)
  | clr (sz : Nat) (z : Value) (x : Opd)
  | appz (e : TypeId) (sz bytes : Nat) (z : Value) (x n : Opd)
  | aeq (neg : Bool) (ks : List EK) (x y : Opd)
  | slca (n sz : Nat) (x : Opd)
  | slcl (n sz : Nat) (x lo : Opd)
  | bts (x : Opd)
  | bad (f : Option FuncId) (xs : List Opd)
  deriving Inhabited

def isAg : TypeDesc → Bool
  | .struct _ => true
  | .array _ _ => true
  | _ => false

def partsOf (P : Program) (fs : Array Field) : List (Nat × Operand) → Option (List (Nat × Nat × Opd))
  | [] => some []
  | (i, x) :: l => match fs[i]? with
    | some fd => match P.info? fd.type with
      | some j => match partsOf P fs l with
        | some r => some ((fd.offset, j.size, Opd.of x) :: r)
        | _ => none
      | _ => none
    | _ => none
/-- The cells of a struct of numbers, texts and truth values. -/
def eqKinds (P : Program) : Nat → List Field → Option (List EK)
  | _, [] => some []
  | o, f :: fs => if f.name ≠ "_" ∧ f.offset = o then match P.underlying f.type with
      | some (.int _) => (eqKinds P (o + 1) fs).map (.i :: ·)
      | some .string => (eqKinds P (o + 1) fs).map (.s :: ·)
      | some .bool => (eqKinds P (o + 1) fs).map (.b :: ·)
      | _ => none
    else none
/-- The program's tables read: an operation for the logic. -/
def comp0 (P : Program) (o : Oper) : Option AOp :=
  match o.op with
  | .move x => some (.mov (.of x))
  | .assign x => some (.mov (.of x))
  | .pick c x y => some (.pick (.of c) (.of x) (.of y))
  | .binOp op ty x y _ => match P.underlying ty with
    | some .bool => match op with
      | .eql => some (.beq false (.of x) (.of y))
      | .neq => some (.beq true (.of x) (.of y))
      | _ => none
    | some (.slice _) => match y with
      | .const (.slice none _ _) => match op with
        | .eql => some (.nilS false (.of x))
        | .neq => some (.nilS true (.of x))
        | _ => none
      | _ => none
    | some (.pointer _) => match y with
      | .const (.pointer none) => match op with
        | .eql => some (.nilP false (.of x))
        | .neq => some (.nilP true (.of x))
        | _ => none
      | _ => none
    | some (.interface _) => match y with
      | .const .nilIface => match op with
        | .eql => some (.nilI false (.of x))
        | .neq => some (.nilI true (.of x))
        | _ => none
      | _ => none
    | some (.struct fs) => if P.stoodInHeld ty = false ∧ P.eqGuardType P.depth ty = false then match eqKinds P 0 fs.toList with
        | some ks => match op with
          | .eql => some (.aeq false ks (.of x) (.of y))
          | .neq => some (.aeq true ks (.of x) (.of y))
          | _ => none
        | none => none
      else none
    | _ => some (.bin op ty (.of x) (.of y))
  | .unOp op _ x => some (.un op (.of x))
  | .load ty p => match P.underlying ty, P.info? ty with
    | some d, some i => some (.load i.size (isAg d) (.of p))
    | _, _ => none
  | .store ty p x => match P.info? ty with
    | some i => some (.store i.size (.of p) (.of x))
    | _ => none
  | .fieldAddr ty p f => match P.underlying ty with
    | some (.struct fs) => match fs[f]? with
      | some fd => match P.info? fd.type with
        | some i => if i.size = 0 then none else some (.fld fd.offset (.of p))
        | _ => none
      | _ => none
    | _ => none
  | .field ty x f => match P.underlying ty with
    | some (.struct fs) => match fs[f]? with
      | some fd => match P.underlying fd.type, P.info? fd.type with
        | some d, some i => some (.part fd.offset i.size (isAg d) (.of x))
        | _, _ => none
      | _ => none
    | _ => none
  | .indexAddr ty x ix => match P.underlying ty with
    | some (.slice e) => match P.info? e with
      | some i => some (.idx i.size (.of x) (.of ix))
      | _ => none
    | some (.array n e) => match P.info? e with
      | some i => some (.idxa n i.size (.of x) (.of ix))
      | _ => none
    | _ => none
  | .index ty x ix => match P.underlying ty with
    | some (.array n e) => match P.underlying e, P.info? e with
      | some d, some i => some (.idxv n i.size (isAg d) (.of x) (.of ix))
      | _, _ => none
    | some .string => some (.sidx (.of x) (.of ix))
    | _ => none
  | .alloc e => match P.info? e with
    | some i => match i.zero with
      | some z => some (.alloc e z)
      | _ => none
    | _ => none
  | .box e x => some (.box e (.of x))
  | .build ty parts => match P.info? ty with
    | some i => match i.zero with
      | some z => match P.underlying ty with
        | some (.struct fs) => if fs.all fun fd => (P.info? fd.type).isSome then (partsOf P fs parts.toList).map fun l => .build z l else none
        | some (.array _ e) => match P.info? e with
          | some j => some (.build z (parts.toList.map fun (p : Nat × Operand) => (p.1 * j.size, j.size, Opd.of p.2)))
          | _ => none
        | _ => none
      | _ => none
    | _ => none
  | .buildSlice ty len parts => match P.underlying ty with
    | some (.slice e) => match P.info? e with
      | some i => if parts.toList.map (·.1) = List.range len ∧ len * i.size ≤ 2 ^ 24 ∧ i.size ≠ 0 ∧ i.zero.isSome then some (.bsl e i.size len (parts.toList.map fun (p : Nat × Operand) => (p.1, Opd.of p.2))) else none
      | _ => none
    | _ => none
  | .makeSlice ty l c => match P.underlying ty with
    | some (.slice e) => match P.info? e with
      | some i => match i.zero with
        | some z => if z.cells.size = i.size ∧ i.size ≠ 0 then some (.mksl e i.size i.bytes z (.of l) (.of c)) else none
        | _ => none
      | _ => none
    | _ => none
  | .slice ty x lo hi mx => match P.underlying ty with
    | some (.slice e) => match P.info? e with
      | some i => some (.slc i.size (.of x) (lo.map .of) (hi.map .of) (mx.map .of))
      | _ => none
    | some .string => if mx.isSome then none else some (.slcs (.of x) (lo.map .of) (hi.map .of))
    | some (.pointer ar) => if lo.isSome ∨ hi.isSome ∨ mx.isSome then (if hi.isSome ∨ mx.isSome then none else match lo, P.underlying ar with
        | some l, some (.array n e) => match P.info? e with
          | some i => some (.slcl n i.size (.of x) (.of l))
          | _ => none
        | _, _ => none) else match P.underlying ar with
      | some (.array n e) => match P.info? e with
        | some i => some (.slca n i.size (.of x))
        | _ => none
      | _ => none
    | some (.array n e) => if lo.isSome ∨ hi.isSome ∨ mx.isSome then (if hi.isSome ∨ mx.isSome then none else match lo with
        | some l => match P.info? e with
          | some i => some (.slcl n i.size (.of x) (.of l))
          | _ => none
        | _ => none) else match P.info? e with
      | some i => some (.slca n i.size (.of x))
      | _ => none
    | _ => none
  | .nilCheck x => some (.nilc (.of x))
  | .extract x i => some (.ext i (.of x))
  | .makeFunc (.func f) first caps => if first.isEmpty then some (.mkfn f (caps.toList.map .of)) else none
  | .convert src dst x => match P.underlying src, P.underlying dst with
    | some (.int _), some (.int k) => some (.itoi k (.of x))
    | some .string, some (.slice e) => match P.underlying e with
      | some (.int .u8) => some (.stb e (.of x))
      | _ => none
    | some (.slice e), some .string => match P.underlying e with
      | some (.int .u8) => some (.bts (.of x))
      | _ => none
    | _, _ => none
  | .call c => match c.callee with
    | .builtin .len => match c.args.toList, c.argTypes.toList with
      | [x], [ty] => match P.underlying ty with
        | some .string => some (.lens (.of x))
        | some (.slice _) => some (.len (.of x))
        | _ => none
      | _, _ => none
    | .builtin .max => match c.args.toList with
      | [x, y] => some (.mxi (.of x) (.of y))
      | _ => none
    | .builtin .min => match c.args.toList with
      | [x, y] => some (.mni (.of x) (.of y))
      | _ => none
    | .builtin .append => match c.args.toList, c.argTypes.toList with
      | [x, y], [tx, ty] => match P.underlying tx, P.underlying ty with
        | some (.slice e), some (.slice _) => match P.info? e with
          | some i => match i.zero with
            | some z => if z.cells.size = i.size ∧ i.size ≠ 0 ∧ i.bytes ≠ 0 then some (.app e i.size i.bytes z (.of x) (.of y)) else none
            | _ => none
          | _ => none
        | some (.slice e), some (.int .i64) => match P.info? e with
          | some i => match i.zero with
            | some z => if z.cells.size = i.size ∧ i.size ≠ 0 ∧ i.bytes ≠ 0 then some (.appz e i.size i.bytes z (.of x) (.of y)) else none
            | _ => none
          | _ => none
        | _, _ => none
      | _, _ => none
    | .builtin .cap => match c.args.toList, c.argTypes.toList with
      | [x], [ty] => match P.underlying ty with
        | some (.slice _) => some (.cap (.of x))
        | _ => none
      | _, _ => none
    | .builtin .clear => match c.args.toList, c.argTypes.toList with
      | [x], [ty] => match P.underlying ty with
        | some (.slice e) => match P.info? e with
          | some i => match i.zero with
            | some z => if z.cells.size = i.size then some (.clr i.size z (.of x)) else none
            | _ => none
          | _ => none
        | _ => none
      | _, _ => none
    | .builtin .copy => match c.args.toList, c.argTypes.toList with
      | [x, y], [tx, ty] => match P.underlying tx, P.underlying ty with
        | some (.slice e), some (.slice _) => match P.info? e with
          | some i => some (.copy i.size (.of x) (.of y))
          | _ => none
        | _, _ => none
      | _, _ => none
    | .value (.func f) => match P.funcs[f]? with
      | some fn => if fn.body.isSome ∧ fn.name ≠ "runtime.NumGoroutine" then some (.call f (c.args.toList.map .of)) else none
      | _ => none
    | .value f => some (.callv (.of f) (c.args.toList.map .of))
    | _ => none
  | _ => none

/-- A text appended to bytes: the operands and the type of the elements. -/
def apsOf (P : Program) : List Operand → List TypeId → List Opd
  | [x, y], [tx, ty] => match P.underlying tx, P.underlying ty with
    | some (.slice e), some .string => [.of x, .of y, .v (.int .i64 (e : Int))]
    | _, _ => []
  | _, _ => []
/-- What the logic does not know; of a call of a function without a body, its number and arguments. -/
def badOf (P : Program) (o : Oper) : AOp := match o.op with
  | .call c => match c.callee with
    | .value (.func f) => match P.funcs[f]? with
      | some fn => if fn.body.isNone then .bad (some f) (c.args.toList.map .of) else .bad none []
      | none => .bad none []
    | .builtin .append => .bad none (apsOf P c.args.toList c.argTypes.toList)
    | _ => .bad none []
  | _ => .bad none []
theorem badOf_bad (P : Program) (o : Oper) : ∃ f xs, badOf P o = .bad f xs := by
  unfold badOf
  repeat' split
  all_goals exact ⟨_, _, rfl⟩
/-- The program's tables read; what the logic does not know is 'bad'. -/
def comp (P : Program) (o : Oper) : Option AOp := some ((comp0 P o).getD (badOf P o))
theorem comp0_of {P : Program} {o : Oper} {ao : AOp} (h : comp P o = some ao) (hb : ∀ f xs, ao ≠ .bad f xs) : comp0 P o = some ao := by
  unfold comp at h
  cases hc : comp0 P o with
  | none =>
    rw [hc] at h
    obtain ⟨f, xs, e⟩ := badOf_bad P o
    simp [e] at h
    exact absurd h.symm (hb f xs)
  | some x => rw [hc] at h; simpa using h

def AOp.opds : AOp → List Opd
  | .bad _ xs => xs
  | .mov x | .un _ x | .nilS _ x | .nilI _ x | .nilP _ x | .load _ _ x | .fld _ x | .part _ _ _ x | .box _ x | .nilc x | .ext _ x | .len x | .lens x | .itoi _ x | .stb _ x | .cap x | .clr _ _ x | .slca _ _ x | .bts x => [x]
  | .pick c x y => [c, x, y]
  | .bin _ _ x y | .beq _ x y | .aeq _ _ x y | .store _ x y | .idx _ x y | .idxa _ _ x y | .idxv _ _ _ x y | .sidx x y | .mxi x y | .mni x y | .mksl _ _ _ _ x y | .app _ _ _ _ x y | .appz _ _ _ _ x y | .copy _ x y | .slcl _ _ x y => [x, y]
  | .alloc _ _ => []
  | .build _ ps => ps.map (·.2.2)
  | .bsl _ _ _ ps => ps.map (·.2)
  | .slc _ x lo hi mx => x :: (lo.toList ++ hi.toList ++ mx.toList)
  | .slcs x lo hi => x :: (lo.toList ++ hi.toList)
  | .mkfn _ xs => xs
  | .call _ xs => xs
  | .callv f xs => f :: xs

/-! ### Small functions on abstract values -/
def AV.strip : AV → AV
  | .opt _ x => x
  | x => x
def AV.guard : AV → Bool
  | .opt c _ => c
  | _ => true
def pickAV (c : Bool) : AV → AV → AV
  | .val (.bool p), .val (.bool q) => .val (.bool (bif c then p else q))
  | .val (.int k p), .val (.int k' q) => if k = k' then .val (.int k (bif c then p else q)) else .any
  | .val (.string p), .val (.string q) => .val (.string (bif c then p else q))
  | _, _ => .any
def intBin (op : BinOp) (k : IntKind) (a b : Int) : Option (AV × Prop) :=
  match op with
  | .add => some (.val (.int k (k.wrap (a + b))), True)
  | .sub => some (.val (.int k (k.wrap (a - b))), True)
  | .mul => some (.val (.int k (k.wrap (a * b))), True)
  | .quo => some (.val (.int k (k.wrap (a.tdiv b))), b ≠ 0)
  | .rem => some (.val (.int k (a.tmod b)), b ≠ 0)
  | .and => some (.val (.int k (k.wrap (BitVec.ofInt k.bits a &&& BitVec.ofInt k.bits b).toNat)), True)
  | .or => some (.val (.int k (k.wrap (BitVec.ofInt k.bits a ||| BitVec.ofInt k.bits b).toNat)), True)
  | .xor => some (.val (.int k (k.wrap (BitVec.ofInt k.bits a ^^^ BitVec.ofInt k.bits b).toNat)), True)
  | .eql => some (.val (.bool (a == b)), True)
  | .neq => some (.val (.bool (a != b)), True)
  | .lss => some (.val (.bool (decide (a < b))), True)
  | .leq => some (.val (.bool (decide (a ≤ b))), True)
  | .gtr => some (.val (.bool (decide (a > b))), True)
  | .geq => some (.val (.bool (decide (a ≥ b))), True)
  | _ => none
def strBin (op : BinOp) (a b : ByteArray) : Option (AV × Prop) :=
  match op with
  | .add => some (.val (.string (a ++ b)), a.size + b.size ≤ 9223372036854775807)
  | .eql => some (.val (.bool (a.toList == b.toList)), True)
  | .neq => some (.val (.bool (!(a.toList == b.toList))), True)
  | .lss => some (.val (.bool (Op.bytesLess a.toList b.toList)), True)
  | .leq => some (.val (.bool (Op.bytesLess a.toList b.toList || a.toList == b.toList)), True)
  | .gtr => some (.val (.bool (!(Op.bytesLess a.toList b.toList || a.toList == b.toList))), True)
  | .geq => some (.val (.bool (!(Op.bytesLess a.toList b.toList))), True)
  | _ => none
def binAV (op : BinOp) : AV → AV → Option (AV × Prop)
  | .val (.int k a), .val (.int k' b) => match op with
    | .shl => some (.val (.int k (k.wrap (a * 2 ^ min b.toNat k.bits))), 0 ≤ b)
    | .shr => some (.val (.int k (a.fdiv (2 ^ min b.toNat k.bits))), 0 ≤ b)
    | op => if k = k' then intBin op k a b else none
  | .val (.string a), .val (.string b) => strBin op a b
  | _, _ => none
def AV.cells : AV → List AV
  | .agg cs => cs
  | x => [x]
/-- A cell's value: no struct and no tuple. -/
def cellish : AV → Bool
  | .val (.agg _) => false
  | .val (.tuple _) => false
  | .val _ => true
  | .imm .. => true
  | .pim _ => true
  | .hnd .. => true
  | .ptr .. => true
  | .fn .. => true
  | _ => false
def splice (cs : List AV) (o : Nat) (xs : List AV) : List AV := cs.take o ++ (xs ++ cs.drop (o + xs.length))
def fillAV : List (Nat × Nat × AV) → List AV → List AV
  | [], cs => cs
  | (o, _, x) :: l, cs => fillAV l (splice cs o x.cells)
/-- It is known how many cells the value has. -/
def firm : AV → Prop
  | .any => False
  | .opt _ _ => False
  | .tup _ => False
  | .val (.agg _) => False
  | _ => True
def fillOb : List (Nat × Nat × AV) → List AV → Prop
  | [], _ => True
  | (o, n, x) :: l, cs => firm x ∧ x.cells.length = n ∧ o + n ≤ cs.length ∧ fillOb l (splice cs o x.cells)
def elsOb (sz : Nat) : List AV → Prop
  | [] => True
  | x :: xs => firm x ∧ x.cells.length = sz ∧ shutAll x.cells = true ∧ elsOb sz xs

/-- Structs compared cell by cell. -/
def eqCells : List EK → List AV → List AV → Option Bool
  | [], xs, ys => match xs, ys with
    | [], [] => some true
    | _, _ => none
  | .i :: ks, xs, ys => match xs, ys with
    | .val (.int k a) :: xs, .val (.int k' b) :: ys => if k = k' then (eqCells ks xs ys).map fun r => a == b && r else none
    | _, _ => none
  | .s :: ks, xs, ys => match xs, ys with
    | .val (.string a) :: xs, .val (.string b) :: ys => (eqCells ks xs ys).map fun r => a.toList == b.toList && r
    | _, _ => none
  | .b :: ks, xs, ys => match xs, ys with
    | .val (.bool a) :: xs, .val (.bool b) :: ys => (eqCells ks xs ys).map fun r => a == b && r
    | _, _ => none
def St.reg (s : St) (r : Nat) : Reg := s.rg.getD r .dead
/-- The cells that a pointer looks at: a list, where in it, and what must hold. -/
def ptrCells (s : St) : AV → Option (List AV × Nat × Prop)
  | .pim cs => some (cs, 0, True)
  | .ptr r i o => match s.reg r with
    | .box _ cs => some (cs, o, i = 0)
    | .arr _ _ els => some (els.getD i [], o, i < els.length)
    | .tab _ cs => some ([cs.getD i .any], o, i < cs.length)
    | .dead => none
  | _ => none

def optInt (ev : Opd → AV) : Option Opd → Option (Option Int)
  | none => some none
  | some x => match ev x with
    | .val (.int _ n) => some (some n)
    | _ => none

/-- An operation on a state: the value, the state, what must hold. -/
def aop (ev : Opd → AV) (s : St) : AOp → Option (AV × St × Prop)
  | .mov x => some (ev x, s, True)
  | .pick c x y => match ev c with
    | .val (.bool b) => some (pickAV b (ev x).strip (ev y).strip, s, (b = true → (ev x).guard = true) ∧ (b = false → (ev y).guard = true))
    | _ => none
  | .bin op _ x y => (binAV op (ev x) (ev y)).map fun (z, ob) => (z, s, ob)
  | .un op x => match op, ev x with
    | .not, .val (.bool b) => some (.val (.bool (!b)), s, True)
    | .neg, .val (.int k n) => some (.val (.int k (k.wrap (0 - n))), s, True)
    | _, _ => none
  | .nilS neg x => match ev x with
    | .imm (some b) _ _ _ => some (.val (.bool (bif neg then !b else b)), s, True)
    | .val (.slice none _ _) => some (.val (.bool (!neg)), s, True)
    | _ => none
  | .nilI neg x => match ev x with
    | .val .nilIface => some (.val (.bool (!neg)), s, True)
    | .val (.iface _ _) => some (.val (.bool neg), s, True)
    | _ => none
  | .nilP neg x => match ev x with
    | .val (.pointer none) => some (.val (.bool (!neg)), s, True)
    | .ptr _ _ _ => some (.val (.bool neg), s, True)
    | .pim _ => some (.val (.bool neg), s, True)
    | _ => none
  | .beq neg x y => match ev x, ev y with
    | .val (.bool b), .val (.bool c) => some (.val (.bool (bif neg then !(b == c) else (b == c))), s, True)
    | _, _ => none
  | .aeq neg ks x y => match ev x, ev y with
    | .agg xs, .agg ys => (eqCells ks xs ys).map fun b => (.val (.bool (bif neg then !b else b)), s, True)
    | _, _ => none
  | .load n ag p => (ptrCells s (ev p)).map fun (cs, o, ob) => (bif ag then .agg ((cs.drop o).take n) else cs.getD o .any, s, ob ∧ o + n ≤ cs.length ∧ (ag = false → n = 1))
  | .store n p x => match ev p with
    | .ptr r i o => match s.reg r with
      | .box e cs => some (.val undef, { s with rg := s.rg.set r (.box e (splice cs o (ev x).cells)) }, i = 0 ∧ (ev x).cells.length = n ∧ o + n ≤ cs.length ∧ (ev x).cells.all cellish = true)
      | .arr e sz els => some (.val undef, { s with rg := s.rg.set r (.arr e sz (els.set i (splice (els.getD i []) o (ev x).cells))) }, i < els.length ∧ (ev x).cells.length = n ∧ o + n ≤ sz ∧ (ev x).cells.all cellish = true ∧ shutAll (ev x).cells = true)
      | .tab e cs => some (.val undef, { s with rg := s.rg.set r (.tab e (cs.set i ((ev x).cells.getD 0 .any))) }, i < cs.length ∧ (ev x).cells.length = 1 ∧ n = 1 ∧ o = 0 ∧ (ev x).cells.all cellish = true)
      | .dead => none
    | _ => none
  | .fld off p => match ev p with
    | .pim cs => some (.pim (cs.drop off), s, True)
    | .ptr r i o => some (.ptr r i (o + off), s, True)
    | _ => none
  | .idx sz x i => match ev i with
    | .val (.int _ n) => match ev x with
      | .imm _ _ sz' els => bif sz' == sz then some (.pim (els.getD n.toNat []), s, 0 ≤ n ∧ n < els.length) else none
      | .hnd r off m _ _ => match s.reg r with
        | .arr _ sz' _ => bif sz' == sz then some (.ptr r (off + n.toNat) 0, s, 0 ≤ n ∧ n < m) else none
        | .tab _ _ => bif 1 == sz then some (.ptr r (off + n.toNat) 0, s, 0 ≤ n ∧ n < m) else none
        | _ => none
      | _ => none
    | _ => none
  | .idxa len sz x i => match ev i with
    | .val (.int _ n) => match ev x with
      | .ptr r j o => some (.ptr r j (o + n.toNat * sz), s, 0 ≤ n ∧ n < len)
      | .pim cs => some (.pim (cs.drop (n.toNat * sz)), s, 0 ≤ n ∧ n < len)
      | _ => none
    | _ => none
  | .part off n ag x => match ev x with
    | .agg cs => some (bif ag then .agg ((cs.drop off).take n) else cs.getD off .any, s, off + n ≤ cs.length ∧ (ag = false → n = 1))
    | _ => none
  | .idxv len sz ag x i => match ev i with
    | .val (.int _ n) => match ev x with
      | .agg cs => some (bif ag then .agg ((cs.drop (n.toNat * sz)).take sz) else cs.getD (n.toNat * sz) .any, s, 0 ≤ n ∧ n < len ∧ n.toNat * sz + sz ≤ cs.length ∧ (ag = false → sz = 1))
      | _ => none
    | _ => none
  | .sidx x i => match ev i with
    | .val (.int _ n) => match ev x with
      | .val (.string b) => some (.val (.int .u8 (b.data.toList.getD n.toNat 0).toNat), s, 0 ≤ n ∧ n < b.size)
      | _ => none
    | _ => none
  | .alloc e z => some (.ptr s.rg.length 0 0, { s with rg := s.rg ++ [.box e (z.cells.toList.map .val)] }, True)
  | .box e x => some (.ptr s.rg.length 0 0, { s with rg := s.rg ++ [.box e (ev x).cells] }, firm (ev x))
  | .build z ps => some (.agg (fillAV (ps.map fun (o, n, x) => (o, n, ev x)) (z.cells.toList.map .val)), s, fillOb (ps.map fun (o, n, x) => (o, n, ev x)) (z.cells.toList.map .val))
  | .bsl e sz len ps => some (.hnd s.rg.length 0 len len true, { s with rg := s.rg ++ [.arr e sz (ps.map fun (_, x) => (ev x).cells)] }, elsOb sz (ps.map fun (_, x) => ev x))
  | .mksl e sz bytes z l c => match ev l, ev c with
    | .val (.int .i64 m), .val (.int .i64 n) => some (.hnd s.rg.length 0 n.toNat n.toNat true, { s with rg := s.rg ++ [.arr e sz (List.replicate n.toNat (z.cells.toList.map .val))] }, m = n ∧ 0 ≤ n ∧ n * bytes ≤ 281474976710656 ∧ n ≤ 9223372036854775807)
    | _, _ => none
  | .slc sz x lo hi mx => match optInt ev lo, optInt ev hi, optInt ev mx with
    | some lo, some hi, some mx => match ev x with
      | .imm nil full sz' els => bif sz' == sz then match mx with
        | none => let l := (lo.getD 0).toNat; let h := (hi.getD els.length).toNat
          some (.imm nil false sz ((els.take h).drop l), s, 0 ≤ lo.getD 0 ∧ lo.getD 0 ≤ hi.getD els.length ∧ hi.getD els.length ≤ els.length)
        | some m => let l := (lo.getD 0).toNat; let h := (hi.getD els.length).toNat
          some (.imm nil true sz ((els.take h).drop l), s, hi.isSome = true ∧ 0 ≤ lo.getD 0 ∧ lo.getD 0 ≤ hi.getD els.length ∧ hi.getD els.length ≤ els.length ∧ m = hi.getD els.length)
        else none
      | .hnd r off n k ex => match s.reg r with
        | .arr _ sz' _ => bif sz' == sz then match mx with
          | none => let l := (lo.getD 0).toNat; let h := (hi.getD n).toNat
            some (.hnd r (off + l) (h - l) (k - l) ex, s, 0 ≤ lo.getD 0 ∧ lo.getD 0 ≤ hi.getD n ∧ hi.getD n ≤ k)
          | some m => let l := (lo.getD 0).toNat; let h := (hi.getD n).toNat
            some (.hnd r (off + l) (h - l) (m.toNat - l) true, s, hi.isSome = true ∧ 0 ≤ lo.getD 0 ∧ lo.getD 0 ≤ hi.getD n ∧ hi.getD n ≤ k ∧ hi.getD n ≤ m ∧ m ≤ k)
          else none
        | _ => none
      | .val (.slice none 0 0) => some (.val (.slice none 0 0), s, lo.getD 0 = 0 ∧ hi.getD 0 = 0 ∧ mx.getD 0 = 0 ∧ (mx.isSome = true → hi.isSome = true))
      | _ => none
    | _, _, _ => none
  | .slcs x lo hi => match optInt ev lo, optInt ev hi with
    | some lo, some hi => match ev x with
      | .val (.string b) => some (.val (.string (b.extract (lo.getD 0).toNat (hi.getD b.size).toNat)), s, 0 ≤ lo.getD 0 ∧ lo.getD 0 ≤ hi.getD b.size ∧ hi.getD b.size ≤ b.size)
      | _ => none
    | _, _ => none
  | .nilc x => match ev x with
    | .pim cs => some (.pim cs, s, True)
    | .ptr r i o => some (.ptr r i o, s, True)
    | .fn f caps => some (.fn f caps, s, True)
    | .val (.func g fs cs) => some (.val (.func g fs cs), s, ∃ f, g = .func f)
    | _ => none
  | .ext i x => match ev x with
    | .tup cs => some (cs.getD i .any, s, i < cs.length)
    | _ => none
  | .len x => match ev x with
    | .imm _ _ _ els => some (.val (.int .i64 els.length), s, True)
    | .hnd _ _ n _ _ => some (.val (.int .i64 n), s, True)
    | .val (.slice _ n _) => some (.val (.int .i64 n), s, True)
    | _ => none
  | .cap x => match ev x with
    | .imm _ true _ els => some (.val (.int .i64 els.length), s, True)
    | .hnd _ _ _ k true => some (.val (.int .i64 k), s, True)
    | .val (.slice none 0 0) => some (.val (.int .i64 0), s, True)
    | _ => none
  | .lens x => match ev x with
    | .val (.string b) => some (.val (.int .i64 b.size), s, True)
    | _ => none
  | .mxi x y => match ev x, ev y with
    | .val (.int k a), .val (.int k' b) => some (.val (.int k (max a b)), s, True)
    | _, _ => none
  | .mni x y => match ev x, ev y with
    | .val (.int k a), .val (.int k' b) => some (.val (.int k (min a b)), s, True)
    | _, _ => none
  | .mkfn f caps => some (.fn f (caps.map ev), s, True)
  | .itoi k x => match ev x with
    | .val (.int _ n) => some (.val (.int k (k.wrap n)), s, True)
    | _ => none
  | .stb e x => match ev x with
    | .val (.string b) => some (.imm (some false) false 1 (b.data.toList.map fun c => [.val (.int .u8 c.toNat)]), s, True)
    | _ => none
  | _ => none
end Go.Proofs.Ytoickofcmngdjaa.Aw

/- A logic of abstract states for walks: what an operation does to a state is what it does. Part 1. -/
set_option linter.unusedVariables false
set_option linter.unusedSimpArgs false
namespace Go.Proofs.Ytoickofcmngdjaa.Aw
open Go.RowKit

/-- The operation's result, and what holds behind it. 'st': it is the same in every world that has what this one has. -/
def Outc (E : Env) (s' : St) (z : AV) (a : Act) (w : World) (st mild : Bool) (r : World → Result Next) : Prop :=
  (∃ v ρ' ok', (∀ w', Ext w w' → r w' = .ok (.value v) w') ∧ RelM E s' a w ρ' ok' ∧ R w ok' ρ' z v) ∨
  (st = false ∧ ∃ v w' ρ' ok', (r w = .ok (.value v) w' ∨ (r w = .ok .skip w' ∧ v = undef)) ∧ RelM E s' a w' ρ' ok' ∧ R w' ok' ρ' z v ∧ (mild = true → Ext w w'))

section
variable {P : Program} {E : Env} {s s' : St} {a : Act} {w : World} {ρ : Nat → Option (Option Place)} {ok : Nat → Prop} {ev : Opd → AV} {z : AV}

theorem run_value {x : Sem Value} {v : Value} {w' : World} (h : x.run P w = .ok v w') : (do pure (Next.value (← x)) : Sem Next).run P w = .ok (.value v) w' := by simp [h]
theorem run_unit {x : Sem Unit} {w' : World} (h : x.run P w = .ok () w') : (do x; pure Next.skip : Sem Next).run P w = .ok .skip w' := by simp [h]
theorem Outc.same (hr : RelM E s a w ρ ok) {v : Value} {r : World → Result Next} {st m : Bool} (h : ∀ w', Ext w w' → r w' = .ok (.value v) w') (hz : R w ok ρ z v) : Outc E s z a w st m r :=
  .inl ⟨v, ρ, ok, h, hr, hz⟩
theorem Outc.new {v : Value} {w' : World} {ρ' ok'} {r : World → Result Next} {m : Bool} (h : r w = .ok (.value v) w' ∨ (r w = .ok .skip w' ∧ v = undef)) (hr : RelM E s' a w' ρ' ok') (hz : R w' ok' ρ' z v) (hm : m = true → Ext w w') : Outc E s' z a w false m r :=
  .inr ⟨rfl, v, w', ρ', ok', h, hr, hz, hm⟩

theorem Ext.cell {w w' : World} (he : Ext w w') {b o : Nat} {v : Value} (h : w.cell? ⟨b, o, none⟩ = some v) : w'.cell? ⟨b, o, none⟩ = some v := by
  have hb : b < w.heap.size := by
    rcases Nat.lt_or_ge b w.heap.size with h1 | h1
    · exact h1
    · simp [World.cell?, Array.getElem?_eq_none h1] at h
  rw [cell_same (he.block b hb)]; exact h
/-! #### Opening -/
theorem R_val {x v : Value} (h : R w ok ρ (.val x) v) : v = x := by unfold R at h; exact h
theorem R_val_mk (x : Value) : R w ok ρ (.val x) x := by unfold R; rfl
theorem R_agg {cs : List AV} {v : Value} (h : R w ok ρ (.agg cs) v) : ∃ vs : Array Value, v = .agg vs ∧ RList w ok ρ cs vs.toList := by unfold R at h; exact h
theorem R_tup {cs : List AV} {v : Value} (h : R w ok ρ (.tup cs) v) : ∃ vs : Array Value, v = .tuple vs ∧ RList w ok ρ cs vs.toList := by unfold R at h; exact h
theorem R_agg_mk {cs : List AV} {vs : Array Value} (h : RList w ok ρ cs vs.toList) : R w ok ρ (.agg cs) (.agg vs) := by unfold R; exact ⟨vs, rfl, h⟩
theorem R_strip {x : AV} {v : Value} (hg : x.guard = true) (h : R w ok ρ x v) : R w ok ρ x.strip v := by
  cases x with
  | opt c y => unfold R at h; exact h.1 hg
  | _ => exact h

theorem pickAV_ok {b : Bool} {x y : AV} {vx vy : Value} (hx : b = true → R w ok ρ x vx) (hy : b = false → R w ok ρ y vy) : R w ok ρ (pickAV b x y) (bif b then vx else vy) := by
  unfold pickAV
  split
  · cases b
    · have := R_val (hy rfl); simp [this]; exact R_val_mk _
    · have := R_val (hx rfl); simp [this]; exact R_val_mk _
  · split
    · rename_i hk
      cases b
      · have := R_val (hy rfl); simp [this, hk]; exact R_val_mk _
      · have := R_val (hx rfl); simp [this, hk]; exact R_val_mk _
    · unfold R; trivial
  · cases b
    · have := R_val (hy rfl); simp [this]; exact R_val_mk _
    · have := R_val (hx rfl); simp [this]; exact R_val_mk _
  · unfold R; trivial

theorem run_intDiv_quo {k : IntKind} {x y : Int} (h : y ≠ 0) : (Op.intDiv .quo k x y).run P w = .ok (.int k (k.wrap (x.tdiv y))) w := by
  unfold Op.intDiv; rw [if_neg h]; rfl
theorem run_intDiv_rem {k : IntKind} {x y : Int} (h : y ≠ 0) : (Op.intDiv .rem k x y).run P w = .ok (.int k (x.tmod y)) w := by
  unfold Op.intDiv; rw [if_neg h]; rfl
theorem intBin_ok {op : BinOp} {k : IntKind} {x y : Int} {ob : Prop} (h : intBin op k x y = some (z, ob)) (hob : ob) (hs : op ≠ .shl ∧ op ≠ .shr) (ty : TypeId) :
    ∃ v, z = .val v ∧ ∀ w, (binOp op ty (.int k x) (.int k y)).run P w = .ok v w := by
  cases op <;> simp only [intBin, Option.some.injEq, Prod.mk.injEq, reduceCtorEq] at h
  case quo =>
    obtain ⟨rfl, rfl⟩ := h
    refine ⟨_, rfl, fun w => ?_⟩
    simp only [binOp, ne_eq, not_true_eq_false, if_false]
    exact run_intDiv_quo hob
  case rem =>
    obtain ⟨rfl, rfl⟩ := h
    refine ⟨_, rfl, fun w => ?_⟩
    simp only [binOp, ne_eq, not_true_eq_false, if_false]
    exact run_intDiv_rem hob
  all_goals
    obtain ⟨rfl, rfl⟩ := h
    refine ⟨_, rfl, fun w => ?_⟩
    simp [binOp, Op.intArith, Op.intBits, Op.intCmp]

theorem strBin_ok {op : BinOp} {x y : ByteArray} {ob : Prop} (h : strBin op x y = some (z, ob)) (hob : ob) (ty : TypeId) :
    ∃ v, z = .val v ∧ ∀ w, (binOp op ty (.string x) (.string y)).run P w = .ok v w := by
  cases op <;> simp only [strBin, Option.some.injEq, Prod.mk.injEq, reduceCtorEq] at h
  case add =>
    obtain ⟨rfl, rfl⟩ := h
    refine ⟨_, rfl, fun w => ?_⟩
    have hm : ¬ ((x.size + y.size : Nat) : Int) > IntKind.i64.max := by
      have : IntKind.i64.max = 9223372036854775807 := by decide
      omega
    simp only [binOp, Op.stringOp]
    rw [if_neg hm]; rfl
  all_goals
    obtain ⟨rfl, rfl⟩ := h
    refine ⟨_, rfl, fun w => ?_⟩
    simp [binOp, Op.stringOp]

theorem binAV_ok {op : BinOp} {x y : AV} {vx vy : Value} {ob : Prop} (h : binAV op x y = some (z, ob)) (hob : ob) (hx : R w ok ρ x vx) (hy : R w ok ρ y vy) (ty : TypeId) (ox oy : Operand) :
    ∃ v, (∀ w, (do eqGuard op ty ox oy vx vy; binOp op ty vx vy : Sem Value).run P w = .ok v w) ∧ R w ok ρ z v := by
  unfold binAV at h
  split at h
  · rename_i k x1 k' y1
    obtain rfl := R_val hx
    obtain rfl := R_val hy
    have hg : ∀ w, (eqGuard op ty ox oy (.int k x1) (.int k' y1)).run P w = .ok () w := fun w => by unfold eqGuard; cases op <;> rfl
    split at h
    · simp only [Option.some.injEq, Prod.mk.injEq] at h
      obtain ⟨rfl, rfl⟩ := h
      refine ⟨_, fun w => ?_, R_val_mk _⟩
      simp only [Sem.run_bind, hg, Result.andThen_ok]
      simp only [binOp, Op.shift]
      rw [if_neg (by omega)]; rfl
    · simp only [Option.some.injEq, Prod.mk.injEq] at h
      obtain ⟨rfl, rfl⟩ := h
      refine ⟨_, fun w => ?_, R_val_mk _⟩
      simp only [Sem.run_bind, hg, Result.andThen_ok]
      simp only [binOp, Op.shift]
      rw [if_neg (by omega)]; rfl
    · rename_i h1 h2
      split at h
      · rename_i hk
        subst hk
        obtain ⟨v, rfl, hv⟩ := intBin_ok (P := P) h hob ⟨fun e => h1 e, fun e => h2 e⟩ ty
        refine ⟨v, fun w => ?_, R_val_mk _⟩
        simp only [Sem.run_bind, hg, Result.andThen_ok]
        exact hv w
      · cases h
  · rename_i x1 y1
    obtain rfl := R_val hx
    obtain rfl := R_val hy
    obtain ⟨v, rfl, hv⟩ := strBin_ok (P := P) h hob ty
    have hg : ∀ w, (eqGuard op ty ox oy (.string x1) (.string y1)).run P w = .ok () w := fun w => by unfold eqGuard; cases op <;> rfl
    refine ⟨v, fun w => ?_, R_val_mk _⟩
    simp only [Sem.run_bind, hg, Result.andThen_ok]
    exact hv w
  · cases h

/-! #### Pointers -/
theorem reg_some {rg : List Reg} {r : Nat} {g : Reg} (h : rg.getD r .dead = g) (hg : g ≠ .dead) : rg[r]? = some g := by
  rw [List.getD_eq_getElem?_getD] at h
  cases hr : rg[r]? with
  | none => rw [hr] at h; exact absurd h.symm hg
  | some g' => rw [hr] at h; simpa using h

theorem flatten_get {els : List (List AV)} {sz : Nat} (hl : ∀ el ∈ els, el.length = sz) : ∀ (i j : Nat) (el : List AV) (x : AV), els[i]? = some el → el[j]? = some x → els.flatten[i * sz + j]? = some x := by
  induction els with
  | nil => intro i j el x h; simp at h
  | cons e els ih =>
    intro i j el x h hx
    have he : e.length = sz := hl e List.mem_cons_self
    cases i with
    | zero =>
      obtain rfl : e = el := by simpa using h
      have hj : j < e.length := (List.getElem?_eq_some_iff.1 hx).1
      simp only [List.flatten_cons, Nat.zero_mul, Nat.zero_add]
      rw [List.getElem?_append_left hj]; exact hx
    | succ i =>
      have h1 := ih (fun el hm => hl el (List.mem_cons_of_mem _ hm)) i j el x (by simpa using h) hx
      simp only [List.flatten_cons]
      rw [List.getElem?_append_right (by rw [he, Nat.succ_mul]; omega), he, show (i + 1) * sz + j - sz = i * sz + j by rw [Nat.succ_mul]; omega]
      exact h1

theorem ptrCells_ok (hr : RelM E s a w ρ ok) {x : AV} {v : Value} {cs : List AV} {o : Nat} {ob : Prop} (h : ptrCells s x = some (cs, o, ob)) (hob : ob) (hx : R w ok ρ x v) :
    ∃ b o', v = .pointer (some ⟨b, o', none⟩) ∧ ∀ j y, cs[o + j]? = some y → ∃ u, w.cell? ⟨b, o' + j, none⟩ = some u ∧ R w ok ρ y u := by
  unfold ptrCells at h
  split at h
  · simp only [Option.some.injEq, Prod.mk.injEq] at h; obtain ⟨rfl, rfl, rfl⟩ := h
    unfold R Rc at hx
    obtain ⟨b, o', rfl, h1, h2⟩ := hx
    refine ⟨b, o', rfl, fun j y hy => ?_⟩
    obtain ⟨u, h3, h4⟩ := RcCells_get h2 j y (by simpa using hy)
    exact ⟨u, h3, R_of_Rc _ _ h4⟩
  · rename_i r i o1
    unfold R at hx
    obtain ⟨p, h1, rfl⟩ := hx
    split at h
    · rename_i e cs' hg
      simp only [Option.some.injEq, Prod.mk.injEq] at h; obtain ⟨rfl, rfl, rfl⟩ := h
      obtain ⟨b, C, h2, h3, h4⟩ := hr.mem.reg r _ (reg_some hg (by simp))
      rw [h1] at h2
      obtain rfl := by simpa using h2
      refine ⟨b, _, rfl, fun j y hy => ?_⟩
      obtain ⟨u, h5, h6⟩ := RList_get h4 _ y hy
      refine ⟨u, ?_, h6⟩
      rw [cell_of h3]
      simp only [hob, Nat.zero_mul, Nat.zero_add]
      rw [← Array.getElem?_toList]; exact h5
    · rename_i e sz els hg
      simp only [Option.some.injEq, Prod.mk.injEq] at h; obtain ⟨rfl, rfl, rfl⟩ := h
      rcases hr.mem.reg r _ (reg_some hg (by simp)) with ⟨b, d, C, pre, vs, rest, h2, h3, h4, h5, h6, h7⟩ | ⟨h2, h3⟩
      · rw [h1] at h2
        obtain rfl := by simpa using h2
        refine ⟨b, _, rfl, fun j y hy => ?_⟩
        have hel : els[i]? = some (els.getD i []) := by
          rw [List.getD_eq_getElem?_getD, List.getElem?_eq_getElem hob]; rfl
        have hfl := flatten_get h6 i (o1 + j) _ y hel hy
        obtain ⟨u, h8, h9⟩ := RcList_get h7 _ y hfl
        refine ⟨u, ?_, R_of_Rc _ _ h9⟩
        rw [cell_of h3, ← Array.getElem?_toList, h4]
        dsimp only
        rw [List.getElem?_append_right (by omega), h5, show d + i * sz + o1 + j - d = i * sz + (o1 + j) by omega]
        have hlt : i * sz + (o1 + j) < vs.length := (List.getElem?_eq_some_iff.1 h8).1
        rw [List.getElem?_append_left hlt]; exact h8
      · rw [h2] at hob; simp at hob
    · rename_i e cs' hg
      simp only [Option.some.injEq, Prod.mk.injEq] at h; obtain ⟨rfl, rfl, rfl⟩ := h
      rcases hr.mem.reg r _ (reg_some hg (by simp)) with ⟨b, d, C, pre, vs, rest, h2, h3, h4, h5, h7⟩ | ⟨h2, h3⟩
      · rw [h1] at h2
        obtain rfl := by simpa using h2
        refine ⟨b, _, rfl, fun j y hy => ?_⟩
        obtain ⟨hoj, rfl⟩ : o1 + j = 0 ∧ y = cs'.getD i .any := by
          cases hoj : o1 + j with
          | zero => rw [hoj] at hy; exact ⟨rfl, by simpa using hy.symm⟩
          | succ n => rw [hoj] at hy; simp at hy
        obtain ⟨u, h8, h9⟩ := RList_get h7 i (cs'.getD i .any) (by rw [List.getD_eq_getElem?_getD, List.getElem?_eq_getElem hob]; rfl)
        refine ⟨u, ?_, h9⟩
        rw [cell_of h3, ← Array.getElem?_toList, h4]
        dsimp only
        rw [List.getElem?_append_right (by omega), h5, show d + i * 1 + o1 + j - d = i by omega]
        have hlt : i < vs.length := (List.getElem?_eq_some_iff.1 h8).1
        rw [List.getElem?_append_left hlt]; exact h8
      · rw [h2] at hob; simp at hob
    · cases h
  · cases h

theorem run_isAgg {d : TypeDesc} {ty : TypeId} (hd : P.underlying ty = some d) : (isAgg ty).run P w = .ok (isAg d) w := by
  unfold isAgg underlying
  simp [hd]
  cases d <;> rfl
theorem run_sizeOf {i : TypeInfo} {ty : TypeId} (hi : P.info? ty = some i) : (sizeOf ty).run P w = .ok i.size w := by
  unfold sizeOf typeInfo
  simp [hi]
theorem run_underlying {d : TypeDesc} {ty : TypeId} (hd : P.underlying ty = some d) : (underlying ty).run P w = .ok d w := by
  unfold underlying
  simp [hd]

theorem load_ok (hr : RelM E s a w ρ ok) {d : TypeDesc} {i : TypeInfo} {ty : TypeId} (hd : P.underlying ty = some d) (hi : P.info? ty = some i) {x : AV} {v : Value} (hx : R w ok ρ x v)
    {cs : List AV} {o : Nat} {ob : Prop} (h : ptrCells s x = some (cs, o, ob)) (hob : ob) (hn : o + i.size ≤ cs.length) (h1 : isAg d = false → i.size = 1) :
    ∃ b o' u, v = .pointer (some ⟨b, o', none⟩) ∧ (∀ w', Ext w w' → (loadVar ty ⟨b, o', none⟩).run P w' = .ok u w') ∧ R w ok ρ (bif isAg d then .agg ((cs.drop o).take i.size) else cs.getD o .any) u := by
  obtain ⟨b, o', rfl, hc⟩ := ptrCells_ok hr h hob hx
  have hat : CellsAt w ok ρ b o' ((cs.drop o).take i.size) := fun j y hy => by
    have hj : j < i.size := by
      rcases Nat.lt_or_ge j i.size with h | h
      · exact h
      · rw [List.getElem?_take, if_neg (by omega)] at hy; cases hy
    rw [List.getElem?_take, if_pos hj, List.getElem?_drop] at hy
    exact hc j y hy
  obtain ⟨us, h2, h3⟩ := hat.vals
  have hl : us.length = i.size := by rw [RList_length h2]; simp; omega
  cases hag : isAg d with
  | true =>
    refine ⟨b, o', .agg us.toArray, rfl, fun w' he => ?_, R_agg_mk h2⟩
    have := run_loadCells (P := P) (w := w') (b := b) (o := o') us 0 #[] (fun j u hu => Ext.cell he (by simpa using h3 j u hu))
    rw [hl] at this
    simp [loadVar, run_isAgg hd, hag, run_sizeOf hi, loadCells, this]
  | false =>
    have hs := h1 hag
    obtain ⟨y, hy⟩ : ∃ y, cs[o]? = some y := ⟨_, List.getElem?_eq_getElem (by omega)⟩
    obtain ⟨u, h4, h5⟩ := hc 0 y (by simpa using hy)
    refine ⟨b, o', u, rfl, fun w' he => ?_, ?_⟩
    · simp only [Nat.add_zero] at h4
      replace h4 := Ext.cell he h4
      simp [loadVar, run_isAgg hd, hag, h4]
    · simp only [cond_false, List.getD_eq_getElem?_getD, hy]; exact h5
theorem snd_load (hr : RelM E s a w ρ ok) {d : TypeDesc} {i : TypeInfo} {ty : TypeId} (hd : P.underlying ty = some d) (hi : P.info? ty = some i) {x : AV} {v : Value} (hx : R w ok ρ x v)
    {cs : List AV} {o : Nat} {ob : Prop} (h : ptrCells s x = some (cs, o, ob)) (hob : ob) (hn : o + i.size ≤ cs.length) (h1 : isAg d = false → i.size = 1) :
    Outc E s (bif isAg d then .agg ((cs.drop o).take i.size) else cs.getD o .any) a w true true (fun w => (do pure (Next.value (← Instr.loadAt ty v)) : Sem Next).run P w) := by
  obtain ⟨b, o', u, rfl, h2, h3⟩ := load_ok (P := P) hr hd hi hx h hob hn h1
  refine Outc.same hr (fun w' he => run_value ?_) h3
  simp [Instr.loadAt, Instr.sureAddr, h2 w' he]
end
end Go.Proofs.Ytoickofcmngdjaa.Aw

/- A logic of abstract states for walks: what an operation does to a state is what it does. Part 2. -/
set_option linter.unusedVariables false
set_option linter.unusedSimpArgs false
namespace Go.Proofs.Ytoickofcmngdjaa.Aw
open Go.RowKit

section
variable {P : Program} {E : Env} {s s' : St} {a : Act} {w : World} {ρ : Nat → Option (Option Place)} {ok : Nat → Prop} {ev : Opd → AV} {z : AV}

/-! #### Stores -/
theorem cellish_one {x : AV} {v : Value} (h : cellish x = true) (hx : R w ok ρ x v) : v.oneCell' = true ∧ x.cells = [x] ∧ v.cells = #[v] := by
  cases x with
  | val y =>
    obtain rfl := R_val hx
    cases v <;> first | exact ⟨rfl, rfl, rfl⟩ | (simp [cellish] at h)
  | imm => unfold R Rc at hx; obtain ⟨A, c, rfl, _⟩ := hx; exact ⟨rfl, rfl, rfl⟩
  | pim => unfold R Rc at hx; obtain ⟨b, o, rfl, _⟩ := hx; exact ⟨rfl, rfl, rfl⟩
  | hnd => unfold R at hx; rcases hx with ⟨p, cc, ad, _, rfl, _⟩ | ⟨_, rfl, _⟩ <;> exact ⟨rfl, rfl, rfl⟩
  | ptr => unfold R at hx; obtain ⟨p, _, rfl⟩ := hx; exact ⟨rfl, rfl, rfl⟩
  | fn => unfold R at hx; obtain ⟨vs, rfl, _⟩ := hx; exact ⟨rfl, rfl, rfl⟩
  | any => simp [cellish] at h
  | agg => simp [cellish] at h
  | tup => simp [cellish] at h
  | opt => simp [cellish] at h

theorem cells_ok {x : AV} {v : Value} (hf : firm x) (hx : R w ok ρ x v) : RList w ok ρ x.cells v.cells.toList := by
  have one : ∀ {y : AV} {u : Value}, R w ok ρ y u → RList w ok ρ [y] [u] := fun h => by
    unfold RList; exact ⟨_, [], rfl, h, by unfold RList; rfl⟩
  cases x with
  | agg cs => obtain ⟨vs, rfl, h⟩ := R_agg hx; exact h
  | val y =>
    have hx' := hx
    obtain rfl := R_val hx
    cases v <;> first | exact one hx' | exact hf.elim
  | imm =>
    have hx' := hx
    unfold R Rc at hx; obtain ⟨A, c, rfl, _⟩ := hx; exact one hx'
  | pim =>
    have hx' := hx
    unfold R Rc at hx; obtain ⟨b, o, rfl, _⟩ := hx; exact one hx'
  | hnd =>
    have hx' := hx
    unfold R at hx; rcases hx with ⟨p, cc, ad, _, rfl, _⟩ | ⟨_, rfl, _⟩ <;> exact one hx'
  | ptr =>
    have hx' := hx
    unfold R at hx; obtain ⟨p, _, rfl⟩ := hx; exact one hx'
  | fn =>
    have hx' := hx
    unfold R at hx; obtain ⟨vs, rfl, _⟩ := hx; exact one hx'
  | any => exact hf.elim
  | tup => exact hf.elim
  | opt => exact hf.elim
theorem firm_of_cellish {x : AV} (h : x.cells.all cellish = true) : firm x := by
  cases x with
  | val y => cases y <;> first | trivial | simp [AV.cells, cellish] at h
  | any => simp [AV.cells, cellish] at h
  | opt => simp [AV.cells, cellish] at h
  | tup => simp [AV.cells, cellish] at h
  | _ => trivial

theorem all_one : ∀ {xs : List AV} {vs : List Value}, xs.all cellish = true → RList w ok ρ xs vs → ∀ u ∈ vs, u.oneCell' = true
  | [], vs, _, h, u, hu => by unfold RList at h; subst h; cases hu
  | x :: xs, vs, hc, h, u, hu => by
    unfold RList at h
    obtain ⟨v, vs', rfl, h1, h2⟩ := h
    simp only [List.all_cons, Bool.and_eq_true] at hc
    rcases List.mem_cons.1 hu with rfl | hu
    · exact (cellish_one hc.1 h1).1
    · exact all_one hc.2 h2 u hu

theorem run_storeCells {b o : Nat} {e : TypeId} : ∀ (us : List Value) (i : Nat) (w : World) (C : Array Value), hpB w b = some (.cells C e (0, 0)) → o + i + us.length ≤ C.size → (∀ u ∈ us, u.oneCell' = true) →
    ∃ w', ∃ C' : Array Value, (storeCells ⟨b, o, none⟩ us i).run P w = .ok () w' ∧ hpB w' b = some (.cells C' e (0, 0)) ∧ C'.toList = C.toList.take (o + i) ++ (us ++ C.toList.drop (o + i + us.length)) ∧
      (∀ k, k ≠ b → w'.heap[k]? = w.heap[k]?) ∧ w'.heap.size = w.heap.size ∧ w'.os = w.os ∧ w'.tape = w.tape ∧ w'.output = w.output
  | [], i, w, C, hC, _, _ => ⟨w, C, rfl, hC, by simp, fun _ _ => rfl, rfl, rfl, rfl, rfl⟩
  | u :: us, i, w, C, hC, hl, h1 => by
    simp only [List.length_cons] at hl
    obtain ⟨fr, hC0, hfr⟩ := hpB_inv hC
    have hcell : w.cell? ⟨b, o + i, none⟩ = some (C[o + i]'(by omega)) := by rw [cell_of0 hC0, Array.getElem?_eq_getElem]
    have hfz : w.frozen? ⟨b, o + i, none⟩ = false := by
      rcases hfr with rfl | ⟨_, hfr⟩
      · simp [World.frozen?, hC0]
      · simp [World.frozen?, hC0]; omega
    have hC' : hpB (w.setCell ⟨b, o + i, none⟩ u) b = some (.cells (C.setIfInBounds (o + i) u) e (0, 0)) := by
      have h0 : (w.setCell ⟨b, o + i, none⟩ u).heap[b]? = some (.cells (C.setIfInBounds (o + i) u) e fr) := by simp [World.setCell, Array.getElem?_modify, hC0]
      rcases hfr with rfl | ⟨h5, hfr⟩
      · exact hpB_of h0
      · unfold hpB; rw [h0]; dsimp only; rw [if_pos ⟨h5, by rw [Array.size_setIfInBounds]; exact hfr⟩]
    obtain ⟨w', C', h2, h3, h4, h5, h6, h7, h8, h9⟩ := run_storeCells (o := o) us (i + 1) (w.setCell ⟨b, o + i, none⟩ u) (C.setIfInBounds (o + i) u) hC' (by rw [Array.size_setIfInBounds]; omega) (fun x hx => h1 x (List.mem_cons_of_mem _ hx))
    refine ⟨w', C', ?_, h3, ?_, fun k hk => ?_, h6.trans (by simp [World.setCell]), h7, h8, h9⟩
    · simp only [storeCells, add_plain, Sem.run_bind]
      rw [run_store P w _ _ _ (h1 u List.mem_cons_self), hcell]
      simp only [hfz, Bool.false_eq_true, if_false, Result.andThen_ok]
      exact h2
    · rw [h4]
      simp only [Array.toList_setIfInBounds, List.length_cons]
      rw [show o + (i + 1) = o + i + 1 by omega, List.take_add_one, show o + i + (us.length + 1) = o + i + 1 + us.length by omega]
      rw [List.take_set_of_le (by omega), List.drop_set_of_lt (by omega)]
      simp [show o + i < C.size by omega]
    · rw [h5 k hk]
      simp [World.setCell, Array.getElem?_modify]
      intro e2; exact absurd e2.symm hk

theorem RList_splice {cs xs : List AV} {vs us : List Value} (h : RList w ok ρ cs vs) (hx : RList w ok ρ xs us) (o : Nat) (ho : o + xs.length ≤ cs.length) :
    RList w ok ρ (splice cs o xs) (vs.take o ++ (us ++ vs.drop (o + us.length))) := by
  have e1 : cs = cs.take o ++ (cs.drop o) := (List.take_append_drop o cs).symm
  rw [e1] at h
  obtain ⟨v1, v2, rfl, h1, h2⟩ := RList_split h
  have hl1 : v1.length = o := by rw [RList_length h1]; simp; omega
  have e2 : cs.drop o = (cs.drop o).take xs.length ++ cs.drop (o + xs.length) := by
    rw [← List.drop_drop, List.take_append_drop]
  rw [e2] at h2
  obtain ⟨v3, v4, rfl, h3, h4⟩ := RList_split h2
  have hl3 : v3.length = xs.length := by rw [RList_length h3]; simp; omega
  have hlu := RList_length hx
  unfold splice
  have t1 : (v1 ++ (v3 ++ v4)).take o = v1 := by rw [← hl1]; simp
  have t2 : (v1 ++ (v3 ++ v4)).drop (o + us.length) = v4 := by
    rw [← List.drop_drop, ← hl1, List.drop_left, hlu, ← hl3, List.drop_left]
  rw [t1, t2]
  exact RList_append h1 (RList_append hx h4)
theorem RcList_splice {cs xs : List AV} {vs us : List Value} (h : RcList w ok cs vs) (hx : RcList w ok xs us) (o : Nat) (ho : o + xs.length ≤ cs.length) :
    RcList w ok (splice cs o xs) (vs.take o ++ (us ++ vs.drop (o + us.length))) := by
  have e1 : cs = cs.take o ++ (cs.drop o) := (List.take_append_drop o cs).symm
  rw [e1] at h
  obtain ⟨v1, v2, rfl, h1, h2⟩ := RcList_split h
  have hl1 : v1.length = o := by rw [RcList_length h1]; simp; omega
  have e2 : cs.drop o = (cs.drop o).take xs.length ++ cs.drop (o + xs.length) := by
    rw [← List.drop_drop, List.take_append_drop]
  rw [e2] at h2
  obtain ⟨v3, v4, rfl, h3, h4⟩ := RcList_split h2
  have hl3 : v3.length = xs.length := by rw [RcList_length h3]; simp; omega
  have hlu := RcList_length hx
  unfold splice
  have t1 : (v1 ++ (v3 ++ v4)).take o = v1 := by rw [← hl1]; simp
  have t2 : (v1 ++ (v3 ++ v4)).drop (o + us.length) = v4 := by
    rw [← List.drop_drop, ← hl1, List.drop_left, hlu, ← hl3, List.drop_left]
  rw [t1, t2]
  exact RcList_append h1 (RcList_append hx h4)

theorem splice_length (cs xs : List AV) (o : Nat) (ho : o + xs.length ≤ cs.length) : (splice cs o xs).length = cs.length := by
  unfold splice; simp; omega

theorem flatten_length {sz : Nat} : ∀ {els : List (List AV)}, (∀ el ∈ els, el.length = sz) → els.flatten.length = els.length * sz
  | [], _ => by simp
  | e :: els, h => by
    rw [List.flatten_cons, List.length_append, flatten_length (fun el hm => h el (List.mem_cons_of_mem _ hm)), h e List.mem_cons_self, List.length_cons, Nat.succ_mul]; omega

theorem flatten_set {sz : Nat} : ∀ {els : List (List AV)}, (∀ el ∈ els, el.length = sz) → ∀ (i o : Nat) (xs : List AV), i < els.length → o + xs.length ≤ sz →
    (els.set i (splice (els.getD i []) o xs)).flatten = splice els.flatten (i * sz + o) xs
  | [], _, i, o, xs, hi, _ => by simp at hi
  | e :: els, h, 0, o, xs, hi, ho => by
    have he := h e List.mem_cons_self
    simp only [List.set_cons_zero, List.flatten_cons, List.getD_cons_zero, Nat.zero_mul, Nat.zero_add]
    unfold splice
    rw [List.take_append_of_le_length (by omega), List.drop_append_of_le_length (by omega)]
    simp
  | e :: els, h, i + 1, o, xs, hi, ho => by
    have he := h e List.mem_cons_self
    have ih := flatten_set (fun el hm => h el (List.mem_cons_of_mem _ hm)) i o xs (by simpa using hi) ho
    simp only [List.set_cons_succ, List.flatten_cons, List.getD_cons_succ, ih]
    unfold splice
    rw [show (i + 1) * sz + o = e.length + (i * sz + o) by rw [he, Nat.succ_mul]; omega, List.take_length_add_append, Nat.add_assoc e.length, List.drop_length_add_append]
    simp

theorem RList_put : ∀ {xs : List AV} {vs : List Value} {i : Nat} {x : AV} {v : Value}, RList w ok ρ xs vs → R w ok ρ x v → i < xs.length → RList w ok ρ (xs.set i x) (vs.take i ++ (v :: vs.drop (i + 1)))
  | [], vs, i, x, v, h, hx, hi => by simp at hi
  | y :: xs, vs, 0, x, v, h, hx, hi => by
    unfold RList at h
    obtain ⟨u, vs', rfl, h1, h2⟩ := h
    show RList w ok ρ (x :: xs) (v :: vs')
    unfold RList
    exact ⟨v, vs', rfl, hx, h2⟩
  | y :: xs, vs, i + 1, x, v, h, hx, hi => by
    unfold RList at h
    obtain ⟨u, vs', rfl, h1, h2⟩ := h
    show RList w ok ρ (y :: xs.set i x) (u :: (vs'.take i ++ (v :: vs'.drop (i + 1))))
    unfold RList
    exact ⟨u, _, rfl, h1, RList_put h2 hx (by simpa using hi)⟩
theorem snd_storeT (hr : RelM E s a w ρ ok) {i : TypeInfo} {ty : TypeId} (hi : P.info? ty = some i) {x : AV} {pv v : Value} {r j : Nat} (hp : R w ok ρ (.ptr r j 0) pv) (hx : R w ok ρ x v) {e : TypeId} {cs : List AV}
    (hg : s.reg r = .tab e cs) (hj : j < cs.length) (hl : x.cells.length = 1) (hsz1 : i.size = 1) (hc : x.cells.all cellish = true) :
    Outc E { s with rg := s.rg.set r (.tab e (cs.set j (x.cells.getD 0 .any))) } (.val undef) a w false false (fun w => (do Instr.storeAt ty pv v; pure Next.skip : Sem Next).run P w) := by
  unfold R at hp
  obtain ⟨p, hpl, rfl⟩ := hp
  have hcells := cells_ok (firm_of_cellish hc) hx
  have hlen := RList_length hcells
  rcases hr.mem.reg r _ (reg_some hg (by simp)) with ⟨b, d, C, pre, vs, rest, h2, h3, h4, h4', h4c⟩ | ⟨h2, _⟩
  case inr => rw [h2] at hj; simp at hj
  rw [hpl] at h2
  obtain rfl := by simpa using h2
  have hvl : vs.length = cs.length := RList_length h4c
  have hCs : C.size = d + (vs.length + rest.length) := by
    have := congrArg List.length h4
    simp [h4'] at this; omega
  obtain ⟨w', C', h5, h6, h7, h8, h9, h10, h11, h12⟩ := run_storeCells (P := P) (o := d + j) v.cells.toList 0 w C h3 (by rw [hlen]; omega) (all_one hc hcells)
  have hC's : C'.size = C.size := by
    have h13 := congrArg List.length h7
    rw [List.length_append, List.length_append, List.length_take, List.length_drop, Array.length_toList, Array.length_toList, Nat.min_eq_left (by omega)] at h13
    omega
  obtain ⟨y, hy⟩ : ∃ y, x.cells = [y] := by
    cases hxc : x.cells with
    | nil => rw [hxc] at hl; cases hl
    | cons y l => cases l with
      | nil => exact ⟨y, rfl⟩
      | cons => rw [hxc] at hl; simp at hl
  obtain ⟨u, hu⟩ : ∃ u, v.cells.toList = [u] := by
    rw [hy] at hcells
    unfold RList at hcells
    obtain ⟨u, us, h13, _, h14⟩ := hcells
    unfold RList at h14
    exact ⟨u, by rw [h13, h14]⟩
  have hyu : R w ok ρ y u := by
    rw [hy, hu] at hcells
    unfold RList at hcells
    obtain ⟨u', us, h13, h14, _⟩ := hcells
    injection h13 with h13
    subst h13; exact h14
  refine Outc.new (v := undef) (w' := w') (ρ' := ρ) (ok' := ok) (.inr ⟨run_unit ?_, rfl⟩) ?_ (R_val_mk _) (fun h => by cases h)
  · have hsz : v.cells.size = i.size := by rw [hsz1, ← hl, ← hlen]; simp
    simp [Instr.storeAt, Instr.sureAddr, storeVar, run_sizeOf hi, hsz, h5]
  · refine hr.write hpl h9 h10 h11 h12 h8 (.inl ⟨b, d, C', pre, vs.take j ++ (u :: vs.drop (j + 1)), rest, ?_, h6, ?_, h4', ?_⟩)
    · rw [hC's]; exact hpl
    · rw [h7, h4, hu, Nat.add_zero, show d + j = pre.length + j by omega, List.take_length_add_append, Nat.add_assoc, List.drop_length_add_append]
      rw [List.take_append_of_le_length (by omega), List.drop_append_of_le_length (by simp only [List.length_cons, List.length_nil]; omega)]
      simp
    · have hrd : Reads ok w w' := Reads.of_same fun b' hb' => h8 b' fun e => (hr.mem.own r _ hpl).2 (e ▸ hb')
      rw [hy]
      exact RList_frame hrd (fun _ x => x) (fun _ _ x => x) _ _ (RList_put h4c hyu hj)
theorem snd_store (hr : RelM E s a w ρ ok) {i : TypeInfo} {ty : TypeId} (hi : P.info? ty = some i) {px x : AV} {pv v : Value} (hp : R w ok ρ px pv) (hx : R w ok ρ x v)
    {r j o : Nat} (hpx : px = .ptr r j o) (s' : St)
    (hcase : (∃ e cs, s.reg r = .box e cs ∧ s' = { s with rg := s.rg.set r (.box e (splice cs o x.cells)) } ∧ j = 0 ∧ x.cells.length = i.size ∧ o + i.size ≤ cs.length ∧ x.cells.all cellish = true) ∨
      (∃ e sz els, s.reg r = .arr e sz els ∧ s' = { s with rg := s.rg.set r (.arr e sz (els.set j (splice (els.getD j []) o x.cells))) } ∧ j < els.length ∧ x.cells.length = i.size ∧ o + i.size ≤ sz ∧ x.cells.all cellish = true ∧ shutAll x.cells = true)) :
    Outc E s' (.val undef) a w false false (fun w => (do Instr.storeAt ty pv v; pure Next.skip : Sem Next).run P w) := by
  subst hpx
  unfold R at hp
  obtain ⟨p, hpl, rfl⟩ := hp
  rcases hcase with ⟨e, cs, hg, rfl, rfl, hl, ho, hc⟩ | ⟨e, sz, els, hg, rfl, hj, hl, ho, hc, hsh⟩
  · have hcells := cells_ok (firm_of_cellish hc) hx
    have hlen := RList_length hcells
    obtain ⟨b, C, h2, h3, h4⟩ := hr.mem.reg r _ (reg_some hg (by simp))
    rw [hpl] at h2
    obtain rfl := by simpa using h2
    have hCs : C.size = cs.length := by have := RList_length h4; simpa using this
    obtain ⟨w', C', h5, h6, h7, h8, h9, h10, h11, h12⟩ := run_storeCells (P := P) (o := o) v.cells.toList 0 w C h3 (by rw [hlen]; omega) (all_one hc hcells)
    refine Outc.new (v := undef) (w' := w') (ρ' := ρ) (ok' := ok) (.inr ⟨run_unit ?_, rfl⟩) ?_ (R_val_mk _) (fun h => by cases h)
    · have hsz : v.cells.size = i.size := by rw [← hl, ← hlen]; simp
      simp only [Nat.zero_mul, Nat.zero_add] at h5 ⊢
      simp [Instr.storeAt, Instr.sureAddr, storeVar, run_sizeOf hi, hsz, h5]
    · refine hr.write hpl h9 h10 h11 h12 h8 ⟨b, C', ?_, h6, ?_⟩
      · rw [splice_length _ _ _ (by omega)]; exact hpl
      · rw [h7]
        have hrd : Reads ok w w' := Reads.of_same fun b' hb' => h8 b' fun e => (hr.mem.own r _ hpl).2 (e ▸ hb')
        have := RList_splice h4 hcells o (by omega)
        rw [hlen] at this ⊢
        exact RList_frame hrd (fun _ x => x) (fun _ _ x => x) _ _ this
  · have hcells := cells_ok (firm_of_cellish hc) hx
    have hlen := RList_length hcells
    have hcellsc := RcList_of_R _ _ hsh hcells
    rcases hr.mem.reg r _ (reg_some hg (by simp)) with ⟨b, d, C, pre, vs, rest, h2, h3, h4, h4', h4'', h4c⟩ | ⟨h2, _⟩
    case inr => rw [h2] at hj; simp at hj
    rw [hpl] at h2
    obtain rfl := by simpa using h2
    have hvl : vs.length = els.length * sz := by rw [RcList_length h4c, flatten_length h4'']
    have hjs : j * sz + sz ≤ els.length * sz := by
      have := Nat.mul_le_mul_right sz (show j + 1 ≤ els.length by omega)
      rw [Nat.succ_mul] at this; exact this
    have hCs : C.size = d + (vs.length + rest.length) := by
      have := congrArg List.length h4
      simp [h4'] at this; omega
    obtain ⟨w', C', h5, h6, h7, h8, h9, h10, h11, h12⟩ := run_storeCells (P := P) (o := d + j * sz + o) v.cells.toList 0 w C h3 (by rw [hlen]; omega) (all_one hc hcells)
    have hfit : d + j * sz + o + v.cells.toList.length ≤ C.size := by rw [hlen]; omega
    have hC's : C'.size = C.size := by
      have h13 := congrArg List.length h7
      rw [List.length_append, List.length_append, List.length_take, List.length_drop, Array.length_toList, Array.length_toList, Nat.min_eq_left (by omega)] at h13
      omega
    refine Outc.new (v := undef) (w' := w') (ρ' := ρ) (ok' := ok) (.inr ⟨run_unit ?_, rfl⟩) ?_ (R_val_mk _) (fun h => by cases h)
    · have hsz : v.cells.size = i.size := by rw [← hl, ← hlen]; simp
      simp [Instr.storeAt, Instr.sureAddr, storeVar, run_sizeOf hi, hsz, h5]
    · refine hr.write hpl h9 h10 h11 h12 h8 (.inl ⟨b, d, C', pre, vs.take (j * sz + o) ++ (v.cells.toList ++ vs.drop (j * sz + o + v.cells.toList.length)), rest, ?_, h6, ?_, h4', ?_, ?_⟩)
      · rw [hC's]; exact hpl
      · rw [h7, h4, Nat.add_zero, show d + j * sz + o = pre.length + (j * sz + o) by omega, List.take_length_add_append, Nat.add_assoc, List.drop_length_add_append]
        rw [List.take_append_of_le_length (by omega), List.drop_append_of_le_length (by omega)]
        simp
      · intro el hm
        rcases List.mem_or_eq_of_mem_set hm with hm | rfl
        · exact h4'' el hm
        · have hel : (els.getD j []).length = sz := by
            rw [List.getD_eq_getElem?_getD, List.getElem?_eq_getElem hj]
            exact h4'' _ (List.getElem_mem hj)
          rw [splice_length _ _ _ (by omega)]; exact hel
      · have hrd : Reads ok w w' := Reads.of_same fun b' hb' => h8 b' fun e => (hr.mem.own r _ hpl).2 (e ▸ hb')
        rw [flatten_set h4'' j o _ hj (by omega)]
        have := RcList_splice h4c hcellsc (j * sz + o) (by rw [flatten_length h4'']; omega)
        exact RcList_frame hrd (fun _ x => x) _ _ this
end
end Go.Proofs.Ytoickofcmngdjaa.Aw
