/- A logic of abstract states for walks: values, memory, their meaning. -/
import Derived.Below
import Derived.Deep.Quiet
import Derived.WalkKit
import Derived.KernelRfl
import Derived.RowKit3
set_option linter.unusedVariables false
set_option linter.unusedSimpArgs false
namespace Go.Proofs.Ytmkodhpbjedfkaa.Aw

/-- Abstract values. -/
inductive AV where
  | any
  | val (v : Value)
  | imm (nil : Option Bool) (full : Bool) (sz : Nat) (els : List (List AV))
  | pim (cs : List AV)
  | hnd (r off n k : Nat) (ex : Bool)
  | ptr (r i o : Nat)
  | fn (f : FuncId) (caps : List AV)
  | agg (cs : List AV)
  | tup (cs : List AV)
  | opt (c : Bool) (x : AV)
  deriving Inhabited

/-- Abstract blocks of memory that the call owns. -/
inductive Reg where
  | dead
  | box (e : TypeId) (cs : List AV)
  | arr (e : TypeId) (sz : Nat) (els : List (List AV))
  deriving Inhabited

mutual
/-- A closed abstract value stands for a value; it reads only blocks of 'ok'. -/
def Rc (w : World) (ok : Nat → Prop) : AV → Value → Prop
  | .any, _ => True
  | .val x, v => v = x
  | .imm nil full sz els, v => ∃ A c, v = .slice A els.length c ∧ els.length ≤ c ∧ (∀ q, nil = some q → A.isNone = q) ∧ (A = none → c = 0) ∧ (full = true → c = els.length) ∧
      ∀ a, A = some a → els ≠ [] → a.spot = none ∧ ok a.block ∧ RcEls w ok a.block sz a.off els
  | .pim cs, v => ∃ b o, v = .pointer (some ⟨b, o, none⟩) ∧ ok b ∧ RcCells w ok b o cs
  | .hnd .., _ => False
  | .ptr .., _ => False
  | .fn f caps, v => ∃ vs : Array Value, v = .func (.func f) #[] vs ∧ RcList w ok caps vs.toList
  | .agg cs, v => ∃ vs : Array Value, v = .agg vs ∧ RcList w ok cs vs.toList
  | .tup cs, v => ∃ vs : Array Value, v = .tuple vs ∧ RcList w ok cs vs.toList
  | .opt c x, v => (c = true → Rc w ok x v) ∧ (c = false → v = undef)
def RcList (w : World) (ok : Nat → Prop) : List AV → List Value → Prop
  | [], vs => vs = []
  | x :: xs, vs => ∃ v vs', vs = v :: vs' ∧ Rc w ok x v ∧ RcList w ok xs vs'
def RcCells (w : World) (ok : Nat → Prop) (b : Nat) : Nat → List AV → Prop
  | _, [] => True
  | o, x :: xs => (∃ v, w.cell? ⟨b, o, none⟩ = some v ∧ Rc w ok x v) ∧ RcCells w ok b (o + 1) xs
def RcEls (w : World) (ok : Nat → Prop) (b sz : Nat) : Nat → List (List AV) → Prop
  | _, [] => True
  | o, el :: els => el.length = sz ∧ RcCells w ok b o el ∧ RcEls w ok b sz (o + sz) els
end

/-- Where a region lies: its block, its first cell there, the cells of an element, the cells of the block. -/
structure Place where
  b : Nat
  d : Nat
  sz : Nat
  tot : Nat

mutual
/-- An abstract value stands for a value. -/
def R (w : World) (ok : Nat → Prop) (ρ : Nat → Option (Option Place)) : AV → Value → Prop
  | .any, _ => True
  | .val x, v => v = x
  | .imm nil full sz els, v => Rc w ok (.imm nil full sz els) v
  | .pim cs, v => Rc w ok (.pim cs) v
  | .hnd r off n k ex, v => (∃ p cc ad, ρ r = some (some p) ∧ v = .slice (some ad) n cc ∧ (cc = 0 ∨ ad = ⟨p.b, p.d + off * p.sz, none⟩) ∧ n ≤ k ∧ k ≤ cc ∧ p.d + (off + cc) * p.sz ≤ p.tot ∧ (ex = true → cc = k)) ∨
      (ρ r = some none ∧ v = .slice none 0 0 ∧ off = 0 ∧ n = 0 ∧ k = 0)
  | .ptr r i o, v => ∃ p, ρ r = some (some p) ∧ v = .pointer (some ⟨p.b, p.d + i * p.sz + o, none⟩)
  | .fn f caps, v => ∃ vs : Array Value, v = .func (.func f) #[] vs ∧ RList w ok ρ caps vs.toList
  | .agg cs, v => ∃ vs : Array Value, v = .agg vs ∧ RList w ok ρ cs vs.toList
  | .tup cs, v => ∃ vs : Array Value, v = .tuple vs ∧ RList w ok ρ cs vs.toList
  | .opt c x, v => (c = true → R w ok ρ x v) ∧ (c = false → v = undef)
def RList (w : World) (ok : Nat → Prop) (ρ : Nat → Option (Option Place)) : List AV → List Value → Prop
  | [], vs => vs = []
  | x :: xs, vs => ∃ v vs', vs = v :: vs' ∧ R w ok ρ x v ∧ RList w ok ρ xs vs'
end

/-- What is known of a region. -/
def RegOk (w : World) (ok : Nat → Prop) (ρ : Nat → Option (Option Place)) (r : Nat) : Reg → Prop
  | .dead => ρ r = none
  | .box e cs => ∃ b, ∃ C : Array Value, ρ r = some (some ⟨b, 0, cs.length, cs.length⟩) ∧ w.heap[b]? = some (.cells C e (0, 0)) ∧ RList w ok ρ cs C.toList
  | .arr e sz els => (∃ b d, ∃ C : Array Value, ∃ pre vs rest, ρ r = some (some ⟨b, d, sz, C.size⟩) ∧ w.heap[b]? = some (.cells C e (0, 0)) ∧ C.toList = pre ++ (vs ++ rest) ∧ pre.length = d ∧
      (∀ el ∈ els, el.length = sz) ∧ RcList w ok els.flatten vs) ∨ (els = [] ∧ ρ r = some none)

structure Mem (w : World) (ok : Nat → Prop) (ρ : Nat → Option (Option Place)) (rg : List Reg) : Prop where
  okl : ∀ b, ok b → b < w.heap.size
  inj : ∀ r r' p p', ρ r = some (some p) → ρ r' = some (some p') → p.b = p'.b → r = r'
  own : ∀ r p, ρ r = some (some p) → p.b < w.heap.size ∧ ¬ ok p.b
  reg : ∀ r g, rg[r]? = some g → RegOk w ok ρ r g
  out : ∀ r, rg.length ≤ r → ρ r = none

/-! ### Frames -/
def Reads (ok : Nat → Prop) (w w' : World) : Prop := ∀ b o v, ok b → w.cell? ⟨b, o, none⟩ = some v → w'.cell? ⟨b, o, none⟩ = some v

section
variable {w w' : World} {ok ok' : Nat → Prop}
mutual
theorem Rc_frame (h : Reads ok w w') (hk : ∀ b, ok b → ok' b) : ∀ (x : AV) (v : Value), Rc w ok x v → Rc w' ok' x v
  | .any, _, _ => by unfold Rc; trivial
  | .val x, v, hr => by unfold Rc at *; exact hr
  | .imm nil full sz els, v, hr => by
    unfold Rc at *
    obtain ⟨A, c, e, h1, h2, h3, h3', h4⟩ := hr
    refine ⟨A, c, e, h1, h2, h3, h3', fun a ha hne => ?_⟩
    obtain ⟨h5, h6, h7⟩ := h4 a ha hne
    exact ⟨h5, hk _ h6, RcEls_frame h hk h6 _ _ h7⟩
  | .pim cs, v, hr => by
    unfold Rc at *
    obtain ⟨b, o, e, h1, h2⟩ := hr
    exact ⟨b, o, e, hk _ h1, RcCells_frame h hk h1 _ _ h2⟩
  | .hnd .., _, hr => by unfold Rc at hr; exact hr.elim
  | .ptr .., _, hr => by unfold Rc at hr; exact hr.elim
  | .fn f caps, v, hr => by
    unfold Rc at *
    obtain ⟨vs, e, h1⟩ := hr
    exact ⟨vs, e, RcList_frame h hk _ _ h1⟩
  | .agg cs, v, hr => by
    unfold Rc at *
    obtain ⟨vs, e, h1⟩ := hr
    exact ⟨vs, e, RcList_frame h hk _ _ h1⟩
  | .tup cs, v, hr => by
    unfold Rc at *
    obtain ⟨vs, e, h1⟩ := hr
    exact ⟨vs, e, RcList_frame h hk _ _ h1⟩
  | .opt c x, v, hr => by
    unfold Rc at *
    exact ⟨fun hc => Rc_frame h hk x v (hr.1 hc), hr.2⟩
theorem RcList_frame (h : Reads ok w w') (hk : ∀ b, ok b → ok' b) : ∀ (xs : List AV) (vs : List Value), RcList w ok xs vs → RcList w' ok' xs vs
  | [], vs, hr => by unfold RcList at *; exact hr
  | x :: xs, vs, hr => by
    unfold RcList at *
    obtain ⟨v, vs', e, h1, h2⟩ := hr
    exact ⟨v, vs', e, Rc_frame h hk x v h1, RcList_frame h hk xs vs' h2⟩
theorem RcCells_frame (h : Reads ok w w') (hk : ∀ b, ok b → ok' b) {b : Nat} (hb : ok b) : ∀ (o : Nat) (xs : List AV), RcCells w ok b o xs → RcCells w' ok' b o xs
  | o, [], _ => by unfold RcCells; trivial
  | o, x :: xs, hr => by
    unfold RcCells at *
    obtain ⟨⟨v, h1, h2⟩, h3⟩ := hr
    exact ⟨⟨v, h _ _ _ hb h1, Rc_frame h hk x v h2⟩, RcCells_frame h hk hb (o + 1) xs h3⟩
theorem RcEls_frame (h : Reads ok w w') (hk : ∀ b, ok b → ok' b) {b sz : Nat} (hb : ok b) : ∀ (o : Nat) (els : List (List AV)), RcEls w ok b sz o els → RcEls w' ok' b sz o els
  | o, [], _ => by unfold RcEls; trivial
  | o, el :: els, hr => by
    unfold RcEls at *
    obtain ⟨h0, h1, h2⟩ := hr
    exact ⟨h0, RcCells_frame h hk hb o el h1, RcEls_frame h hk hb (o + sz) els h2⟩
end

variable {ρ ρ' : Nat → Option (Option Place)}
mutual
theorem R_frame (h : Reads ok w w') (hk : ∀ b, ok b → ok' b) (hρ : ∀ r p, ρ r = some p → ρ' r = some p) : ∀ (x : AV) (v : Value), R w ok ρ x v → R w' ok' ρ' x v
  | .any, _, _ => by unfold R; trivial
  | .val x, v, hr => by unfold R at *; exact hr
  | .imm nil full sz els, v, hr => by unfold R at *; exact Rc_frame h hk _ _ hr
  | .pim cs, v, hr => by unfold R at *; exact Rc_frame h hk _ _ hr
  | .hnd r off n k ex, v, hr => by
    unfold R at *
    rcases hr with ⟨p, cc, ad, h1, h2⟩ | ⟨h1, h2⟩
    · exact .inl ⟨p, cc, ad, hρ _ _ h1, h2⟩
    · exact .inr ⟨hρ _ _ h1, h2⟩
  | .ptr r i o, v, hr => by
    unfold R at *
    obtain ⟨p, h1, h2⟩ := hr
    exact ⟨p, hρ _ _ h1, h2⟩
  | .fn f caps, v, hr => by
    unfold R at *
    obtain ⟨vs, e, h1⟩ := hr
    exact ⟨vs, e, RList_frame h hk hρ _ _ h1⟩
  | .agg cs, v, hr => by
    unfold R at *
    obtain ⟨vs, e, h1⟩ := hr
    exact ⟨vs, e, RList_frame h hk hρ _ _ h1⟩
  | .tup cs, v, hr => by
    unfold R at *
    obtain ⟨vs, e, h1⟩ := hr
    exact ⟨vs, e, RList_frame h hk hρ _ _ h1⟩
  | .opt c x, v, hr => by
    unfold R at *
    exact ⟨fun hc => R_frame h hk hρ x v (hr.1 hc), hr.2⟩
theorem RList_frame (h : Reads ok w w') (hk : ∀ b, ok b → ok' b) (hρ : ∀ r p, ρ r = some p → ρ' r = some p) : ∀ (xs : List AV) (vs : List Value), RList w ok ρ xs vs → RList w' ok' ρ' xs vs
  | [], vs, hr => by unfold RList at *; exact hr
  | x :: xs, vs, hr => by
    unfold RList at *
    obtain ⟨v, vs', e, h1, h2⟩ := hr
    exact ⟨v, vs', e, R_frame h hk hρ x v h1, RList_frame h hk hρ xs vs' h2⟩
end

mutual
/-- A closed value is a value. -/
theorem R_of_Rc : ∀ (x : AV) (v : Value), Rc w ok x v → R w ok ρ x v
  | .any, _, _ => by unfold R; trivial
  | .val x, v, hr => by unfold R; unfold Rc at hr; exact hr
  | .imm nil full sz els, v, hr => by unfold R; exact hr
  | .pim cs, v, hr => by unfold R; exact hr
  | .hnd .., _, hr => by unfold Rc at hr; exact hr.elim
  | .ptr .., _, hr => by unfold Rc at hr; exact hr.elim
  | .fn f caps, v, hr => by
    unfold R; unfold Rc at hr
    obtain ⟨vs, e, h1⟩ := hr
    exact ⟨vs, e, RList_of_Rc _ _ h1⟩
  | .agg cs, v, hr => by
    unfold R; unfold Rc at hr
    obtain ⟨vs, e, h1⟩ := hr
    exact ⟨vs, e, RList_of_Rc _ _ h1⟩
  | .tup cs, v, hr => by
    unfold R; unfold Rc at hr
    obtain ⟨vs, e, h1⟩ := hr
    exact ⟨vs, e, RList_of_Rc _ _ h1⟩
  | .opt c x, v, hr => by
    unfold R; unfold Rc at hr
    exact ⟨fun hc => R_of_Rc x v (hr.1 hc), hr.2⟩
theorem RList_of_Rc : ∀ (xs : List AV) (vs : List Value), RcList w ok xs vs → RList w ok ρ xs vs
  | [], vs, hr => by unfold RList; unfold RcList at hr; exact hr
  | x :: xs, vs, hr => by
    unfold RList; unfold RcList at hr
    obtain ⟨v, vs', e, h1, h2⟩ := hr
    exact ⟨v, vs', e, R_of_Rc x v h1, RList_of_Rc xs vs' h2⟩
end

mutual
/-- No handle and no pointer into owned memory at the top. -/
def AV.shut : AV → Bool
  | .any => true
  | .val _ => true
  | .imm .. => true
  | .pim _ => true
  | .hnd .. => false
  | .ptr .. => false
  | .fn _ caps => shutAll caps
  | .agg cs => shutAll cs
  | .tup cs => shutAll cs
  | .opt _ x => x.shut
def shutAll : List AV → Bool
  | [] => true
  | x :: xs => x.shut && shutAll xs
end

mutual
theorem Rc_of_R : ∀ (x : AV) (v : Value), x.shut = true → R w ok ρ x v → Rc w ok x v
  | .any, _, _, _ => by unfold Rc; trivial
  | .val x, v, _, hr => by unfold Rc; unfold R at hr; exact hr
  | .imm nil full sz els, v, _, hr => by unfold R at hr; exact hr
  | .pim cs, v, _, hr => by unfold R at hr; exact hr
  | .hnd .., _, hs, _ => by simp [AV.shut] at hs
  | .ptr .., _, hs, _ => by simp [AV.shut] at hs
  | .fn f caps, v, hs, hr => by
    unfold Rc; unfold R at hr
    obtain ⟨vs, e, h1⟩ := hr
    exact ⟨vs, e, RcList_of_R _ _ (by simpa [AV.shut] using hs) h1⟩
  | .agg cs, v, hs, hr => by
    unfold Rc; unfold R at hr
    obtain ⟨vs, e, h1⟩ := hr
    exact ⟨vs, e, RcList_of_R _ _ (by simpa [AV.shut] using hs) h1⟩
  | .tup cs, v, hs, hr => by
    unfold Rc; unfold R at hr
    obtain ⟨vs, e, h1⟩ := hr
    exact ⟨vs, e, RcList_of_R _ _ (by simpa [AV.shut] using hs) h1⟩
  | .opt c x, v, hs, hr => by
    unfold Rc; unfold R at hr
    exact ⟨fun hc => Rc_of_R x v (by simpa [AV.shut] using hs) (hr.1 hc), hr.2⟩
theorem RcList_of_R : ∀ (xs : List AV) (vs : List Value), shutAll xs = true → RList w ok ρ xs vs → RcList w ok xs vs
  | [], vs, _, hr => by unfold RcList; unfold RList at hr; exact hr
  | x :: xs, vs, hs, hr => by
    unfold RcList; unfold RList at hr
    obtain ⟨v, vs', e, h1, h2⟩ := hr
    simp only [shutAll, Bool.and_eq_true] at hs
    exact ⟨v, vs', e, Rc_of_R x v hs.1 h1, RcList_of_R xs vs' hs.2 h2⟩
end
end

/-! ### Lists -/
section
variable {w : World} {ok : Nat → Prop} {ρ : Nat → Option (Option Place)}
theorem RcList_length : ∀ {xs : List AV} {vs : List Value}, RcList w ok xs vs → vs.length = xs.length
  | [], vs, h => by unfold RcList at h; subst h; rfl
  | x :: xs, vs, h => by
    unfold RcList at h
    obtain ⟨v, vs', rfl, _, h2⟩ := h
    simp [RcList_length h2]
theorem RList_length : ∀ {xs : List AV} {vs : List Value}, RList w ok ρ xs vs → vs.length = xs.length
  | [], vs, h => by unfold RList at h; subst h; rfl
  | x :: xs, vs, h => by
    unfold RList at h
    obtain ⟨v, vs', rfl, _, h2⟩ := h
    simp [RList_length h2]
theorem RList_get : ∀ {xs : List AV} {vs : List Value}, RList w ok ρ xs vs → ∀ (i : Nat) (x : AV), xs[i]? = some x → ∃ v, vs[i]? = some v ∧ R w ok ρ x v
  | [], vs, h, i, x, hx => by simp at hx
  | y :: xs, vs, h, i, x, hx => by
    unfold RList at h
    obtain ⟨v, vs', rfl, h1, h2⟩ := h
    cases i with
    | zero => obtain rfl : y = x := by simpa using hx
              exact ⟨v, rfl, h1⟩
    | succ i => exact RList_get h2 i x (by simpa using hx)
theorem RcList_get : ∀ {xs : List AV} {vs : List Value}, RcList w ok xs vs → ∀ (i : Nat) (x : AV), xs[i]? = some x → ∃ v, vs[i]? = some v ∧ Rc w ok x v
  | [], vs, h, i, x, hx => by simp at hx
  | y :: xs, vs, h, i, x, hx => by
    unfold RcList at h
    obtain ⟨v, vs', rfl, h1, h2⟩ := h
    cases i with
    | zero => obtain rfl : y = x := by simpa using hx
              exact ⟨v, rfl, h1⟩
    | succ i => exact RcList_get h2 i x (by simpa using hx)
theorem RList_append : ∀ {xs ys : List AV} {vs us : List Value}, RList w ok ρ xs vs → RList w ok ρ ys us → RList w ok ρ (xs ++ ys) (vs ++ us)
  | [], ys, vs, us, h, k => by unfold RList at h; subst h; exact k
  | x :: xs, ys, vs, us, h, k => by
    unfold RList at h
    obtain ⟨v, vs', rfl, h1, h2⟩ := h
    show RList w ok ρ (x :: (xs ++ ys)) (v :: (vs' ++ us))
    unfold RList
    exact ⟨v, vs' ++ us, rfl, h1, RList_append h2 k⟩
theorem RcList_append : ∀ {xs ys : List AV} {vs us : List Value}, RcList w ok xs vs → RcList w ok ys us → RcList w ok (xs ++ ys) (vs ++ us)
  | [], ys, vs, us, h, k => by unfold RcList at h; subst h; exact k
  | x :: xs, ys, vs, us, h, k => by
    unfold RcList at h
    obtain ⟨v, vs', rfl, h1, h2⟩ := h
    show RcList w ok (x :: (xs ++ ys)) (v :: (vs' ++ us))
    unfold RcList
    exact ⟨v, vs' ++ us, rfl, h1, RcList_append h2 k⟩
theorem RcList_split : ∀ {xs ys : List AV} {vs : List Value}, RcList w ok (xs ++ ys) vs → ∃ us ts, vs = us ++ ts ∧ RcList w ok xs us ∧ RcList w ok ys ts
  | [], ys, vs, h => ⟨[], vs, rfl, by unfold RcList; rfl, h⟩
  | x :: xs, ys, vs, h => by
    have h' : RcList w ok (x :: (xs ++ ys)) vs := h
    unfold RcList at h'
    obtain ⟨v, vs', rfl, h1, h2⟩ := h'
    obtain ⟨us, ts, rfl, h3, h4⟩ := RcList_split h2
    exact ⟨v :: us, ts, rfl, by unfold RcList; exact ⟨v, us, rfl, h1, h3⟩, h4⟩
theorem RList_split : ∀ {xs ys : List AV} {vs : List Value}, RList w ok ρ (xs ++ ys) vs → ∃ us ts, vs = us ++ ts ∧ RList w ok ρ xs us ∧ RList w ok ρ ys ts
  | [], ys, vs, h => ⟨[], vs, rfl, by unfold RList; rfl, h⟩
  | x :: xs, ys, vs, h => by
    have h' : RList w ok ρ (x :: (xs ++ ys)) vs := h
    unfold RList at h'
    obtain ⟨v, vs', rfl, h1, h2⟩ := h'
    obtain ⟨us, ts, rfl, h3, h4⟩ := RList_split h2
    exact ⟨v :: us, ts, rfl, by unfold RList; exact ⟨v, us, rfl, h1, h3⟩, h4⟩
end
end Go.Proofs.Ytmkodhpbjedfkaa.Aw
