/- A logic of abstract states for walks: values that say less. -/
import Derived.Test.YtmkodhpbjedfkaaAwZd
set_option linter.unusedVariables false
set_option linter.unusedSimpArgs false
namespace Go.Proofs.Ytmkodhpbjedfkaa.Aw
open Go.RowKit

/-- What x stands for, y stands for. -/
def Ent (x y : AV) : Prop := ∀ w ok ρ v, R w ok ρ x v → R w ok ρ y v
def EntL : List AV → List AV → Prop
  | [], [] => True
  | x :: xs, y :: ys => Ent x y ∧ EntL xs ys
  | _, _ => False
theorem Ent.refl (x : AV) : Ent x x := fun _ _ _ _ h => h
theorem EntL.refl : ∀ xs, EntL xs xs
  | [] => trivial
  | x :: xs => ⟨Ent.refl x, EntL.refl xs⟩
theorem EntL.ok {w : World} {ok : Nat → Prop} {ρ : Nat → Option (Option Place)} : ∀ {xs ys : List AV} {vs : List Value}, EntL xs ys → RList w ok ρ xs vs → RList w ok ρ ys vs
  | [], [], vs, _, h => h
  | x :: xs, y :: ys, vs, he, h => by
    unfold RList at h ⊢
    obtain ⟨v, vs', e, h1, h2⟩ := h
    exact ⟨v, vs', e, he.1 _ _ _ _ h1, EntL.ok he.2 h2⟩
  | [], _ :: _, vs, he, h => he.elim
  | _ :: _, [], vs, he, h => he.elim
/-- A slice that is only read: less is said of it. -/
theorem Ent.plain (nl fl sz els) : Ent (.imm nl fl sz els) (.imm none false sz els) := fun w ok ρ v h => by
  unfold R Rc at h ⊢
  obtain ⟨A, c, h1, h2, h3, h4, h5, h6⟩ := h
  exact ⟨A, c, h1, h2, fun q hq => (by cases hq), h4, fun hq => (by cases hq), h6⟩
theorem Ent.room (nl fl sz els) : Ent (.imm nl fl sz els) (.imm nl false sz els) := fun w ok ρ v h => by
  unfold R Rc at h ⊢
  obtain ⟨A, c, h1, h2, h3, h4, h5, h6⟩ := h
  exact ⟨A, c, h1, h2, h3, h4, fun hq => (by cases hq), h6⟩
/-- With elements it is not nil. -/
theorem Ent.nonnil (nl fl sz) {els : List (List AV)} (hne : els ≠ []) : Ent (.imm nl fl sz els) (.imm (some false) fl sz els) := fun w ok ρ v h => by
  unfold R Rc at h ⊢
  obtain ⟨A, c, h1, h2, h3, h4, h5, h6⟩ := h
  refine ⟨A, c, h1, h2, fun q hq => ?_, h4, h5, h6⟩
  obtain rfl := Option.some.inj hq
  cases A with
  | none => exact absurd (List.eq_nil_of_length_eq_zero (by have := h4 rfl; omega)) hne
  | some a => rfl
theorem Ent.ofnil (fl : Bool) (sz : Nat) : Ent (.val (.slice none 0 0)) (.imm (some true) fl sz []) := fun w ok ρ v h => by
  rw [R_val h]
  unfold R Rc
  exact ⟨none, 0, rfl, Nat.le_refl _, fun q hq => Option.some.inj hq, fun _ => rfl, fun _ => rfl, fun a ha => by cases ha⟩
theorem Ent.ofnil0 (sz : Nat) : Ent (.val (.slice none 0 0)) (.imm none false sz []) := fun w ok ρ v h => Ent.plain _ _ _ _ w ok ρ v (Ent.ofnil true sz w ok ρ v h)
theorem Ent.agg {xs ys : List AV} (h : EntL xs ys) : Ent (.agg xs) (.agg ys) := fun w ok ρ v hr => by
  unfold R at hr ⊢
  obtain ⟨vs, h1, h2⟩ := hr
  exact ⟨vs, h1, h.ok h2⟩
theorem Ent.trans {x y z : AV} (h : Ent x y) (k : Ent y z) : Ent x z := fun w ok ρ v hr => k w ok ρ v (h w ok ρ v hr)
/-- A handle says how many elements it has. -/
theorem Ent.cap (r off n k ex) : Ent (.hnd r off n k ex) (.hnd r off n n false) := fun w ok ρ v h => by
  unfold R at h ⊢
  rcases h with ⟨p, cc, ad, h7, hv, h8, h9, h10, h11, h12⟩ | ⟨h7, hv, h8, h9, h10⟩
  · exact .inl ⟨p, cc, ad, h7, hv, h8, Nat.le_refl _, by omega, h11, fun h => by cases h⟩
  · exact .inr ⟨h7, hv, h8, h9, h9⟩
section
variable {P : Program} {E : Env} {s : St}
theorem weak_ent (t : Nat) {x y : AV} (h : look s.tm t = x) (he : Ent x y) : Weak E s (s.put t y) := fun a w ⟨ρ, ok, hr⟩ => by
  refine ⟨ρ, ok, hr.mem, fun m => ?_, hr.siz, hr.dfr, hr.kps, hr.bas, hr.ownr, hr.okr, hr.pin⟩
  show R w ok ρ (look (putTm s.tm t y) m) _
  rw [look_put]
  by_cases e : m = t
  · subst e
    rw [if_pos rfl]
    have := hr.tm m
    rw [h] at this
    exact he _ _ _ _ this
  · rw [if_neg e]; exact hr.tm m
theorem Spec.args {f : FuncId} {rg0 : List Reg} {args args' : List AV} {Post : List Reg → AV → Prop} (h : Spec P f rg0 args Post) (he : EntL args' args) : Spec P f rg0 args' Post :=
  fun w ρ ok vals hm ha => h w ρ ok vals hm (he.ok ha)
end
theorem imm_nil {w : World} {ok : Nat → Prop} {ρ : Nat → Option (Option Place)} {nl : Option Bool} {fl : Bool} {sz : Nat} {els : List (List AV)} {v : Value} (h : R w ok ρ (.imm nl fl sz els) v) :
    ∃ b, (∀ q, nl = some q → q = b) ∧ (b = true → els = []) ∧ R w ok ρ (.imm (some b) fl sz els) v := by
  unfold R Rc at h
  obtain ⟨A, c, h1, h2, h3, h4, h5, h6⟩ := h
  refine ⟨A.isNone, fun q hq => (h3 q hq).symm, fun hb => ?_, ?_⟩
  · cases A with
    | none => exact List.eq_nil_of_length_eq_zero (by have := h4 rfl; omega)
    | some a => cases hb
  · unfold R Rc
    exact ⟨A, c, h1, h2, fun q hq => Option.some.inj hq, h4, h5, h6⟩
/-- Whether a slice is nil: both cases. -/
theorem Spec.nil1 {P : Program} {f : FuncId} {rg0 : List Reg} {nl : Option Bool} {fl : Bool} {sz : Nat} {els : List (List AV)} {rest : List AV} {Post : List Reg → AV → Prop}
    (h : ∀ b, (∀ q, nl = some q → q = b) → (b = true → els = []) → Spec P f rg0 (.imm (some b) fl sz els :: rest) Post) : Spec P f rg0 (.imm nl fl sz els :: rest) Post := fun w ρ ok vals hm ha => by
  unfold RList at ha
  obtain ⟨v, vs', h1, h2, h3⟩ := ha
  obtain ⟨b, h4, h5, h6⟩ := imm_nil h2
  exact h b h4 h5 w ρ ok vals hm (by unfold RList; exact ⟨v, vs', h1, h6, h3⟩)
section
variable {P : Program} {E : Env} {Q : Exit → St → Prop} {s : St}
theorem Rel.nil1 (t : Nat) {nl : Option Bool} {fl : Bool} {sz : Nat} {els : List (List AV)} {a : Act} {w : World} (ht : look s.tm t = .imm nl fl sz els) (h : Rel E s a w) :
    ∃ b, (∀ q, nl = some q → q = b) ∧ (b = true → els = []) ∧ Rel E (s.put t (.imm (some b) fl sz els)) a w := by
  obtain ⟨ρ, ok, hr⟩ := h
  have h1 := hr.tm t
  rw [ht] at h1
  obtain ⟨b, h4, h5, h6⟩ := imm_nil h1
  refine ⟨b, h4, h5, ρ, ok, hr.mem, fun m => ?_, hr.siz, hr.dfr, hr.kps, hr.bas, hr.ownr, hr.okr, hr.pin⟩
  show R w ok ρ (look (putTm s.tm t _) m) _
  rw [look_put]
  by_cases e : m = t
  · subst e; rw [if_pos rfl]; exact h6
  · rw [if_neg e]; exact hr.tm m
theorem AWp.nil1 (t : Nat) {nl : Option Bool} {fl : Bool} {sz : Nat} {els : List (List AV)} {c : ACode} (ht : look s.tm t = .imm nl fl sz els)
    (h : ∀ b, (∀ q, nl = some q → q = b) → (b = true → els = []) → AWp P E Q c (s.put t (.imm (some b) fl sz els))) : AWp P E Q c s := fun code hc a w hr => by
  obtain ⟨b, h1, h2, h3⟩ := Rel.nil1 t ht hr
  exact h b h1 h2 code hc a w h3
theorem AWpL.nil1 (t : Nat) {nl : Option Bool} {fl : Bool} {sz : Nat} {els : List (List AV)} {gs : List GOp} (ht : look s.tm t = .imm nl fl sz els)
    (h : ∀ b, (∀ q, nl = some q → q = b) → (b = true → els = []) → AWpL P E Q gs (s.put t (.imm (some b) fl sz els))) : AWpL P E Q gs s := fun ops l hl a w hr => by
  obtain ⟨b, h1, h2, h3⟩ := Rel.nil1 t ht hr
  exact h b h1 h2 ops l hl a w h3
end
theorem retRg_new (s : St) (rg : List Reg) : ∀ (l : List Reg) (r : Nat), retRg s [] rg r l = l ++ rg.map (mapR (bkM [] s.rg.length))
  | [], r => rfl
  | g :: l, r => by
    unfold retRg
    rw [retRg_new s rg l, show pos [] r = none from rfl]
    simp only
    rw [mapR_some (kpM_nil s)]; rfl
/-- Behind a call that was lent nothing and leaves new regions. -/
theorem retS_new (s : St) (dst : Option Nat) (rg : List Reg) (x : AV) : retS s [] dst rg x = St.putO ⟨s.tm, s.rg ++ rg.map (mapR (bkM [] s.rg.length))⟩ dst (mapA (bkM [] s.rg.length) x) := by
  unfold retS
  rw [retRg_new, mapT_some (kpM_nil s)]
/-- Regions that are arrays are not pinned. -/
theorem PinOk.arr {E : Env} {rg0 : List Reg} (hp : PinOk E rg0) (r : Nat) (h : isBox (rg0.getD r .dead) = false) : E.pin r = Option.none := by
  cases h1 : E.pin r with
  | none => rfl
  | some p => have := (hp r p h1).2; rw [h] at this; cases this
/-- A cell of a struct says less. -/
theorem weak_box {E : Env} {s : St} (r i : Nat) {e : TypeId} {cs : List AV} {x y : AV} (hg : s.reg r = .box e cs) (hx : cs[i]? = some x) (he : Ent x y) : Weak E s ⟨s.tm, s.rg.set r (.box e (cs.set i y))⟩ := fun a w ⟨ρ, ok, hr⟩ => by
  have hgs := reg_some hg (by simp)
  have hrlt := (List.getElem?_eq_some_iff.1 hgs).1
  refine ⟨ρ, ok, ⟨hr.mem.okl, hr.mem.inj, hr.mem.own, fun k g hk => ?_, fun k hk => hr.mem.out k (by simpa using hk)⟩, hr.tm, hr.siz, hr.dfr, hr.kps, hr.bas, hr.ownr, hr.okr, hr.pin⟩
  by_cases e1 : k = r
  · subst e1
    rw [List.getElem?_set] at hk
    simp only [if_true, hrlt] at hk
    obtain rfl := Option.some.inj hk
    obtain ⟨b, C, h1, h2, h3⟩ := hr.mem.reg k _ hgs
    refine ⟨b, C, by rw [List.length_set]; exact h1, h2, RList_set h3 fun v hv => ?_⟩
    obtain ⟨u, hu, hxu⟩ := RList_get h3 i x hx
    rw [hv] at hu
    obtain rfl := Option.some.inj hu
    exact he _ _ _ _ hxu
  · rw [List.getElem?_set_ne (Ne.symm e1)] at hk
    exact hr.mem.reg k g hk
end Go.Proofs.Ytmkodhpbjedfkaa.Aw
