/- A logic of abstract states for walks: a nil slice in a struct is an array without elements; ends by way of weaker states. -/
import Derived.Test.YtmkodhpbjedfkaaAwY
set_option linter.unusedVariables false
set_option linter.unusedSimpArgs false
namespace Go.Proofs.Ytmkodhpbjedfkaa.Aw
open Go.RowKit

section
variable {E : Env} {s s' : St}
theorem RList_set {w : World} {ok : Nat → Prop} {ρ : Nat → Option (Option Place)} : ∀ {xs : List AV} {vs : List Value} {i : Nat} {x : AV}, RList w ok ρ xs vs → (∀ v, vs[i]? = some v → R w ok ρ x v) → RList w ok ρ (xs.set i x) vs
  | [], vs, i, x, h, _ => h
  | y :: xs, vs, 0, x, h, hx => by
    unfold RList at h
    obtain ⟨v, vs', rfl, h1, h2⟩ := h
    show RList w ok ρ (x :: xs) (v :: vs')
    unfold RList
    exact ⟨v, vs', rfl, hx v rfl, h2⟩
  | y :: xs, vs, i + 1, x, h, hx => by
    unfold RList at h
    obtain ⟨v, vs', rfl, h1, h2⟩ := h
    show RList w ok ρ (y :: xs.set i x) (v :: vs')
    unfold RList
    exact ⟨v, vs', rfl, h1, RList_set h2 fun u hu => hx u (by simpa using hu)⟩
/-- A nil slice in a box is an array of the call's own without elements. -/
theorem weak_nilbox (r i : Nat) (e : TypeId) (sz : Nat) {eb : TypeId} {cs : List AV} (hg : s.reg r = .box eb cs) (h : cs[i]? = some (.val (.slice none 0 0))) :
    Weak E s ⟨s.tm, (s.rg.set r (.box eb (cs.set i (.hnd s.rg.length 0 0 0 false)))) ++ [.arr e sz []]⟩ := fun a w ⟨ρ, ok, hr⟩ => by
  have hn := hr.mem.out s.rg.length (Nat.le_refl _)
  have hold := addPl_old hn none
  have hnew : addPl ρ s.rg.length none s.rg.length = some none := by unfold addPl; rw [if_pos rfl]
  have hrlt : r < s.rg.length := (List.getElem?_eq_some_iff.1 (reg_some hg (by simp))).1
  have hne : ∀ r p, addPl ρ s.rg.length none r = some (some p) → ρ r = some (some p) := fun r p hp => by
    unfold addPl at hp
    split at hp
    · cases hp
    · exact hp
  refine ⟨addPl ρ s.rg.length none, ok, ⟨hr.mem.okl, fun r r' p p' h1 h2 h3 => hr.mem.inj r r' p p' (hne _ _ h1) (hne _ _ h2) h3, fun r p hp => hr.mem.own r p (hne _ _ hp), fun k g hk => ?_, fun k hr' => ?_⟩, fun n => ?_, hr.siz, hr.dfr, hr.kps, hr.bas, fun r p hp => hr.ownr r p (hne _ _ hp), hr.okr, fun r p hp => hold _ _ (hr.pin r p hp)⟩
  · by_cases e1 : k = s.rg.length
    · subst e1
      rw [List.getElem?_append_right (by simp)] at hk
      obtain rfl : g = .arr e sz [] := by simpa using hk.symm
      exact .inr ⟨rfl, hnew⟩
    · have hlt : k < s.rg.length := by
        have := (List.getElem?_eq_some_iff.1 hk).1
        simp at this; omega
      rw [List.getElem?_append_left (by simpa using hlt)] at hk
      have hρr : addPl ρ s.rg.length none k = ρ k := by unfold addPl; rw [if_neg e1]
      by_cases e2 : k = r
      · subst e2
        rw [List.getElem?_set] at hk
        simp only [if_true, hrlt] at hk
        obtain rfl := Option.some.inj hk
        obtain ⟨b, C, h1, h2, h3⟩ := hr.mem.reg k _ (reg_some hg (by simp))
        refine ⟨b, C, by rw [hρr, List.length_set]; exact h1, h2, RList_set (RList_frame (fun _ _ _ _ x => x) (fun _ x => x) hold _ _ h3) fun v hv => ?_⟩
        obtain ⟨v', h4, h5⟩ := RList_get h3 i _ h
        rw [h4] at hv
        obtain rfl := Option.some.inj hv
        have := R_val h5
        subst this
        unfold R
        exact .inr ⟨hnew, rfl, rfl, rfl, rfl⟩
      · rw [List.getElem?_set_ne (Ne.symm e2)] at hk
        have h0 := hr.mem.reg k g hk
        cases g with
        | dead => exact hρr.trans h0
        | box e' cs =>
          obtain ⟨b, C, h1, h2, h3⟩ := h0
          exact ⟨b, C, hρr.trans h1, h2, RList_frame (fun _ _ _ _ x => x) (fun _ x => x) hold _ _ h3⟩
        | arr e' sz els =>
          rcases h0 with ⟨b, d, C, pre, vs, rest, h1, h2⟩ | ⟨h0, h1⟩
          · exact .inl ⟨b, d, C, pre, vs, rest, hρr.trans h1, h2⟩
          · exact .inr ⟨h0, hρr.trans h1⟩
  · unfold addPl
    have : s.rg.length + 1 ≤ k := by simpa using hr'
    rw [if_neg (by omega)]
    exact hr.mem.out k (by omega)
  · exact R_frame (fun _ _ _ _ x => x) (fun _ x => x) hold _ _ (hr.tm n)
theorem Retn.weak {rs : List RV} {Post : List Reg → AV → Prop} (hw : Weak E s s') : ∀ e, Retn E rs Post e s' → Retn E rs Post e s := fun e h => by
  cases e <;> first | exact h.elim | (obtain ⟨s1, l, ob, h1, h2⟩ := h; exact ⟨s1, l, ob, hw.trans h1, h2⟩)
end
/-- A function that may leave regions; the post by cases of how it ends. -/
theorem Spec.regs {P : Program} {f : FuncId} {n np : Nat} {rs : List RV} {ac : ACode} (k : FnIs P f n rs ac) (hm : P.follows .mixedOrders = true) {rg0 : List Reg} {args : List AV} {Post : List Reg → AV → Prop} (hl : Nat.ble args.length n = true) (hnp : rg0.length = np)
    (hd : dstsC n ac = true) (h : ∀ E : Env, E.n = n → E.np = np → PinOk E rg0 → wpC P E ac (Retn E rs Post) ⟨params 0 args, rg0⟩) : Spec P f rg0 args Post :=
  Spec.of k hl fun E hn hp0 hp => AWp.of hn hm hd (h E hn (hp0.trans hnp) hp)
end Go.Proofs.Ytmkodhpbjedfkaa.Aw
