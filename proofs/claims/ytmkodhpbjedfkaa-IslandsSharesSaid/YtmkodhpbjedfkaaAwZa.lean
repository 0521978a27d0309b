/- A logic of abstract states for walks: several guarded operations that are not wanted. -/
import Derived.Test.YtmkodhpbjedfkaaAwZ
set_option linter.unusedVariables false
set_option linter.unusedSimpArgs false
namespace Go.Proofs.Ytmkodhpbjedfkaa.Aw
open Go.RowKit

/-- The next m operations have this guard, and none of them writes its temporary. -/
def guardedBy (n t : Nat) (want : Bool) : Nat → List GOp → Bool
  | 0, _ => true
  | m + 1, ⟨d, some (t', want'), _⟩ :: l => t' == t && want' == want && d != some t && dstOk n d && guardedBy n t want m l
  | _ + 1, _ => false
def skipS : Nat → List GOp → St → St
  | 0, _, s => s
  | m + 1, ⟨d, _, _⟩ :: l, s => skipS m l (s.putO d (.opt false .any))
  | _ + 1, [], s => s
section
variable {P : Program} {E : Env} {Q : Exit → St → Prop} {n : Nat}
theorem look_putO {s : St} {d : Option Nat} {t : Nat} (x : AV) (h : (d != some t) = true) : look (s.putO d x).tm t = look s.tm t := by
  cases d with
  | none => rfl
  | some d =>
    show look (putTm s.tm d x) t = _
    rw [look_put, if_neg fun e => by subst e; simp at h]
theorem AWpL.skips (hn : E.n = n) (t : Nat) (want : Bool) : ∀ (m : Nat) {gs : List GOp} {s : St}, gdB (look s.tm t) want = some false → guardedBy n t want m gs = true → AWpL P E Q (gs.drop m) (skipS m gs s) → AWpL P E Q gs s
  | 0, gs, s, _, _, k => k
  | m + 1, [], s, h, hg, k => by simp [guardedBy] at hg
  | m + 1, ⟨d, none, op⟩ :: l, s, h, hg, k => by simp [guardedBy] at hg
  | m + 1, ⟨d, some (t', want'), op⟩ :: l, s, h, hg, k => by
    simp only [guardedBy, Bool.and_eq_true, beq_iff_eq] at hg
    obtain ⟨⟨⟨⟨rfl, rfl⟩, h1⟩, h2⟩, h3⟩ := hg
    exact AWpL.guardF (hn ▸ h2) h (AWpL.skips hn t' want' m (by rw [look_putO _ h1]; exact h) h3 k)
theorem AWpQ.skips (hn : E.n = n) (t : Nat) (want : Bool) : ∀ (m : Nat) {gs : List GOp} {s : St}, gdB (look s.tm t) want = some false → guardedBy n t want m gs = true → AWpQ P E Q (gs.drop m) (skipS m gs s) → AWpQ P E Q gs s
  | 0, gs, s, _, _, k => k
  | m + 1, [], s, h, hg, k => by simp [guardedBy] at hg
  | m + 1, ⟨d, none, op⟩ :: l, s, h, hg, k => by simp [guardedBy] at hg
  | m + 1, ⟨d, some (t', want'), op⟩ :: l, s, h, hg, k => by
    simp only [guardedBy, Bool.and_eq_true, beq_iff_eq] at hg
    obtain ⟨⟨⟨⟨rfl, rfl⟩, h1⟩, h2⟩, h3⟩ := hg
    exact AWpQ.guardF (hn ▸ h2) h (AWpQ.skips hn t' want' m (by rw [look_putO _ h1]; exact h) h3 k)
/-- Stop ahead of operation number k. -/
theorem AWpL.upto (k : Nat) (hn : E.n = n) {gs : List GOp} {s : St} (hd : dstsOk n (gs.take k) = true) (h : wpL P E (fun e s' => e = .normal ∧ AWpL P E Q (gs.drop k) s') (gs.take k) s) : AWpL P E Q gs s := by
  have h1 := AWpL.of hn hd h
  have : AWpL P E Q (gs.take k ++ gs.drop k) s := by
    intro ops l hl a w hr
    obtain ⟨l1, l2, rfl, h2, h3⟩ : ∃ l1 l2, l = l1 ++ l2 ∧ gops P ops l1 = some (gs.take k) ∧ gops P ops l2 = some (gs.drop k) := by
      clear h h1 hr
      generalize gs.take k = x at hl
      generalize gs.drop k = y at hl
      induction x generalizing l with
      | nil => exact ⟨[], l, rfl, rfl, hl⟩
      | cons g x ih =>
        obtain ⟨o, l', rfl, h4, h5⟩ := gops_cons hl
        obtain ⟨l1, l2, rfl, h6, h7⟩ := ih _ h5
        exact ⟨o :: l1, l2, rfl, by unfold gops; rw [h4, h6], h7⟩
    have h4 := h1 ops l1 h2 a w hr
    clear hr h2 hl
    induction l1 generalizing a w with
    | nil =>
      obtain ⟨s', ⟨_, h5⟩, h6⟩ := h4
      exact h5 ops l2 h3 _ _ h6
    | cons o l1 ih =>
      show wpList P ops (conc E Q) (o :: (l1 ++ l2)) a w
      unfold wpList at h4 ⊢
      split
      · rename_i hw
        rw [if_pos hw] at h4
        rcases h4 with h4 | ⟨_, a', w', s', h5, _⟩
        · left
          have h5 := Oper.wp_mono (K' := wpList P ops (conc E Q) (l1 ++ l2)) (fun a' w' hx => ih a' w' hx) h4
          unfold Oper.wp at h5 ⊢
          generalize (execOp a.eval o).run P w = r at *
          cases r with
          | ok nx w' =>
            cases nx <;> simp only [Oper.upon] at h5 ⊢ <;> first | exact h5 | skip
            case enter f args =>
              refine Calls.mono h5 fun e w'' he => ?_
              cases e with
              | returned u => exact he
              | panicked c => obtain ⟨s', h6, _⟩ := he; cases h6.1
              | outgrown => obtain ⟨_, _, s', h6, _⟩ := he; cases h6.1
          | halt x w' =>
            cases x <;> simp only [Oper.upon] at h5 ⊢ <;> first | exact h5 | (obtain ⟨s', h6, _⟩ := h5; cases h6.1)
        · cases h5.1
      · rename_i hw
        rw [if_neg hw] at h4
        exact ih _ _ h4
  rwa [List.take_append_drop] at this
end
end Go.Proofs.Ytmkodhpbjedfkaa.Aw
