/- A logic of abstract states for walks: guarded operations whose guard is known. -/
import Derived.Test.YtmkodhpbjedfkaaAwW
set_option linter.unusedVariables false
set_option linter.unusedSimpArgs false
namespace Go.Proofs.Ytmkodhpbjedfkaa.Aw
open Go.RowKit

section
variable {P : Program} {E : Env} {Q : Exit → St → Prop} {s s' : St} {n : Nat} {a : Act} {w : World} {ρ : Nat → Option (Option Place)} {ok : Nat → Prop}
theorem wanted_gd {ops : Array Oper} {o : Oper} {j t : Nat} {want b : Bool} (hr : RelM E s a w ρ ok) (hg0 : o.guard = some (j, want)) (hg1 : (ops[j]?).bind (·.dst) = some t) (hb : gdB (look s.tm t) want = some b) :
    Region.wanted o (yielded ops a.tmps) = b := by
  rw [wanted_some hg0]
  have hv := hr.tm t
  unfold gdB at hb
  split at hb
  · rename_i b' want' hl
    simp only [Option.some.injEq] at hb
    rw [hl] at hv
    rw [yield_of hg1 (R_val hv), ← hb]; simp
  · rename_i want' c b' hl
    simp only [Option.some.injEq] at hb
    rw [hl] at hv
    unfold R at hv
    cases c with
    | true => rw [yield_of hg1 (R_val (hv.1 rfl)), ← hb]; simp
    | false => rw [yield_undef hg1 (hv.2 rfl), ← hb]; rfl
  · cases hb
/-- An operation without its guard. -/
def bare (o : Oper) : Oper := { o with guard := none }
theorem comp_bare (o : Oper) : comp P (bare o) = comp P o := rfl
theorem gop_bare {ops : Array Oper} {o : Oper} {d : Option Nat} {g : Option (Nat × Bool)} {op : AOp} (h : gop P ops o = some ⟨d, g, op⟩) : gop P ops (bare o) = some ⟨d, none, op⟩ := by
  obtain ⟨h1, h2, _⟩ := gop_guard h
  unfold gop
  rw [comp_bare, h1]
  simp only [bare] at *
  rw [← h2]
theorem guard_inv {ops : Array Oper} {o : Oper} {d : Option Nat} {t : Nat} {want : Bool} {op : AOp} (h : gop P ops o = some ⟨d, some (t, want), op⟩) : ∃ j, o.guard = some (j, want) ∧ (ops[j]?).bind (·.dst) = some t := by
  obtain ⟨_, _, h3⟩ := gop_guard h
  rcases h3 with ⟨_, h3⟩ | ⟨j, want', t', h3, h4, h5⟩
  · cases h3
  · simp only [Option.some.injEq, Prod.mk.injEq] at h5
    obtain ⟨rfl, rfl⟩ := h5
    exact ⟨j, h3, h4⟩
theorem wp_bare (o : Oper) (a : Act) (w : World) (K : Act → World → Prop) (Q' : Exit → Act → World → Prop) : (bare o).wp P a w K Q' = o.wp P a w K Q' := rfl
theorem asks_bare (o : Oper) (a : Act) (w : World) : (bare o).asks P a w = o.asks P a w := rfl
/-- The guard holds. -/
theorem AWpL.guardT {d : Option Nat} {t : Nat} {want : Bool} {op : AOp} {gs : List GOp} (h : gdB (look s.tm t) want = some true) (k : AWpL P E Q (⟨d, none, op⟩ :: gs) s) : AWpL P E Q (⟨d, some (t, want), op⟩ :: gs) s := fun ops l hl a w hrel => by
  obtain ⟨o, l', rfl, h1, h2⟩ := gops_cons hl
  have h3 := k ops (bare o :: l') (by unfold gops; rw [gop_bare h1, h2]) a w hrel
  obtain ⟨ρ, ok, hr⟩ := hrel
  obtain ⟨j, hg0, hg1⟩ := guard_inv h1
  unfold wpList at h3 ⊢
  rw [if_pos (wanted_none (o := bare o) rfl _)] at h3
  rw [if_pos (wanted_gd hr hg0 hg1 h)]
  exact h3
/-- The guard does not hold. -/
theorem AWpL.guardF {d : Option Nat} {t : Nat} {want : Bool} {op : AOp} {gs : List GOp} (hd : dstOk E.n d = true) (h : gdB (look s.tm t) want = some false) (k : AWpL P E Q gs (s.putO d (.opt false .any))) : AWpL P E Q (⟨d, some (t, want), op⟩ :: gs) s := fun ops l hl a w hrel => by
  obtain ⟨o, l', rfl, h1, h2⟩ := gops_cons hl
  obtain ⟨ρ, ok, hr⟩ := hrel
  obtain ⟨j, hg0, hg1⟩ := guard_inv h1
  obtain ⟨_, hdst, _⟩ := gop_guard h1
  unfold wpList
  rw [if_neg (by rw [wanted_gd hr hg0 hg1 h]; simp)]
  refine k ops l' h2 _ _ ⟨ρ, ok, ?_⟩
  rw [← hdst]
  exact hr.putO hd (by unfold R; exact ⟨fun e => (by cases e), fun _ => rfl⟩)
theorem AWpQ.guardT {d : Option Nat} {t : Nat} {want : Bool} {op : AOp} {gs : List GOp} (h : gdB (look s.tm t) want = some true) (k : AWpQ P E Q (⟨d, none, op⟩ :: gs) s) : AWpQ P E Q (⟨d, some (t, want), op⟩ :: gs) s := fun ops l hl a w hrel => by
  obtain ⟨o, l', rfl, h1, h2⟩ := gops_cons hl
  have h3 := k ops (bare o :: l') (by unfold gops; rw [gop_bare h1, h2]) a w hrel
  obtain ⟨ρ, ok, hr⟩ := hrel
  obtain ⟨j, hg0, hg1⟩ := guard_inv h1
  unfold wpQuiet at h3 ⊢
  rw [if_pos (wanted_none (o := bare o) rfl _)] at h3
  rw [if_pos (wanted_gd hr hg0 hg1 h)]
  exact h3
theorem AWpQ.guardF {d : Option Nat} {t : Nat} {want : Bool} {op : AOp} {gs : List GOp} (hd : dstOk E.n d = true) (h : gdB (look s.tm t) want = some false) (k : AWpQ P E Q gs (s.putO d (.opt false .any))) : AWpQ P E Q (⟨d, some (t, want), op⟩ :: gs) s := fun ops l hl a w hrel => by
  obtain ⟨o, l', rfl, h1, h2⟩ := gops_cons hl
  obtain ⟨ρ, ok, hr⟩ := hrel
  obtain ⟨j, hg0, hg1⟩ := guard_inv h1
  obtain ⟨_, hdst, _⟩ := gop_guard h1
  unfold wpQuiet
  rw [if_neg (by rw [wanted_gd hr hg0 hg1 h]; simp)]
  refine k ops l' h2 _ _ ⟨ρ, ok, ?_⟩
  rw [← hdst]
  exact hr.putO hd (by unfold R; exact ⟨fun e => (by cases e), fun _ => rfl⟩)
/-- What is there is there. -/
theorem weak_opt (i : Nat) {x : AV} (h : look s.tm i = .opt true x) : Weak E s (s.put i x) := fun a w ⟨ρ, ok, hr⟩ => by
  refine ⟨ρ, ok, hr.mem, fun m => ?_, hr.siz, hr.dfr, hr.kps, hr.bas, hr.ownr, hr.okr, hr.pin⟩
  show R w ok ρ (look (putTm s.tm i x) m) _
  rw [look_put]
  by_cases e : m = i
  · subst e
    rw [if_pos rfl]
    have := hr.tm m
    rw [h] at this
    unfold R at this
    exact this.1 rfl
  · rw [if_neg e]; exact hr.tm m
end
end Go.Proofs.Ytmkodhpbjedfkaa.Aw
