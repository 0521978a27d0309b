/- A logic of abstract states for walks: rules for regions whose operations come in any order. -/
import Derived.Test.YtmkodhpbjedfkaaAwU
set_option linter.unusedVariables false
set_option linter.unusedSimpArgs false
namespace Go.Proofs.Ytmkodhpbjedfkaa.Aw
open Go.RowKit

def readyL (af : List (List Nat)) (listed : Array Bool) : List Nat :=
  (List.range af.length).filter fun i => !listed.getD i true && (af.getD i []).all fun k => listed.getD k false
theorem mem_readyL {ops : Array Oper} {listed : Array Bool} {i : Nat} : i ∈ readyL (ops.toList.map waits) listed ↔ i ∈ Region.ready .any ops listed := by
  unfold readyL
  rw [List.mem_filter, List.mem_range, mem_ready, List.length_map, Array.length_toList]
  cases ho : ops[i]? with
  | none =>
    have : ops.size ≤ i := by simpa using ho
    simp; omega
  | some o =>
    have hlt : i < ops.size := (Array.getElem?_eq_some_iff.1 ho).1
    have e : (ops.toList.map waits).getD i [] = waits o := by
      rw [List.getD_eq_getElem?_getD, List.getElem?_map, Array.getElem?_toList, ho]; rfl
    rw [e]
    simp only [hlt, true_and, Bool.and_eq_true, Bool.not_eq_true', List.all_eq_true, Option.some.injEq, exists_eq_left']
    constructor
    · rintro ⟨h0, h⟩
      refine ⟨h0, fun ed he hb => h ed.on ?_⟩
      unfold waits
      exact List.mem_filterMap.2 ⟨ed, by simpa using he, by rw [if_pos hb]⟩
    · rintro ⟨h0, h⟩
      refine ⟨h0, fun k hk => ?_⟩
      unfold waits at hk
      obtain ⟨ed, he, h1⟩ := List.mem_filterMap.1 hk
      split at h1
      · rename_i hb
        simp only [Option.some.injEq] at h1
        subst h1
        exact h ed (by simpa using he) hb
      · cases h1

/-- The operations that do not wait for number i, by way of others or not: a list that says so can be checked. -/
def bsOk (af : List (List Nat)) (i : Nat) (bs : List Bool) : Bool :=
  (List.range af.length).all fun j => bs.getD j true || j == i || (af.getD j []).any fun k => !bs.getD k true
/-- Those that may come before number i leave every block. -/
def flOk (n i : Nat) (bs fl : List Bool) (listed : Array Bool) : Bool :=
  (List.range n).all fun j => j == i || listed.getD j true || !bs.getD j true || fl.getD j false

/-- One operation of a region, by itself. -/
def AOne (P : Program) (E : Env) (m : Bool) (g : GOp) (s : St) (K : St → Prop) : Prop :=
  ∀ (ops : Array Oper) (o : Oper), gop P ops o = some g → ∀ a w, Rel E s a w → ∀ Q : Exit → Act → World → Prop,
    if Region.wanted o (yielded ops a.tmps) then o.wp P a w (fun a' w' => (m = true → Ext w w') ∧ ∃ s', K s' ∧ Rel E s' a' w') Q ∨ (o.asks P a w ∧ LetsOut Q)
    else (fun a' w' => (m = true → Ext w w') ∧ ∃ s', K s' ∧ Rel E s' a' w') (a.put o.dst undef) w
def AAny (P : Program) (E : Env) (Q : Exit → St → Prop) (af : List (List Nat)) (gs : List GOp) (fl : List Bool) (fuel : Nat) (listed : Array Bool) (s : St) : Prop :=
  ∀ ops : Array Oper, DrawOk ops → gops P ops ops.toList = some gs → ops.toList.map waits = af → Closed ops listed → ∀ a w, Rel E s a w →
    wpAnyE P ops (fun e a w => e = .normal ∧ conc E Q .normal a w) (fun i => fl.getD i false) fuel listed a w

theorem gops_get {P : Program} {ops : Array Oper} : ∀ {l : List Oper} {gs : List GOp}, gops P ops l = some gs → l.length = gs.length ∧ ∀ (i : Nat) (o : Oper), l[i]? = some o → ∃ g, gs[i]? = some g ∧ gop P ops o = some g
  | [], gs, h => by
    simp only [gops, Option.some.injEq] at h
    subst h
    exact ⟨rfl, fun i o h => by simp at h⟩
  | o :: l, gs, h => by
    unfold gops at h
    split at h
    · rename_i g r h1 h2
      simp only [Option.some.injEq] at h
      subst h
      obtain ⟨h3, h4⟩ := gops_get h2
      refine ⟨by simp [h3], fun i o' ho => ?_⟩
      cases i with
      | zero => simp only [List.getElem?_cons_zero, Option.some.injEq] at ho; subst ho; exact ⟨g, rfl, h1⟩
      | succ i => exact h4 i o' (by simpa using ho)
    · cases h

section
variable {P : Program} {E : Env} {Q : Exit → St → Prop} {s s' : St} {n : Nat} {af : List (List Nat)} {gs : List GOp} {fl : List Bool} {fuel : Nat} {listed : Array Bool}
theorem AAny.done (hr : readyL af listed = []) (h : Q .normal s) : AAny P E Q af gs fl fuel listed s := fun ops D hg ha hc a w hrel => by
  subst ha
  have hr' : Region.ready .any ops listed = [] := by
    rw [List.eq_nil_iff_forall_not_mem] at hr ⊢
    exact fun i hi => hr i (mem_readyL.2 hi)
  cases fuel with
  | zero => exact ⟨hr', rfl, s, h, hrel⟩
  | succ f => exact ⟨fun _ => ⟨rfl, s, h, hrel⟩, by rw [hr']; intro i hi; cases hi⟩
theorem AAny.take (i : Nat) (bs : List Bool) {g : GOp} (hgi : gs[i]? = some g) (hr : (readyL af listed).contains i = true) (hb : bsOk af i bs = true) (hf : flOk af.length i bs fl listed = true)
    (hst : g.op.still = true) {ob : Prop} (hs : stepOp E.n s g = some (s', ob)) (hob : ob) (h : AAny P E Q af gs fl fuel (listed.setIfInBounds i true) s') : AAny P E Q af gs fl (fuel + 1) listed s := fun ops D hg ha hc a w hrel => by
  subst ha
  have hri : i ∈ Region.ready .any ops listed := mem_readyL.1 (by simpa using hr)
  obtain ⟨_, oi, hoi, _⟩ := mem_ready.1 hri
  obtain ⟨h1, h2⟩ := gops_get hg
  obtain ⟨g', h3, h4⟩ := h2 i oi (by simpa using hoi)
  obtain rfl : g' = g := Option.some.inj (h3.symm.trans hgi)
  obtain ⟨ρ, ok, hr'⟩ := hrel
  have hbs : ∀ j oj, (fun j => bs.getD j true) j = false → j ≠ i → ops[j]? = some oj → ∃ e ∈ oj.after, Region.binds .any e = true ∧ (fun j => bs.getD j true) e.on = false := fun j oj hbj hji hoj => by
    have hlt := (Array.getElem?_eq_some_iff.1 hoj).1
    have h5 := List.all_eq_true.1 hb j (List.mem_range.2 (by simpa using hlt))
    have e : (ops.toList.map waits).getD j [] = waits oj := by
      rw [List.getD_eq_getElem?_getD, List.getElem?_map, Array.getElem?_toList, hoj]; rfl
    rw [e] at h5
    simp only [hbj, Bool.false_or, Bool.or_eq_true, beq_iff_eq, hji, false_or] at h5
    obtain ⟨k, hk, h6⟩ := List.any_eq_true.1 h5
    unfold waits at hk
    obtain ⟨ed, he, h7⟩ := List.mem_filterMap.1 hk
    split at h7
    · rename_i hbd
      simp only [Option.some.injEq] at h7
      subst h7
      exact ⟨ed, by simpa using he, hbd, by simpa using h6⟩
    · cases h7
  have hfl : ∀ j, j < ops.size → j ≠ i → listed.getD j true = false → (fun j => bs.getD j true) j = true → fl.getD j false = true := fun j hj hji hun hbj => by
    have h5 := List.all_eq_true.1 hf j (List.mem_range.2 (by simpa using hj))
    simp only [Bool.or_eq_true, beq_iff_eq, hji, false_or, hun, Bool.false_eq_true, Bool.not_eq_true'] at h5
    rcases h5 with h5 | h5
    · have hbj' : bs.getD j true = true := hbj
      rw [h5] at hbj'; cases hbj'
    · exact h5
  rcases stepOp_sound h4 hs hob hr' with ⟨hw, v, w1, ρ', ok', h5, h6, _, h7⟩ | ⟨hw, ρ', ok', h6⟩
  · obtain ⟨rfl, h8⟩ := h7 hst
    exact wpAnyE_first D hoi (fun c a w hx => (by cases hx.1)) hbs fuel listed a _ hc hfl hri (.inl ⟨hw, fun w'' he => h8 w'' he⟩)
      (h ops D hg rfl (hc.set hri) _ _ ⟨ρ', ok', h6⟩)
  · exact wpAnyE_first D hoi (fun c a w hx => (by cases hx.1)) hbs fuel listed a _ hc hfl hri (.inr ⟨hw, rfl⟩)
      (h ops D hg rfl (hc.set hri) _ _ ⟨ρ', ok', h6⟩)
theorem AAny.all {rs : List Nat} (hr : readyL af listed = rs) (hne : rs ≠ []) (h : ∀ i ∈ rs, ∃ g, gs[i]? = some g ∧ AOne P E (fl.getD i false) g s (AAny P E Q af gs fl fuel (listed.setIfInBounds i true))) :
    AAny P E Q af gs fl (fuel + 1) listed s := fun ops D hg ha hc a w hrel => by
  subst ha
  subst hr
  refine ⟨fun h0 => ?_, fun i hi => ?_⟩
  · refine absurd ?_ hne
    rw [List.eq_nil_iff_forall_not_mem]
    intro i hi
    have := mem_readyL.1 hi
    rw [h0] at this; cases this
  · obtain ⟨_, oi, hoi, _⟩ := mem_ready.1 hi
    obtain ⟨g, h1, h2⟩ := h i (mem_readyL.2 hi)
    obtain ⟨_, h3⟩ := gops_get hg
    obtain ⟨g', h4, h5⟩ := h3 i oi (by simpa using hoi)
    obtain rfl : g' = g := Option.some.inj (h4.symm.trans h1)
    have := h2 ops oi h5 a w hrel (fun e a w => e = .normal ∧ conc E Q .normal a w)
    refine wpOp_mono (K := fun a' w' => (fl.getD i false = true → Ext w w') ∧ ∃ s', AAny P E Q (ops.toList.map waits) gs fl fuel (listed.setIfInBounds i true) s' ∧ Rel E s' a' w') (fun a' w' ⟨h6, s', h7, h8⟩ => ⟨h6, h7 ops D hg rfl (hc.set hi) a' w' h8⟩) ?_
    unfold wpOp
    simp only [hoi]
    exact this
theorem AWp.drawAny (hm : P.follows .mixedOrders = true) (fl : List Bool) (h : AAny P E Q af gs fl gs.length (Array.replicate gs.length false) s) : AWp P E Q (.region true af gs) s := fun code hc a w hrel => by
  cases hc with
  | @draw id ops _ hg hB =>
    obtain ⟨h1, _⟩ := gops_get hg
    have hsz : ops.size = gs.length := by simpa using h1
    obtain ⟨ρ, ok, hr⟩ := hrel
    have key : wpAnyE P ops (fun e a w => e = .normal ∧ conc E Q .normal a w) (fun i => fl.getD i false) ops.size (Array.replicate ops.size false) a { w with drawn := w.drawn + 1 } := by
      rw [hsz]
      exact h ops (DrawOk.of hB) hg rfl (Closed.start ops _) a _ ⟨ρ, ok, hr.ext (Ext.drawn w _)⟩
    refine wp_mono (wp_region_any hm (wpAny_of_E _ _ _ _ key)) fun e a w hx => ?_
    obtain ⟨rfl, hx⟩ := hx
    exact hx

/-! ### One operation -/
theorem AOne.step {m : Bool} {g : GOp} {K : St → Prop} (hml : m = true → g.op.mild = true) {ob : Prop} (hs : stepOp E.n s g = some (s', ob)) (hob : ob) (h : K s') : AOne P E m g s K := fun ops o hg a w hrel Q => by
  obtain ⟨ρ, ok, hr⟩ := hrel
  rcases stepOp_sound hg hs hob hr with ⟨hw, v, w', ρ', ok', h3, h4, h5, _⟩ | ⟨hw, ρ', ok', h4⟩
  · rw [if_pos hw]
    left
    unfold Oper.wp
    rcases h3 with h3 | ⟨h3, rfl⟩
    · rw [h3, Oper.upon_value]; exact ⟨fun hm => h5 (hml hm), s', h, ρ', ok', h4⟩
    · rw [h3, Oper.upon_skip]; exact ⟨fun hm => h5 (hml hm), s', h, ρ', ok', h4⟩
  · rw [if_neg (by rw [hw]; simp)]
    exact ⟨fun _ => Ext.refl w, s', h, ρ', ok', h4⟩
/-- Whatever rule there is for the operation, nothing being said of the blocks. -/
theorem AOne.rule {g : GOp} {K : St → Prop} (h : AWpL P E (fun e s' => e = .normal ∧ K s') [g] s) : AOne P E false g s K := fun ops o hg a w hrel Q => by
  have h1 := h ops [o] (by simp [gops, hg]) a w hrel
  unfold wpList at h1
  split
  · rename_i hw
    rw [if_pos hw] at h1
    rcases h1 with h1 | ⟨_, a', w', s', h2, _⟩
    · left
      have h2 : o.wp P a w (fun a' w' => (false = true → Ext w w') ∧ ∃ s', K s' ∧ Rel E s' a' w') (conc E fun e s' => e = .normal ∧ K s') := by
        refine Oper.wp_mono (K := wpList P ops (conc E fun e s' => e = .normal ∧ K s') []) (fun a' w' hx => ?_) h1
        obtain ⟨s', h3, h4⟩ := hx
        exact ⟨fun hh => (by cases hh), s', h3.2, h4⟩
      unfold Oper.wp at h2 ⊢
      generalize (execOp a.eval o).run P w = r at *
      cases r with
      | ok nx w' =>
        cases nx <;> simp only [Oper.upon] at h2 ⊢ <;> first | exact h2 | skip
        case enter f args =>
          refine Calls.mono h2 fun e w'' he => ?_
          cases e with
          | returned u => exact he
          | panicked c => obtain ⟨s', h3, _⟩ := he; cases h3.1
          | outgrown => obtain ⟨_, _, s', h3, _⟩ := he; cases h3.1
      | halt x w' =>
        cases x <;> simp only [Oper.upon] at h2 ⊢ <;> first | exact h2 | (obtain ⟨s', h3, _⟩ := h2; cases h3.1)
    · cases h2.1
  · rename_i hw
    rw [if_neg hw] at h1
    obtain ⟨s', h3, h4⟩ := h1
    exact ⟨fun hh => (by cases hh), s', h3.2, h4⟩
end
end Go.Proofs.Ytmkodhpbjedfkaa.Aw
