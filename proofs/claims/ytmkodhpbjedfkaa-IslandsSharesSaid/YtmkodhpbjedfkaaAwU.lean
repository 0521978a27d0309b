/- A logic of abstract states for walks: regions whose operations come in any order. -/
import Derived.Test.YtmkodhpbjedfkaaAwS
import Derived.OrdersHeld
set_option linter.unusedVariables false
set_option linter.unusedSimpArgs false
namespace Go.Proofs.Ytmkodhpbjedfkaa.Aw
open Go.RowKit

/-! ### What the check of a region's written order says -/
structure DrawOk (ops : Array Oper) : Prop where
  sel : Region.noSelect ops = true
  back : ∀ (j : Nat) (oj : Oper), ops[j]? = some oj → ∀ e ∈ oj.after, Region.binds .any e = true → e.on < j
  apt : ∀ (i j : Nat) (oi oj : Oper), i < j → ops[i]? = some oi → ops[j]? = some oj → (∀ e ∈ oj.after, Region.binds .any e = true → e.on ≠ i) → oi.apart ops oj = true

def UpTo (n k : Nat) (listed : Array Bool) : Prop := listed.size = n ∧ ∀ j, j < n → listed[j]? = some (decide (j < k))
theorem UpTo.tr {n k : Nat} {listed : Array Bool} (h : UpTo n k listed) {j : Nat} (hj : j < n) (d : Bool) : listed.getD j d = decide (j < k) := by
  rw [Array.getD_eq_getD_getElem?, h.2 j hj]; rfl
theorem UpTo.of_true {n k : Nat} {listed : Array Bool} (h : UpTo n k listed) {j : Nat} (hj : listed.getD j false = true) : j < k := by
  rcases Nat.lt_or_ge j n with h1 | h1
  · rw [h.tr h1] at hj; simpa using hj
  · rw [Array.getD_eq_getD_getElem?, Array.getElem?_eq_none (by rw [h.1]; exact h1)] at hj; cases hj
theorem UpTo.next {n k : Nat} {listed : Array Bool} (h : UpTo n k listed) : UpTo n (k + 1) (listed.setIfInBounds k true) := by
  refine ⟨by simp [h.1], fun j hj => ?_⟩
  rw [Array.getElem?_setIfInBounds]
  by_cases e : k = j
  · subst e
    rw [if_pos rfl, if_pos (by rw [h.1]; exact hj)]; simp
  · rw [if_neg e, h.2 j hj]
    congr 1
    exact decide_eq_decide.2 (by omega)
theorem lex_facts {ops : Array Oper} : ∀ (fuel k : Nat) (listed : Array Bool), UpTo ops.size k listed → k + fuel = ops.size → Region.lexFrom .any ops fuel k listed = true →
    ∀ (i : Nat) (oi : Oper), k ≤ i → ops[i]? = some oi → (∀ e ∈ oi.after, Region.binds .any e = true → e.on < i) ∧
      ∀ (j : Nat) (oj : Oper), i < j → ops[j]? = some oj → (∀ e ∈ oj.after, Region.binds .any e = true → e.on ≠ i) → oi.apart ops oj = true
  | 0, k, listed, hu, hk, _, i, oi, hi, ho => by
    have := (Array.getElem?_eq_some_iff.1 ho).1
    omega
  | fuel + 1, k, listed, hu, hk, hB, i, oi, hi, ho => by
    simp only [Region.lexFrom, Bool.and_eq_true] at hB
    obtain ⟨⟨hr, hf⟩, hB'⟩ := hB
    by_cases e : k = i
    · subst e
      have hr' : k ∈ Region.ready .any ops listed := by simpa using hr
      obtain ⟨h0, o, h1, h2⟩ := mem_ready.1 hr'
      obtain rfl : o = oi := Option.some.inj (h1.symm.trans ho)
      refine ⟨fun e he hb => hu.of_true (h2 e he hb), fun j oj hj hoj hno => ?_⟩
      refine Region.free_spec ho hf j oj hoj (by omega) ?_ hno
      rw [hu.tr (Array.getElem?_eq_some_iff.1 hoj).1]
      simpa using by omega
    · exact lex_facts fuel (k + 1) _ hu.next (by omega) hB' i oi (by omega) ho
theorem DrawOk.of {ops : Array Oper} (h : Region.lexB .any ops = true) : DrawOk ops := by
  simp only [Region.lexB, Bool.and_eq_true] at h
  have h0 : UpTo ops.size 0 (Array.replicate ops.size false) := ⟨by simp, fun j hj => by rw [Array.getElem?_replicate, if_pos hj]; simp⟩
  have := lex_facts ops.size 0 _ h0 (by omega) h.2
  exact ⟨h.1, fun j oj hj => (this j oj (Nat.zero_le _) hj).1, fun i j oi oj hij hi hj hno => (this i oi (Nat.zero_le _) hi).2 j oj hij hj hno⟩
theorem apart_symm {ops : Array Oper} {x y : Oper} (h : x.apart ops y = true) : y.apart ops x = true := by
  obtain ⟨h1, h2, h3⟩ := Oper.apart_spec h
  unfold Oper.apart
  cases hx : x.dst with
  | none =>
    cases hy : y.dst with
    | none => rfl
    | some d => simp [h3 d hy]
  | some c =>
    have := h1 c hx
    cases hy : y.dst with
    | none => simpa using this
    | some d =>
      have h4 := h3 d hy
      have h5 := h2 c hx
      rw [hy] at h5
      simp only [Bool.and_eq_true, Bool.not_eq_true', List.contains_eq_mem, decide_eq_false_iff_not, bne_iff_ne, ne_eq, Option.some.injEq]
      exact ⟨⟨h4, fun e => h5 (by rw [e])⟩, this⟩

/-- What has come up has had all that it waits for. -/
def Closed (ops : Array Oper) (listed : Array Bool) : Prop :=
  ∀ (j : Nat) (oj : Oper), ops[j]? = some oj → listed.getD j false = true → ∀ e ∈ oj.after, Region.binds .any e = true → listed.getD e.on false = true
theorem Closed.set {ops : Array Oper} {listed : Array Bool} (h : Closed ops listed) {i : Nat} (hr : i ∈ Region.ready .any ops listed) : Closed ops (listed.setIfInBounds i true) := fun j oj hj hl e he hb => by
  by_cases hij : i = j
  · subst hij
    obtain ⟨_, o, h1, h2⟩ := mem_ready.1 hr
    obtain rfl : o = oj := Option.some.inj (h1.symm.trans hj)
    exact getD_set_true (h2 e he hb)
  · rw [getD_set_ne false hij] at hl
    exact getD_set_true (h j oj hj hl e he hb)
theorem Closed.start (ops : Array Oper) (n : Nat) : Closed ops (Array.replicate n false) := fun j oj hj hl => by
  rw [Array.getD_eq_getD_getElem?, Array.getElem?_replicate] at hl
  split at hl <;> cases hl

section
variable {P : Program} {ops : Array Oper} {Q : Exit → Act → World → Prop} {fl : Nat → Bool}
/-- Whatever order is picked from here on; behind the operations of 'fl' every block stays. -/
def wpAnyE (P : Program) (ops : Array Oper) (Q : Exit → Act → World → Prop) (fl : Nat → Bool) : Nat → Array Bool → Act → World → Prop
  | 0, listed, a, w => Region.ready .any ops listed = [] ∧ Q .normal a w
  | fuel + 1, listed, a, w => (Region.ready .any ops listed = [] → Q .normal a w) ∧
    ∀ i ∈ Region.ready .any ops listed, wpOp P ops Q i (fun a' w' => (fl i = true → Ext w w') ∧ wpAnyE P ops Q fl fuel (listed.setIfInBounds i true) a' w') a w
theorem wpAny_of_E : ∀ (fuel : Nat) (listed : Array Bool) (a : Act) (w : World), wpAnyE P ops Q fl fuel listed a w → wpAny P .any ops Q fuel listed a w
  | 0, _, _, _, h => h
  | fuel + 1, _, _, _, h => ⟨h.1, fun i hi => wpOp_mono (fun a' w' h' => wpAny_of_E fuel _ a' w' h'.2) (h.2 i hi)⟩

theorem before_unlisted {listed : Array Bool} (D : DrawOk ops) (hc : Closed ops listed) {i : Nat} (hi : listed.getD i false = false) {bs : Nat → Bool}
    (hbs : ∀ j oj, bs j = false → j ≠ i → ops[j]? = some oj → ∃ e ∈ oj.after, Region.binds .any e = true ∧ bs e.on = false) :
    ∀ (j : Nat) (oj : Oper), ops[j]? = some oj → bs j = false → listed.getD j false = false := by
  intro j
  induction j using Nat.strongRecOn with
  | _ j ih =>
    intro oj hj hb
    by_cases e : j = i
    · rw [e]; exact hi
    · obtain ⟨ed, h1, h2, h3⟩ := hbs j oj hb e hj
      have h4 := D.back j oj hj ed h1 h2
      have hlt : ed.on < ops.size := Nat.lt_trans h4 (Array.getElem?_eq_some_iff.1 hj).1
      have h5 := ih ed.on h4 _ (Array.getElem?_eq_getElem hlt) h3
      cases h6 : listed.getD j false with
      | false => rfl
      | true =>
        have := hc j oj hj h6 ed h1 h2
        rw [h5] at this; cases this

theorem wpAnyE_first {i : Nat} {oi : Oper} {v : Value} (D : DrawOk ops) (hi : ops[i]? = some oi) (hQ : ∀ c a w, Q (.panic c) (a.put oi.dst v) w → Q (.panic c) a w) {bs : Nat → Bool}
    (hbs : ∀ j oj, bs j = false → j ≠ i → ops[j]? = some oj → ∃ e ∈ oj.after, Region.binds .any e = true ∧ bs e.on = false) :
    ∀ (fuel : Nat) (listed : Array Bool) (a : Act) (w : World), Closed ops listed →
      (∀ j, j < ops.size → j ≠ i → listed.getD j true = false → bs j = true → fl j = true) →
      i ∈ Region.ready .any ops listed → YieldsIf P ops (Ext w) oi v a →
      wpAnyE P ops Q fl fuel (listed.setIfInBounds i true) (a.put oi.dst v) w → wpAnyE P ops Q fl (fuel + 1) listed a w := by
  have hsel := Region.noSelect_spec D.sel
  intro fuel
  induction fuel with
  | zero =>
    intro listed a w _ _ hr hy H
    refine ⟨fun h => (by rw [h] at hr; cases hr), fun j hj => ?_⟩
    by_cases hji : j = i
    · subst hji; exact hy.wpOp hi (Ext.refl w) ⟨fun _ => Ext.refl w, H⟩
    · have := ready_mono hj hji
      rw [H.1] at this
      cases this
  | succ fuel ih =>
    intro listed a w hc hfl hr hy H
    refine ⟨fun h => (by rw [h] at hr; cases hr), fun j hj => ?_⟩
    by_cases hji : j = i
    · subst hji; exact hy.wpOp hi (Ext.refl w) ⟨fun _ => Ext.refl w, H⟩
    · have h1 := H.2 j (ready_mono hj hji)
      obtain ⟨hjun, oj, hoj, hall⟩ := mem_ready.1 hj
      obtain ⟨hiun, oi', hoi, halli⟩ := mem_ready.1 hr
      obtain rfl : oi' = oi := Option.some.inj (hoi.symm.trans hi)
      have hif : listed.getD i false = false := by
        rw [Array.getD_eq_getD_getElem?] at hiun ⊢
        cases h : listed[i]? with
        | none => rfl
        | some b => rw [h] at hiun; exact hiun
      have hjf : listed.getD j false = false := by
        rw [Array.getD_eq_getD_getElem?] at hjun ⊢
        cases h : listed[j]? with
        | none => rfl
        | some b => rw [h] at hjun; exact hjun
      have hnot : ∀ e ∈ oj.after, Region.binds .any e = true → e.on ≠ i := fun e he hb heq => by
        have := hall e he hb
        rw [heq, hif] at this; cases this
      have hnoti : ∀ e ∈ oi'.after, Region.binds .any e = true → e.on ≠ j := fun e he hb heq => by
        have := halli e he hb
        rw [heq, hjf] at this; cases this
      have hap : oi'.apart ops oj = true := by
        rcases Nat.lt_or_gt_of_ne hji with h | h
        · exact apart_symm (D.apt j i oj oi' h hoj hi hnoti)
        · exact D.apt i j oi' oj h hi hoj hnot
      have hbj : bs j = true := by
        cases hb : bs j with
        | true => rfl
        | false =>
          obtain ⟨e, he, hbd, hbe⟩ := hbs j oj hb hji hoj
          have hlt : e.on < ops.size := Nat.lt_trans (D.back j oj hoj e he hbd) (Array.getElem?_eq_some_iff.1 hoj).1
          have h2 := before_unlisted D hc hif hbs e.on _ (Array.getElem?_eq_getElem hlt) hbe
          have h3 := hall e he hbd
          rw [h2] at h3; cases h3
      have hflj := hfl j (Array.getElem?_eq_some_iff.1 hoj).1 hji hjun hbj
      have h2 := wpOp_putIf hoj hap (fun cs b => hsel i oi' cs b hi) (fun cs b => hsel j oj cs b hoj) hQ hy h1
      refine wpOp_mono (fun a' w' h3 => ⟨h3.2.1, ih (listed.setIfInBounds j true) a' w' (hc.set hj) (fun k hk hki hun hb => ?_) (ready_mono hr (Ne.symm hji)) ?_ ?_⟩) h2
      · refine hfl k hk hki ?_ hb
        by_cases hjk : j = k
        · subst hjk; exact hjun
        · rw [getD_set_ne true hjk] at hun; exact hun
      · have he := h3.2.1 hflj
        exact h3.1.imp (fun ⟨x, y⟩ => ⟨x, fun u hu => y u (he.trans hu)⟩) id
      · rw [Array.setIfInBounds_comm _ _ hji]
        exact h3.2.2
end
end Go.Proofs.Ytmkodhpbjedfkaa.Aw
