/- A logic of abstract states for walks: regions whose operations come in any order. -/
import Derived.Test.YtoickofcmngdjaaAwS
import Derived.OrdersHeld
set_option linter.unusedVariables false
set_option linter.unusedSimpArgs false
namespace Go.Proofs.Ytoickofcmngdjaa.Aw
open Go.RowKit

/-! ### What the check of a region's written order says -/
structure DrawOk (ops : Array Oper) : Prop where
  sel : Region.noSelect ops = true
  back : ∀ (j : Nat) (oj : Oper), ops[j]? = some oj → ∀ e ∈ oj.after, Region.binds .any e = true → e.on < j
  apt : ∀ (i j : Nat) (oi oj : Oper), i < j → ops[i]? = some oi → ops[j]? = some oj → (∀ e ∈ oj.after, Region.binds .any e = true → e.on ≠ i) → oi.apart ops oj = true

def UpTo (n k : Nat) (listed : Array Bool) : Prop := listed.size = n ∧ ∀ j, j < n → listed[j]? = some (decide (j < k))
theorem UpTo.tr {n k : Nat} {listed : Array Bool} (h : UpTo n k listed) {j : Nat} (hj : j < n) (d : Bool) : listed.getD j d = decide (j < k) := by
  rw [Array.getD_eq_getD_getElem?, h.2 j hj]; rfl
theorem UpTo.of_true {n k : Nat} {listed : Array Bool} (h : UpTo n k listed) {j : Nat} (hj : listed.getD j false = true) : j < k := by
  rcases Nat.lt_or_ge j n with h1 | h1
  · rw [h.tr h1] at hj; simpa using hj
  · rw [Array.getD_eq_getD_getElem?, Array.getElem?_eq_none (by rw [h.1]; exact h1)] at hj; cases hj
theorem UpTo.next {n k : Nat} {listed : Array Bool} (h : UpTo n k listed) : UpTo n (k + 1) (listed.setIfInBounds k true) := by
  refine ⟨by simp [h.1], fun j hj => ?_⟩
  rw [Array.getElem?_setIfInBounds]
  by_cases e : k = j
  · subst e
    rw [if_pos rfl, if_pos (by rw [h.1]; exact hj)]; simp
  · rw [if_neg e, h.2 j hj]
    congr 1
    exact decide_eq_decide.2 (by omega)
theorem lex_facts {ops : Array Oper} : ∀ (fuel k : Nat) (listed : Array Bool), UpTo ops.size k listed → k + fuel = ops.size → Region.lexFrom .any ops fuel k listed = true →
    ∀ (i : Nat) (oi : Oper), k ≤ i → ops[i]? = some oi → (∀ e ∈ oi.after, Region.binds .any e = true → e.on < i) ∧
      ∀ (j : Nat) (oj : Oper), i < j → ops[j]? = some oj → (∀ e ∈ oj.after, Region.binds .any e = true → e.on ≠ i) → oi.apart ops oj = true
  | 0, k, listed, hu, hk, _, i, oi, hi, ho => by
    have := (Array.getElem?_eq_some_iff.1 ho).1
    omega
  | fuel + 1, k, listed, hu, hk, hB, i, oi, hi, ho => by
    simp only [Region.lexFrom, Bool.and_eq_true] at hB
    obtain ⟨⟨hr, hf⟩, hB'⟩ := hB
    by_cases e : k = i
    · subst e
      have hr' : k ∈ Region.ready .any ops listed := by simpa using hr
      obtain ⟨h0, o, h1, h2⟩ := mem_ready.1 hr'
      obtain rfl : o = oi := Option.some.inj (h1.symm.trans ho)
      refine ⟨fun e he hb => hu.of_true (h2 e he hb), fun j oj hj hoj hno => ?_⟩
      refine Region.free_spec ho hf j oj hoj (by omega) ?_ hno
      rw [hu.tr (Array.getElem?_eq_some_iff.1 hoj).1]
      simpa using by omega
    · exact lex_facts fuel (k + 1) _ hu.next (by omega) hB' i oi (by omega) ho
theorem DrawOk.of {ops : Array Oper} (h : Region.lexB .any ops = true) : DrawOk ops := by
  simp only [Region.lexB, Bool.and_eq_true] at h
  have h0 : UpTo ops.size 0 (Array.replicate ops.size false) := ⟨by simp, fun j hj => by rw [Array.getElem?_replicate, if_pos hj]; simp⟩
  have := lex_facts ops.size 0 _ h0 (by omega) h.2
  exact ⟨h.1, fun j oj hj => (this j oj (Nat.zero_le _) hj).1, fun i j oi oj hij hi hj hno => (this i oi (Nat.zero_le _) hi).2 j oj hij hj hno⟩
theorem apart_symm {ops : Array Oper} {x y : Oper} (h : x.apart ops y = true) : y.apart ops x = true := by
  obtain ⟨h1, h2, h3⟩ := Oper.apart_spec h
  unfold Oper.apart
  cases hx : x.dst with
  | none =>
    cases hy : y.dst with
    | none => rfl
    | some d => simp [h3 d hy]
  | some c =>
    have := h1 c hx
    cases hy : y.dst with
    | none => simpa using this
    | some d =>
      have h4 := h3 d hy
      have h5 := h2 c hx
      rw [hy] at h5
      simp only [Bool.and_eq_true, Bool.not_eq_true', List.contains_eq_mem, decide_eq_false_iff_not, bne_iff_ne, ne_eq, Option.some.injEq]
      exact ⟨⟨h4, fun e => h5 (by rw [e])⟩, this⟩

/-- What has come up has had all that it waits for. -/
def Closed (ops : Array Oper) (listed : Array Bool) : Prop :=
  ∀ (j : Nat) (oj : Oper), ops[j]? = some oj → listed.getD j false = true → ∀ e ∈ oj.after, Region.binds .any e = true → listed.getD e.on false = true
theorem Closed.set {ops : Array Oper} {listed : Array Bool} (h : Closed ops listed) {i : Nat} (hr : i ∈ Region.ready .any ops listed) : Closed ops (listed.setIfInBounds i true) := fun j oj hj hl e he hb => by
  by_cases hij : i = j
  · subst hij
    obtain ⟨_, o, h1, h2⟩ := mem_ready.1 hr
    obtain rfl : o = oj := Option.some.inj (h1.symm.trans hj)
    exact getD_set_true (h2 e he hb)
  · rw [getD_set_ne false hij] at hl
    exact getD_set_true (h j oj hj hl e he hb)
theorem Closed.start (ops : Array Oper) (n : Nat) : Closed ops (Array.replicate n false) := fun j oj hj hl => by
  rw [Array.getD_eq_getD_getElem?, Array.getElem?_replicate] at hl
  split at hl <;> cases hl

section
variable {P : Program} {ops : Array Oper} {Q : Exit → Act → World → Prop} {fl : Nat → Bool}
/-- Whatever order is picked from here on; behind the operations of 'fl' every block stays. -/
def wpAnyE (P : Program) (ops : Array Oper) (Q : Exit → Act → World → Prop) (fl : Nat → Bool) : Nat → Array Bool → Act → World → Prop
  | 0, listed, a, w => Region.ready .any ops listed = [] ∧ Q .normal a w
  | fuel + 1, listed, a, w => (Region.ready .any ops listed = [] → Q .normal a w) ∧
    ∀ i ∈ Region.ready .any ops listed, wpOp P ops Q i (fun a' w' => (fl i = true → Ext w w') ∧ wpAnyE P ops Q fl fuel (listed.setIfInBounds i true) a' w') a w
theorem wpAny_of_E : ∀ (fuel : Nat) (listed : Array Bool) (a : Act) (w : World), wpAnyE P ops Q fl fuel listed a w → wpAny P .any ops Q fuel listed a w
  | 0, _, _, _, h => h
  | fuel + 1, _, _, _, h => ⟨h.1, fun i hi => wpOp_mono (fun a' w' h' => wpAny_of_E fuel _ a' w' h'.2) (h.2 i hi)⟩

theorem before_unlisted {listed : Array Bool} (D : DrawOk ops) (hc : Closed ops listed) {i : Nat} (hi : listed.getD i false = false) {bs : Nat → Bool}
    (hbs : ∀ j oj, bs j = false → j ≠ i → ops[j]? = some oj → ∃ e ∈ oj.after, Region.binds .any e = true ∧ bs e.on = false) :
    ∀ (j : Nat) (oj : Oper), ops[j]? = some oj → bs j = false → listed.getD j false = false := by
  intro j
  induction j using Nat.strongRecOn with
  | _ j ih =>
    intro oj hj hb
    by_cases e : j = i
    · rw [e]; exact hi
    · obtain ⟨ed, h1, h2, h3⟩ := hbs j oj hb e hj
      have h4 := D.back j oj hj ed h1 h2
      have hlt : ed.on < ops.size := Nat.lt_trans h4 (Array.getElem?_eq_some_iff.1 hj).1
      have h5 := ih ed.on h4 _ (Array.getElem?_eq_getElem hlt) h3
      cases h6 : listed.getD j false with
      | false => rfl
      | true =>
        have := hc j oj hj h6 ed h1 h2
        rw [h5] at this; cases this

theorem wpAnyE_first {i : Nat} {oi : Oper} {v : Value} (D : DrawOk ops) (hi : ops[i]? = some oi) (hQ : ∀ c a w, Q (.panic c) (a.put oi.dst v) w → Q (.panic c) a w) {bs : Nat → Bool}
    (hbs : ∀ j oj, bs j = false → j ≠ i → ops[j]? = some oj → ∃ e ∈ oj.after, Region.binds .any e = true ∧ bs e.on = false) :
    ∀ (fuel : Nat) (listed : Array Bool) (a : Act) (w : World), Closed ops listed →
      (∀ j, j < ops.size → j ≠ i → listed.getD j true = false → bs j = true → fl j = true) →
      i ∈ Region.ready .any ops listed → YieldsIf P ops (Ext w) oi v a →
      wpAnyE P ops Q fl fuel (listed.setIfInBounds i true) (a.put oi.dst v) w → wpAnyE P ops Q fl (fuel + 1) listed a w := by
  have hsel := Region.noSelect_spec D.sel
  intro fuel
  induction fuel with
  | zero =>
    intro listed a w _ _ hr hy H
    refine ⟨fun h => (by rw [h] at hr; cases hr), fun j hj => ?_⟩
    by_cases hji : j = i
    · subst hji; exact hy.wpOp hi (Ext.refl w) ⟨fun _ => Ext.refl w, H⟩
    · have := ready_mono hj hji
      rw [H.1] at this
      cases this
  | succ fuel ih =>
    intro listed a w hc hfl hr hy H
    refine ⟨fun h => (by rw [h] at hr; cases hr), fun j hj => ?_⟩
    by_cases hji : j = i
    · subst hji; exact hy.wpOp hi (Ext.refl w) ⟨fun _ => Ext.refl w, H⟩
    · have h1 := H.2 j (ready_mono hj hji)
      obtain ⟨hjun, oj, hoj, hall⟩ := mem_ready.1 hj
      obtain ⟨hiun, oi', hoi, halli⟩ := mem_ready.1 hr
      obtain rfl : oi' = oi := Option.some.inj (hoi.symm.trans hi)
      have hif : listed.getD i false = false := by
        rw [Array.getD_eq_getD_getElem?] at hiun ⊢
        cases h : listed[i]? with
        | none => rfl
        | some b => rw [h] at hiun; exact hiun
      have hjf : listed.getD j false = false := by
        rw [Array.getD_eq_getD_getElem?] at hjun ⊢
        cases h : listed[j]? with
        | none => rfl
        | some b => rw [h] at hjun; exact hjun
      have hnot : ∀ e ∈ oj.after, Region.binds .any e = true → e.on ≠ i := fun e he hb heq => by
        have := hall e he hb
        rw [heq, hif] at this; cases this
      have hnoti : ∀ e ∈ oi'.after, Region.binds .any e = true → e.on ≠ j := fun e he hb heq => by
        have := halli e he hb
        rw [heq, hjf] at this; cases this
      have hap : oi'.apart ops oj = true := by
        rcases Nat.lt_or_gt_of_ne hji with h | h
        · exact apart_symm (D.apt j i oj oi' h hoj hi hnoti)
        · exact D.apt i j oi' oj h hi hoj hnot
      have hbj : bs j = true := by
        cases hb : bs j with
        | true => rfl
        | false =>
          obtain ⟨e, he, hbd, hbe⟩ := hbs j oj hb hji hoj
          have hlt : e.on < ops.size := Nat.lt_trans (D.back j oj hoj e he hbd) (Array.getElem?_eq_some_iff.1 hoj).1
          have h2 := before_unlisted D hc hif hbs e.on _ (Array.getElem?_eq_getElem hlt) hbe
          have h3 := hall e he hbd
          rw [h2] at h3; cases h3
      have hflj := hfl j (Array.getElem?_eq_some_iff.1 hoj).1 hji hjun hbj
      have h2 := wpOp_putIf hoj hap (fun cs b => hsel i oi' cs b hi) (fun cs b => hsel j oj cs b hoj) hQ hy h1
      refine wpOp_mono (fun a' w' h3 => ⟨h3.2.1, ih (listed.setIfInBounds j true) a' w' (hc.set hj) (fun k hk hki hun hb => ?_) (ready_mono hr (Ne.symm hji)) ?_ ?_⟩) h2
      · refine hfl k hk hki ?_ hb
        by_cases hjk : j = k
        · subst hjk; exact hjun
        · rw [getD_set_ne true hjk] at hun; exact hun
      · have he := h3.2.1 hflj
        exact h3.1.imp (fun ⟨x, y⟩ => ⟨x, fun u hu => y u (he.trans hu)⟩) id
      · rw [Array.setIfInBounds_comm _ _ hji]
        exact h3.2.2
end
end Go.Proofs.Ytoickofcmngdjaa.Aw

/- A logic of abstract states for walks: rules for regions whose operations come in any order. -/
set_option linter.unusedVariables false
set_option linter.unusedSimpArgs false
namespace Go.Proofs.Ytoickofcmngdjaa.Aw
open Go.RowKit

def readyL (af : List (List Nat)) (listed : Array Bool) : List Nat :=
  (List.range af.length).filter fun i => !listed.getD i true && (af.getD i []).all fun k => listed.getD k false
theorem mem_readyL {ops : Array Oper} {listed : Array Bool} {i : Nat} : i ∈ readyL (ops.toList.map waits) listed ↔ i ∈ Region.ready .any ops listed := by
  unfold readyL
  rw [List.mem_filter, List.mem_range, mem_ready, List.length_map, Array.length_toList]
  cases ho : ops[i]? with
  | none =>
    have : ops.size ≤ i := by simpa using ho
    simp; omega
  | some o =>
    have hlt : i < ops.size := (Array.getElem?_eq_some_iff.1 ho).1
    have e : (ops.toList.map waits).getD i [] = waits o := by
      rw [List.getD_eq_getElem?_getD, List.getElem?_map, Array.getElem?_toList, ho]; rfl
    rw [e]
    simp only [hlt, true_and, Bool.and_eq_true, Bool.not_eq_true', List.all_eq_true, Option.some.injEq, exists_eq_left']
    constructor
    · rintro ⟨h0, h⟩
      refine ⟨h0, fun ed he hb => h ed.on ?_⟩
      unfold waits
      exact List.mem_filterMap.2 ⟨ed, by simpa using he, by rw [if_pos hb]⟩
    · rintro ⟨h0, h⟩
      refine ⟨h0, fun k hk => ?_⟩
      unfold waits at hk
      obtain ⟨ed, he, h1⟩ := List.mem_filterMap.1 hk
      split at h1
      · rename_i hb
        simp only [Option.some.injEq] at h1
        subst h1
        exact h ed (by simpa using he) hb
      · cases h1

/-- The operations that do not wait for number i, by way of others or not: a list that says so can be checked. -/
def bsOk (af : List (List Nat)) (i : Nat) (bs : List Bool) : Bool :=
  (List.range af.length).all fun j => bs.getD j true || j == i || (af.getD j []).any fun k => !bs.getD k true
/-- Those that may come before number i leave every block. -/
def flOk (n i : Nat) (bs fl : List Bool) (listed : Array Bool) : Bool :=
  (List.range n).all fun j => j == i || listed.getD j true || !bs.getD j true || fl.getD j false

/-- One operation of a region, by itself. -/
def AOne (P : Program) (E : Env) (m : Bool) (g : GOp) (s : St) (K : St → Prop) : Prop :=
  ∀ (ops : Array Oper) (o : Oper), gop P ops o = some g → ∀ a w, Rel E s a w → ∀ Q : Exit → Act → World → Prop,
    if Region.wanted o (yielded ops a.tmps) then o.wp P a w (fun a' w' => (m = true → Ext w w') ∧ ∃ s', K s' ∧ Rel E s' a' w') Q ∨ (o.asks P a w ∧ LetsOut Q)
    else (fun a' w' => (m = true → Ext w w') ∧ ∃ s', K s' ∧ Rel E s' a' w') (a.put o.dst undef) w
def AAny (P : Program) (E : Env) (Q : Exit → St → Prop) (af : List (List Nat)) (gs : List GOp) (fl : List Bool) (fuel : Nat) (listed : Array Bool) (s : St) : Prop :=
  ∀ ops : Array Oper, DrawOk ops → gops P ops ops.toList = some gs → ops.toList.map waits = af → Closed ops listed → ∀ a w, Rel E s a w →
    wpAnyE P ops (fun e a w => e = .normal ∧ conc E Q .normal a w) (fun i => fl.getD i false) fuel listed a w

theorem gops_get {P : Program} {ops : Array Oper} : ∀ {l : List Oper} {gs : List GOp}, gops P ops l = some gs → l.length = gs.length ∧ ∀ (i : Nat) (o : Oper), l[i]? = some o → ∃ g, gs[i]? = some g ∧ gop P ops o = some g
  | [], gs, h => by
    simp only [gops, Option.some.injEq] at h
    subst h
    exact ⟨rfl, fun i o h => by simp at h⟩
  | o :: l, gs, h => by
    unfold gops at h
    split at h
    · rename_i g r h1 h2
      simp only [Option.some.injEq] at h
      subst h
      obtain ⟨h3, h4⟩ := gops_get h2
      refine ⟨by simp [h3], fun i o' ho => ?_⟩
      cases i with
      | zero => simp only [List.getElem?_cons_zero, Option.some.injEq] at ho; subst ho; exact ⟨g, rfl, h1⟩
      | succ i => exact h4 i o' (by simpa using ho)
    · cases h

section
variable {P : Program} {E : Env} {Q : Exit → St → Prop} {s s' : St} {n : Nat} {af : List (List Nat)} {gs : List GOp} {fl : List Bool} {fuel : Nat} {listed : Array Bool}
theorem AAny.done (hr : readyL af listed = []) (h : Q .normal s) : AAny P E Q af gs fl fuel listed s := fun ops D hg ha hc a w hrel => by
  subst ha
  have hr' : Region.ready .any ops listed = [] := by
    rw [List.eq_nil_iff_forall_not_mem] at hr ⊢
    exact fun i hi => hr i (mem_readyL.2 hi)
  cases fuel with
  | zero => exact ⟨hr', rfl, s, h, hrel⟩
  | succ f => exact ⟨fun _ => ⟨rfl, s, h, hrel⟩, by rw [hr']; intro i hi; cases hi⟩
theorem AAny.take (i : Nat) (bs : List Bool) {g : GOp} (hgi : gs[i]? = some g) (hr : (readyL af listed).contains i = true) (hb : bsOk af i bs = true) (hf : flOk af.length i bs fl listed = true)
    (hst : g.op.still = true) {ob : Prop} (hs : stepOp E.n s g = some (s', ob)) (hob : ob) (h : AAny P E Q af gs fl fuel (listed.setIfInBounds i true) s') : AAny P E Q af gs fl (fuel + 1) listed s := fun ops D hg ha hc a w hrel => by
  subst ha
  have hri : i ∈ Region.ready .any ops listed := mem_readyL.1 (by simpa using hr)
  obtain ⟨_, oi, hoi, _⟩ := mem_ready.1 hri
  obtain ⟨h1, h2⟩ := gops_get hg
  obtain ⟨g', h3, h4⟩ := h2 i oi (by simpa using hoi)
  obtain rfl : g' = g := Option.some.inj (h3.symm.trans hgi)
  obtain ⟨ρ, ok, hr'⟩ := hrel
  have hbs : ∀ j oj, (fun j => bs.getD j true) j = false → j ≠ i → ops[j]? = some oj → ∃ e ∈ oj.after, Region.binds .any e = true ∧ (fun j => bs.getD j true) e.on = false := fun j oj hbj hji hoj => by
    have hlt := (Array.getElem?_eq_some_iff.1 hoj).1
    have h5 := List.all_eq_true.1 hb j (List.mem_range.2 (by simpa using hlt))
    have e : (ops.toList.map waits).getD j [] = waits oj := by
      rw [List.getD_eq_getElem?_getD, List.getElem?_map, Array.getElem?_toList, hoj]; rfl
    rw [e] at h5
    simp only [hbj, Bool.false_or, Bool.or_eq_true, beq_iff_eq, hji, false_or] at h5
    obtain ⟨k, hk, h6⟩ := List.any_eq_true.1 h5
    unfold waits at hk
    obtain ⟨ed, he, h7⟩ := List.mem_filterMap.1 hk
    split at h7
    · rename_i hbd
      simp only [Option.some.injEq] at h7
      subst h7
      exact ⟨ed, by simpa using he, hbd, by simpa using h6⟩
    · cases h7
  have hfl : ∀ j, j < ops.size → j ≠ i → listed.getD j true = false → (fun j => bs.getD j true) j = true → fl.getD j false = true := fun j hj hji hun hbj => by
    have h5 := List.all_eq_true.1 hf j (List.mem_range.2 (by simpa using hj))
    simp only [Bool.or_eq_true, beq_iff_eq, hji, false_or, hun, Bool.false_eq_true, Bool.not_eq_true'] at h5
    rcases h5 with h5 | h5
    · have hbj' : bs.getD j true = true := hbj
      rw [h5] at hbj'; cases hbj'
    · exact h5
  rcases stepOp_sound h4 hs hob hr' with ⟨hw, v, w1, ρ', ok', h5, h6, _, h7⟩ | ⟨hw, ρ', ok', h6⟩
  · obtain ⟨rfl, h8⟩ := h7 hst
    exact wpAnyE_first D hoi (fun c a w hx => (by cases hx.1)) hbs fuel listed a _ hc hfl hri (.inl ⟨hw, fun w'' he => h8 w'' he⟩)
      (h ops D hg rfl (hc.set hri) _ _ ⟨ρ', ok', h6⟩)
  · exact wpAnyE_first D hoi (fun c a w hx => (by cases hx.1)) hbs fuel listed a _ hc hfl hri (.inr ⟨hw, rfl⟩)
      (h ops D hg rfl (hc.set hri) _ _ ⟨ρ', ok', h6⟩)
theorem AAny.all {rs : List Nat} (hr : readyL af listed = rs) (hne : rs ≠ []) (h : ∀ i ∈ rs, ∃ g, gs[i]? = some g ∧ AOne P E (fl.getD i false) g s (AAny P E Q af gs fl fuel (listed.setIfInBounds i true))) :
    AAny P E Q af gs fl (fuel + 1) listed s := fun ops D hg ha hc a w hrel => by
  subst ha
  subst hr
  refine ⟨fun h0 => ?_, fun i hi => ?_⟩
  · refine absurd ?_ hne
    rw [List.eq_nil_iff_forall_not_mem]
    intro i hi
    have := mem_readyL.1 hi
    rw [h0] at this; cases this
  · obtain ⟨_, oi, hoi, _⟩ := mem_ready.1 hi
    obtain ⟨g, h1, h2⟩ := h i (mem_readyL.2 hi)
    obtain ⟨_, h3⟩ := gops_get hg
    obtain ⟨g', h4, h5⟩ := h3 i oi (by simpa using hoi)
    obtain rfl : g' = g := Option.some.inj (h4.symm.trans h1)
    have := h2 ops oi h5 a w hrel (fun e a w => e = .normal ∧ conc E Q .normal a w)
    refine wpOp_mono (K := fun a' w' => (fl.getD i false = true → Ext w w') ∧ ∃ s', AAny P E Q (ops.toList.map waits) gs fl fuel (listed.setIfInBounds i true) s' ∧ Rel E s' a' w') (fun a' w' ⟨h6, s', h7, h8⟩ => ⟨h6, h7 ops D hg rfl (hc.set hi) a' w' h8⟩) ?_
    unfold wpOp
    simp only [hoi]
    exact this
theorem AWp.drawAny (hm : P.follows .mixedOrders = true) (fl : List Bool) (h : AAny P E Q af gs fl gs.length (Array.replicate gs.length false) s) : AWp P E Q (.region true af gs) s := fun code hc a w hrel => by
  cases hc with
  | @draw id ops _ hg hB =>
    obtain ⟨h1, _⟩ := gops_get hg
    have hsz : ops.size = gs.length := by simpa using h1
    obtain ⟨ρ, ok, hr⟩ := hrel
    have key : wpAnyE P ops (fun e a w => e = .normal ∧ conc E Q .normal a w) (fun i => fl.getD i false) ops.size (Array.replicate ops.size false) a { w with drawn := w.drawn + 1 } := by
      rw [hsz]
      exact h ops (DrawOk.of hB) hg rfl (Closed.start ops _) a _ ⟨ρ, ok, hr.ext (Ext.drawn w _)⟩
    refine wp_mono (wp_region_any hm (wpAny_of_E _ _ _ _ key)) fun e a w hx => ?_
    obtain ⟨rfl, hx⟩ := hx
    exact hx

/-! ### One operation -/
theorem AOne.step {m : Bool} {g : GOp} {K : St → Prop} (hml : m = true → g.op.mild = true) {ob : Prop} (hs : stepOp E.n s g = some (s', ob)) (hob : ob) (h : K s') : AOne P E m g s K := fun ops o hg a w hrel Q => by
  obtain ⟨ρ, ok, hr⟩ := hrel
  rcases stepOp_sound hg hs hob hr with ⟨hw, v, w', ρ', ok', h3, h4, h5, _⟩ | ⟨hw, ρ', ok', h4⟩
  · rw [if_pos hw]
    left
    unfold Oper.wp
    rcases h3 with h3 | ⟨h3, rfl⟩
    · rw [h3, Oper.upon_value]; exact ⟨fun hm => h5 (hml hm), s', h, ρ', ok', h4⟩
    · rw [h3, Oper.upon_skip]; exact ⟨fun hm => h5 (hml hm), s', h, ρ', ok', h4⟩
  · rw [if_neg (by rw [hw]; simp)]
    exact ⟨fun _ => Ext.refl w, s', h, ρ', ok', h4⟩
/-- Whatever rule there is for the operation, nothing being said of the blocks. -/
theorem AOne.rule {g : GOp} {K : St → Prop} (h : AWpL P E (fun e s' => e = .normal ∧ K s') [g] s) : AOne P E false g s K := fun ops o hg a w hrel Q => by
  have h1 := h ops [o] (by simp [gops, hg]) a w hrel
  unfold wpList at h1
  split
  · rename_i hw
    rw [if_pos hw] at h1
    rcases h1 with h1 | ⟨_, a', w', s', h2, _⟩
    · left
      have h2 : o.wp P a w (fun a' w' => (false = true → Ext w w') ∧ ∃ s', K s' ∧ Rel E s' a' w') (conc E fun e s' => e = .normal ∧ K s') := by
        refine Oper.wp_mono (K := wpList P ops (conc E fun e s' => e = .normal ∧ K s') []) (fun a' w' hx => ?_) h1
        obtain ⟨s', h3, h4⟩ := hx
        exact ⟨fun hh => (by cases hh), s', h3.2, h4⟩
      unfold Oper.wp at h2 ⊢
      generalize (execOp a.eval o).run P w = r at *
      cases r with
      | ok nx w' =>
        cases nx <;> simp only [Oper.upon] at h2 ⊢ <;> first | exact h2 | skip
        case enter f args =>
          refine Calls.mono h2 fun e w'' he => ?_
          cases e with
          | returned u => exact he
          | panicked c => obtain ⟨s', h3, _⟩ := he; cases h3.1
          | outgrown => obtain ⟨_, _, s', h3, _⟩ := he; cases h3.1
      | halt x w' =>
        cases x <;> simp only [Oper.upon] at h2 ⊢ <;> first | exact h2 | (obtain ⟨s', h3, _⟩ := h2; cases h3.1)
    · cases h2.1
  · rename_i hw
    rw [if_neg hw] at h1
    obtain ⟨s', h3, h4⟩ := h1
    exact ⟨fun hh => (by cases hh), s', h3.2, h4⟩
end
end Go.Proofs.Ytoickofcmngdjaa.Aw

/- A logic of abstract states for walks: drawn regions by a plan. -/
set_option linter.unusedVariables false
set_option linter.unusedSimpArgs false
namespace Go.Proofs.Ytoickofcmngdjaa.Aw
open Go.RowKit

section
variable {P : Program} {E : Env} {Q : Exit → St → Prop} {s s' : St} {n : Nat} {af : List (List Nat)} {gs : List GOp} {fl : List Bool} {fuel : Nat} {listed : Array Bool}
/-- A call that only reads, in a drawn region. -/
theorem AOne.callb {m : Bool} {f : FuncId} {xs : List Opd} {dst : Option Nat} {K : St → Prop} {Post : List Reg → AV → Prop} (hs : Spec P f [] (xs.map fun x => borA 4 s (s.ev x)) Post)
    (hd : dstOk E.n dst = true) (hb : allOb (borOb 4 s) (xs.map s.ev)) (h : ∀ rg x, Post rg x → (NI x ∧ ∀ g ∈ rg, NIR g) ∧ K (retS s [] dst rg x)) : AOne P E m ⟨dst, none, .call f xs⟩ s K := fun ops o hg a w hrel Q => by
  obtain ⟨ρ, ok, hr⟩ := hrel
  obtain ⟨hc, hdst, hgd⟩ := gop_guard hg
  rcases hgd with ⟨hg0, _⟩ | ⟨_, _, _, _, _, hgd⟩
  case inr => cases hgd
  rw [if_pos (wanted_none hg0 _)]
  left
  obtain ⟨_, vals, hv, hrun⟩ := call_inv (a := a) (w := w) hc
  unfold Oper.wp
  rw [hrun]
  refine upon_enter hdst.symm ?_
  have ha : RcList w (fun b => b < w.heap.size) (xs.map fun x => borA 4 s (s.ev x)) vals.toList := by rw [hv]; exact args_bor hr xs fun x hx => allOb_mem hb _ (List.mem_map.2 ⟨x, hx, rfl⟩)
  refine (hs w (fun _ => none) (fun b => b < w.heap.size) vals (Mem.none fun _ h => h) (RList_of_Rc _ _ ha)).mono ?_
  rintro e w' ⟨rg, x, v, ρ', ok', rfl, hp, hm, hx, h1, h2, h3, h4⟩
  obtain ⟨⟨h5, h5'⟩, h6⟩ := h rg x hp
  have hext : Ext w w' := ⟨h3.os, h3.tape, h3.output, h3.size, fun k hk => h3.block k hk fun ⟨r0, p0, h7, _⟩ => by cases h7⟩
  refine ⟨v, rfl, fun _ => hext, _, h6, _, _, ret_core hr (π := []) rfl (fun r hr => by cases hr) hd (hm.ni h5') (R_ni x v h5 hx) (fun b hb => hb.elim) (Nat.zero_le _) (fun r p hp => ?_) ⟨h3.os, h3.tape, h3.output, h3.size, fun k hk _ => h3.block k hk fun ⟨r0, p0, h7, _⟩ => by cases h7⟩ fun r hb hlt' => by simp at hlt'⟩
  rcases h2 r p hp with h7 | ⟨r0, p0, h7, _⟩
  · exact .inl h7
  · cases h7
theorem AOne.calle {m : Bool} {f : FuncId} {xs : List Opd} {dst : Option Nat} {K : St → Prop} {y : AV} (hs : Spec P f [] (xs.map fun x => borA 4 s (s.ev x)) (Gives (· = y)))
    (hy : plainA y = true) (hd : dstOk E.n dst = true) (hb : allOb (borOb 4 s) (xs.map s.ev)) (h : K (s.putO dst y)) : AOne P E m ⟨dst, none, .call f xs⟩ s K :=
  AOne.callb hs hd hb fun rg x ⟨hr, hx⟩ => by
    subst hr; subst hx
    exact ⟨⟨plain_ni _ hy, fun _ h => by cases h⟩, by rw [retS_nil, plain_map _ _ hy]; exact h⟩

inductive Plan where
  | done
  | take (i : Nat) (bs : List Bool) (p : Plan)
  | all (l : List (Nat × Plan))
  | one (i : Nat) (p : Plan)
  | two (i : Nat) (p : Plan) (j : Nat) (q : Plan)
  | three (i : Nat) (p : Plan) (j : Nat) (q : Plan) (k : Nat) (r : Plan)
  | four (i : Nat) (p : Plan) (j : Nat) (q : Plan) (k : Nat) (r : Plan) (l : Nat) (t : Plan)
  deriving Inhabited

/-- The plan's shape is right. -/
def planOk (af : List (List Nat)) (fl : List Bool) : Plan → Nat → Array Bool → Bool
  | .done, _, listed => (readyL af listed).isEmpty
  | .take i bs p, fuel + 1, listed => (readyL af listed).contains i && bsOk af i bs && flOk af.length i bs fl listed && planOk af fl p fuel (listed.setIfInBounds i true)
  | .one i p, fuel + 1, listed => readyL af listed == [i] && planOk af fl p fuel (listed.setIfInBounds i true)
  | .two i p j q, fuel + 1, listed => readyL af listed == [i, j] && planOk af fl p fuel (listed.setIfInBounds i true) && planOk af fl q fuel (listed.setIfInBounds j true)
  | .three i p j q k r, fuel + 1, listed => readyL af listed == [i, j, k] && planOk af fl p fuel (listed.setIfInBounds i true) && planOk af fl q fuel (listed.setIfInBounds j true) && planOk af fl r fuel (listed.setIfInBounds k true)
  | .four i p j q k r l t, fuel + 1, listed => readyL af listed == [i, j, k, l] && planOk af fl p fuel (listed.setIfInBounds i true) && planOk af fl q fuel (listed.setIfInBounds j true) && planOk af fl r fuel (listed.setIfInBounds k true) && planOk af fl t fuel (listed.setIfInBounds l true)
  | _, _, _ => false
/-- One operation, computed; an operation with a rule of its own is left. -/
def wpS (P : Program) (E : Env) (m : Bool) (s : St) (K : St → Prop) : Option GOp → Prop
  | some ⟨d, none, op⟩ => bif stops op then AOne P E m ⟨d, none, op⟩ s K else (m = true → op.mild = true) ∧ match aop s.ev s op with
    | some (z, s', ob) => ob ∧ K (s'.putO d z)
    | none => False
  | some ⟨d, some (t, want), op⟩ => bif stops op then AOne P E m ⟨d, some (t, want), op⟩ s K else (m = true → op.mild = true) ∧ match gdB (look s.tm t) want with
    | some b => match op.still, aop (fun x => (s.ev x).strip) s op with
      | true, some (z, _, ob) => (b = true → opOb s.ev op ∧ ob) ∧ K (s.putO d (.opt b z))
      | _, _ => False
    | none => False
  | none => False
def wpT (P : Program) (E : Env) (s : St) (K : St → Prop) : Option GOp → Prop
  | some ⟨d, none, op⟩ => stops op = false ∧ op.still = true ∧ match aop s.ev s op with
    | some (z, s', ob) => ob ∧ K (s'.putO d z)
    | none => False
  | some ⟨d, some (t, want), op⟩ => stops op = false ∧ match gdB (look s.tm t) want with
    | some b => match op.still, aop (fun x => (s.ev x).strip) s op with
      | true, some (z, _, ob) => (b = true → opOb s.ev op ∧ ob) ∧ K (s.putO d (.opt b z))
      | _, _ => False
    | none => False
  | none => False
def wpP (P : Program) (E : Env) (Q : Exit → St → Prop) (gs : List GOp) (fl : List Bool) : Plan → St → Prop
  | .done, s => Q .normal s
  | .take i _ p, s => wpT P E s (wpP P E Q gs fl p) gs[i]?
  | .one i p, s => wpS P E (fl.getD i false) s (wpP P E Q gs fl p) gs[i]?
  | .two i p j q, s => wpS P E (fl.getD i false) s (wpP P E Q gs fl p) gs[i]? ∧ wpS P E (fl.getD j false) s (wpP P E Q gs fl q) gs[j]?
  | .three i p j q k r, s => wpS P E (fl.getD i false) s (wpP P E Q gs fl p) gs[i]? ∧ wpS P E (fl.getD j false) s (wpP P E Q gs fl q) gs[j]? ∧ wpS P E (fl.getD k false) s (wpP P E Q gs fl r) gs[k]?
  | .four i p j q k r l t, s => wpS P E (fl.getD i false) s (wpP P E Q gs fl p) gs[i]? ∧ wpS P E (fl.getD j false) s (wpP P E Q gs fl q) gs[j]? ∧ wpS P E (fl.getD k false) s (wpP P E Q gs fl r) gs[k]? ∧ wpS P E (fl.getD l false) s (wpP P E Q gs fl t) gs[l]?
  | .all _, _ => False
theorem dsts_get : ∀ {gs : List GOp} {i : Nat} {g : GOp}, dstsOk n gs = true → gs[i]? = some g → dstOk n g.dst = true
  | [], i, g, _, h => by simp at h
  | x :: gs, 0, g, hd, h => by
    simp only [dstsOk, Bool.and_eq_true] at hd
    simp only [List.getElem?_cons_zero, Option.some.injEq] at h
    subst h; exact hd.1
  | x :: gs, i + 1, g, hd, h => by
    simp only [dstsOk, Bool.and_eq_true] at hd
    exact dsts_get hd.2 (by simpa using h)
theorem AOne.mono {m : Bool} {g : GOp} {K K' : St → Prop} (hk : ∀ s, K s → K' s) (h : AOne P E m g s K) : AOne P E m g s K' := fun ops o hg a w hrel Q => by
  have := h ops o hg a w hrel Q
  split at this
  · rename_i hw
    rw [if_pos hw]
    exact this.imp (Oper.wp_mono fun a' w' ⟨h1, s', h2, h3⟩ => ⟨h1, s', hk s' h2, h3⟩) id
  · rename_i hw
    rw [if_neg hw]
    obtain ⟨h1, s', h2, h3⟩ := this
    exact ⟨h1, s', hk s' h2, h3⟩
theorem wpS_one (hn : E.n = n) {m : Bool} {K : St → Prop} {o : Option GOp} (hd : ∀ g, o = some g → dstOk n g.dst = true) (h : wpS P E m s K o) : ∃ g, o = some g ∧ AOne P E m g s K := by
  rcases o with _ | ⟨d, _ | ⟨t, want⟩, op⟩
  · exact h.elim
  · have hd' := hd _ rfl
    refine ⟨_, rfl, ?_⟩
    unfold wpS at h; dsimp only at h
    cases hs : stops op with
    | true => rw [hs] at h; exact h
    | false =>
      rw [hs] at h
      simp only [cond_false] at h
      obtain ⟨hm, h⟩ := h
      split at h
      · rename_i z s1 ob ha
        exact AOne.step (s' := s1.putO d z) hm (by simp only [stepOp, hn, hd', cond_true, ha]) h.1 h.2
      · exact h.elim
  · have hd' := hd _ rfl
    refine ⟨_, rfl, ?_⟩
    unfold wpS at h; dsimp only at h
    cases hs : stops op with
    | true => rw [hs] at h; exact h
    | false =>
      rw [hs] at h
      simp only [cond_false] at h
      obtain ⟨hm, h⟩ := h
      split at h
      · rename_i b hb
        split at h
        · rename_i z s1 ob hst ha
          exact AOne.step (s' := s.putO d (.opt b z)) hm (by simp only [stepOp, hn, hd', cond_true, hb, hst, ha]) h.1 h.2
        · exact h.elim
      · exact h.elim
theorem AAny.plan (hn : E.n = n) (hds : dstsOk n gs = true) : ∀ {p : Plan} {fuel : Nat} {listed : Array Bool} {s : St}, planOk af fl p fuel listed = true → wpP P E Q gs fl p s → AAny P E Q af gs fl fuel listed s
  | .done, fuel, listed, s, hp, h => AAny.done (by cases fuel <;> simpa [planOk] using hp) h
  | .take i bs p, 0, listed, s, hp, h => by simp [planOk] at hp
  | .take i bs p, fuel + 1, listed, s, hp, h => by
    simp only [planOk, Bool.and_eq_true] at hp
    obtain ⟨⟨⟨h1, h2⟩, h3⟩, h4⟩ := hp
    unfold wpP at h
    cases hg : gs[i]? with
    | none => rw [hg] at h; exact h.elim
    | some g =>
      have hd := dsts_get hds hg
      rw [hg] at h
      obtain ⟨d, _ | ⟨t, want⟩, op⟩ := g
      · unfold wpT at h; dsimp only at h
        obtain ⟨_, hst, h⟩ := h
        split at h
        · rename_i z s1 ob ha
          exact AAny.take i bs hg h1 h2 h3 hst (s' := s1.putO d z) (by simp only [stepOp, hn, hd, cond_true, ha]) h.1 (AAny.plan hn hds h4 h.2)
        · exact h.elim
      · unfold wpT at h; dsimp only at h
        obtain ⟨_, h⟩ := h
        split at h
        · rename_i b hb
          split at h
          · rename_i z s1 ob hst ha
            exact AAny.take i bs hg h1 h2 h3 hst (s' := s.putO d (.opt b z)) (by simp only [stepOp, hn, hd, cond_true, hb, hst, ha]) h.1 (AAny.plan hn hds h4 h.2)
          · exact h.elim
        · exact h.elim
  | .one i p, 0, listed, s, hp, h => by simp [planOk] at hp
  | .one i p, fuel + 1, listed, s, hp, h => by
    simp only [planOk, Bool.and_eq_true, beq_iff_eq] at hp
    unfold wpP at h
    refine AAny.all hp.1 (by simp) fun k hk => ?_
    obtain rfl := List.mem_singleton.1 hk
    obtain ⟨g, h1, h2⟩ := wpS_one hn (fun g hg => dsts_get hds hg) h
    exact ⟨g, h1, h2.mono fun s' h3 => AAny.plan hn hds hp.2 h3⟩
  | .two i p j q, 0, listed, s, hp, h => by simp [planOk] at hp
  | .two i p j q, fuel + 1, listed, s, hp, h => by
    simp only [planOk, Bool.and_eq_true, beq_iff_eq] at hp
    unfold wpP at h
    refine AAny.all hp.1.1 (by simp) fun k hk => ?_
    simp only [List.mem_cons, List.not_mem_nil, or_false] at hk
    rcases hk with rfl | rfl
    · obtain ⟨g, h1, h2⟩ := wpS_one hn (fun g hg => dsts_get hds hg) h.1
      exact ⟨g, h1, h2.mono fun s' h3 => AAny.plan hn hds hp.1.2 h3⟩
    · obtain ⟨g, h1, h2⟩ := wpS_one hn (fun g hg => dsts_get hds hg) h.2
      exact ⟨g, h1, h2.mono fun s' h3 => AAny.plan hn hds hp.2 h3⟩
  | .three i p j q k r, 0, listed, s, hp, h => by simp [planOk] at hp
  | .three i p j q k r, fuel + 1, listed, s, hp, h => by
    simp only [planOk, Bool.and_eq_true, beq_iff_eq] at hp
    unfold wpP at h
    refine AAny.all hp.1.1.1 (by simp) fun m hm => ?_
    simp only [List.mem_cons, List.not_mem_nil, or_false] at hm
    rcases hm with rfl | rfl | rfl
    · obtain ⟨g, h1, h2⟩ := wpS_one hn (fun g hg => dsts_get hds hg) h.1
      exact ⟨g, h1, h2.mono fun s' h3 => AAny.plan hn hds hp.1.1.2 h3⟩
    · obtain ⟨g, h1, h2⟩ := wpS_one hn (fun g hg => dsts_get hds hg) h.2.1
      exact ⟨g, h1, h2.mono fun s' h3 => AAny.plan hn hds hp.1.2 h3⟩
    · obtain ⟨g, h1, h2⟩ := wpS_one hn (fun g hg => dsts_get hds hg) h.2.2
      exact ⟨g, h1, h2.mono fun s' h3 => AAny.plan hn hds hp.2 h3⟩
  | .four i p j q k r l t, 0, listed, s, hp, h => by simp [planOk] at hp
  | .four i p j q k r l t, fuel + 1, listed, s, hp, h => by
    simp only [planOk, Bool.and_eq_true, beq_iff_eq] at hp
    unfold wpP at h
    refine AAny.all hp.1.1.1.1 (by simp) fun m hm => ?_
    simp only [List.mem_cons, List.not_mem_nil, or_false] at hm
    rcases hm with rfl | rfl | rfl | rfl
    · obtain ⟨g, h1, h2⟩ := wpS_one hn (fun g hg => dsts_get hds hg) h.1
      exact ⟨g, h1, h2.mono fun s' h3 => AAny.plan hn hds hp.1.1.1.2 h3⟩
    · obtain ⟨g, h1, h2⟩ := wpS_one hn (fun g hg => dsts_get hds hg) h.2.1
      exact ⟨g, h1, h2.mono fun s' h3 => AAny.plan hn hds hp.1.1.2 h3⟩
    · obtain ⟨g, h1, h2⟩ := wpS_one hn (fun g hg => dsts_get hds hg) h.2.2.1
      exact ⟨g, h1, h2.mono fun s' h3 => AAny.plan hn hds hp.1.2 h3⟩
    · obtain ⟨g, h1, h2⟩ := wpS_one hn (fun g hg => dsts_get hds hg) h.2.2.2
      exact ⟨g, h1, h2.mono fun s' h3 => AAny.plan hn hds hp.2 h3⟩
  | .all _, fuel, listed, s, hp, h => by cases h
/-- A drawn region, by a plan. -/
theorem AWp.plan (p : Plan) (fl : List Bool) (hm : P.follows .mixedOrders = true) (hn : E.n = n) (hds : dstsOk n gs = true) (hp : planOk af fl p gs.length (Array.replicate gs.length false) = true) (h : wpP P E Q gs fl p s) :
    AWp P E Q (.region true af gs) s := AWp.drawAny hm fl (AAny.plan hn hds hp h)
end
end Go.Proofs.Ytoickofcmngdjaa.Aw

/- A logic of abstract states for walks: guarded operations whose guard is known. -/
set_option linter.unusedVariables false
set_option linter.unusedSimpArgs false
namespace Go.Proofs.Ytoickofcmngdjaa.Aw
open Go.RowKit

section
variable {P : Program} {E : Env} {Q : Exit → St → Prop} {s s' : St} {n : Nat} {a : Act} {w : World} {ρ : Nat → Option (Option Place)} {ok : Nat → Prop}
theorem wanted_gd {ops : Array Oper} {o : Oper} {j t : Nat} {want b : Bool} (hr : RelM E s a w ρ ok) (hg0 : o.guard = some (j, want)) (hg1 : (ops[j]?).bind (·.dst) = some t) (hb : gdB (look s.tm t) want = some b) :
    Region.wanted o (yielded ops a.tmps) = b := by
  rw [wanted_some hg0]
  have hv := hr.tm t
  unfold gdB at hb
  split at hb
  · rename_i b' want' hl
    simp only [Option.some.injEq] at hb
    rw [hl] at hv
    rw [yield_of hg1 (R_val hv), ← hb]; simp
  · rename_i want' c b' hl
    simp only [Option.some.injEq] at hb
    rw [hl] at hv
    unfold R at hv
    cases c with
    | true => rw [yield_of hg1 (R_val (hv.1 rfl)), ← hb]; simp
    | false => rw [yield_undef hg1 (hv.2 rfl), ← hb]; rfl
  · cases hb
/-- An operation without its guard. -/
def bare (o : Oper) : Oper := { o with guard := none }
theorem comp_bare (o : Oper) : comp P (bare o) = comp P o := rfl
theorem gop_bare {ops : Array Oper} {o : Oper} {d : Option Nat} {g : Option (Nat × Bool)} {op : AOp} (h : gop P ops o = some ⟨d, g, op⟩) : gop P ops (bare o) = some ⟨d, none, op⟩ := by
  obtain ⟨h1, h2, _⟩ := gop_guard h
  unfold gop
  rw [comp_bare, h1]
  simp only [bare] at *
  rw [← h2]
theorem guard_inv {ops : Array Oper} {o : Oper} {d : Option Nat} {t : Nat} {want : Bool} {op : AOp} (h : gop P ops o = some ⟨d, some (t, want), op⟩) : ∃ j, o.guard = some (j, want) ∧ (ops[j]?).bind (·.dst) = some t := by
  obtain ⟨_, _, h3⟩ := gop_guard h
  rcases h3 with ⟨_, h3⟩ | ⟨j, want', t', h3, h4, h5⟩
  · cases h3
  · simp only [Option.some.injEq, Prod.mk.injEq] at h5
    obtain ⟨rfl, rfl⟩ := h5
    exact ⟨j, h3, h4⟩
theorem wp_bare (o : Oper) (a : Act) (w : World) (K : Act → World → Prop) (Q' : Exit → Act → World → Prop) : (bare o).wp P a w K Q' = o.wp P a w K Q' := rfl
theorem asks_bare (o : Oper) (a : Act) (w : World) : (bare o).asks P a w = o.asks P a w := rfl
/-- The guard holds. -/
theorem AWpL.guardT {d : Option Nat} {t : Nat} {want : Bool} {op : AOp} {gs : List GOp} (h : gdB (look s.tm t) want = some true) (k : AWpL P E Q (⟨d, none, op⟩ :: gs) s) : AWpL P E Q (⟨d, some (t, want), op⟩ :: gs) s := fun ops l hl a w hrel => by
  obtain ⟨o, l', rfl, h1, h2⟩ := gops_cons hl
  have h3 := k ops (bare o :: l') (by unfold gops; rw [gop_bare h1, h2]) a w hrel
  obtain ⟨ρ, ok, hr⟩ := hrel
  obtain ⟨j, hg0, hg1⟩ := guard_inv h1
  unfold wpList at h3 ⊢
  rw [if_pos (wanted_none (o := bare o) rfl _)] at h3
  rw [if_pos (wanted_gd hr hg0 hg1 h)]
  exact h3
/-- The guard does not hold. -/
theorem AWpL.guardF {d : Option Nat} {t : Nat} {want : Bool} {op : AOp} {gs : List GOp} (hd : dstOk E.n d = true) (h : gdB (look s.tm t) want = some false) (k : AWpL P E Q gs (s.putO d (.opt false .any))) : AWpL P E Q (⟨d, some (t, want), op⟩ :: gs) s := fun ops l hl a w hrel => by
  obtain ⟨o, l', rfl, h1, h2⟩ := gops_cons hl
  obtain ⟨ρ, ok, hr⟩ := hrel
  obtain ⟨j, hg0, hg1⟩ := guard_inv h1
  obtain ⟨_, hdst, _⟩ := gop_guard h1
  unfold wpList
  rw [if_neg (by rw [wanted_gd hr hg0 hg1 h]; simp)]
  refine k ops l' h2 _ _ ⟨ρ, ok, ?_⟩
  rw [← hdst]
  exact hr.putO hd (by unfold R; exact ⟨fun e => (by cases e), fun _ => rfl⟩)
theorem AWpQ.guardT {d : Option Nat} {t : Nat} {want : Bool} {op : AOp} {gs : List GOp} (h : gdB (look s.tm t) want = some true) (k : AWpQ P E Q (⟨d, none, op⟩ :: gs) s) : AWpQ P E Q (⟨d, some (t, want), op⟩ :: gs) s := fun ops l hl a w hrel => by
  obtain ⟨o, l', rfl, h1, h2⟩ := gops_cons hl
  have h3 := k ops (bare o :: l') (by unfold gops; rw [gop_bare h1, h2]) a w hrel
  obtain ⟨ρ, ok, hr⟩ := hrel
  obtain ⟨j, hg0, hg1⟩ := guard_inv h1
  unfold wpQuiet at h3 ⊢
  rw [if_pos (wanted_none (o := bare o) rfl _)] at h3
  rw [if_pos (wanted_gd hr hg0 hg1 h)]
  exact h3
theorem AWpQ.guardF {d : Option Nat} {t : Nat} {want : Bool} {op : AOp} {gs : List GOp} (hd : dstOk E.n d = true) (h : gdB (look s.tm t) want = some false) (k : AWpQ P E Q gs (s.putO d (.opt false .any))) : AWpQ P E Q (⟨d, some (t, want), op⟩ :: gs) s := fun ops l hl a w hrel => by
  obtain ⟨o, l', rfl, h1, h2⟩ := gops_cons hl
  obtain ⟨ρ, ok, hr⟩ := hrel
  obtain ⟨j, hg0, hg1⟩ := guard_inv h1
  obtain ⟨_, hdst, _⟩ := gop_guard h1
  unfold wpQuiet
  rw [if_neg (by rw [wanted_gd hr hg0 hg1 h]; simp)]
  refine k ops l' h2 _ _ ⟨ρ, ok, ?_⟩
  rw [← hdst]
  exact hr.putO hd (by unfold R; exact ⟨fun e => (by cases e), fun _ => rfl⟩)
/-- What is there is there. -/
theorem weak_opt (i : Nat) {x : AV} (h : look s.tm i = .opt true x) : Weak E s (s.put i x) := fun a w ⟨ρ, ok, hr⟩ => by
  refine ⟨ρ, ok, hr.mem, fun m => ?_, hr.siz, hr.dfr, hr.kps, hr.bas, hr.ownr, hr.okr, hr.pin⟩
  show R w ok ρ (look (putTm s.tm i x) m) _
  rw [look_put]
  by_cases e : m = i
  · subst e
    rw [if_pos rfl]
    have := hr.tm m
    rw [h] at this
    unfold R at this
    exact this.1 rfl
  · rw [if_neg e]; exact hr.tm m
end
end Go.Proofs.Ytoickofcmngdjaa.Aw

/- A logic of abstract states for walks: an array that nobody writes any more is shared. -/
set_option linter.unusedVariables false
set_option linter.unusedSimpArgs false
namespace Go.Proofs.Ytoickofcmngdjaa.Aw
open Go.RowKit

mutual
/-- Handles on region r become slices that are only read. -/
def frzA (r sz : Nat) (els : List (List AV)) : AV → AV
  | .hnd r' off n k ex => bif r' == r then .imm none (ex && k == n) sz ((els.drop off).take n) else .hnd r' off n k ex
  | .ptr r' i o => bif r' == r then .any else .ptr r' i o
  | .fn f caps => .fn f (frzL r sz els caps)
  | .agg cs => .agg (frzL r sz els cs)
  | .tup cs => .tup (frzL r sz els cs)
  | .opt c x => .opt c (frzA r sz els x)
  | .any => .any
  | .val v => .val v
  | .imm a b c d => .imm a b c d
  | .pim cs => .pim cs
def frzL (r sz : Nat) (els : List (List AV)) : List AV → List AV
  | [] => []
  | x :: xs => frzA r sz els x :: frzL r sz els xs
end
mutual
def frzO (r len : Nat) : AV → Prop
  | .hnd r' off n _ _ => r' = r → off + n ≤ len
  | .fn _ caps => frzOL r len caps
  | .agg cs => frzOL r len cs
  | .tup cs => frzOL r len cs
  | .opt _ x => frzO r len x
  | _ => True
def frzOL (r len : Nat) : List AV → Prop
  | [] => True
  | x :: xs => frzO r len x ∧ frzOL r len xs
end
def frzR (r sz : Nat) (els : List (List AV)) : Reg → Reg
  | .box e cs => .box e (frzL r sz els cs)
  | .tab e cs => .tab e (frzL r sz els cs)
  | g => g
def frzT (r sz : Nat) (els : List (List AV)) : List (Nat × AV) → List (Nat × AV)
  | [] => []
  | (i, x) :: l => (i, frzA r sz els x) :: frzT r sz els l
def frzOT (r len : Nat) : List (Nat × AV) → Prop
  | [] => True
  | (_, x) :: l => frzO r len x ∧ frzOT r len l
def frzOR (r len : Nat) : List Reg → Prop
  | [] => True
  | .box _ cs :: l => frzOL r len cs ∧ frzOR r len l
  | .tab _ cs :: l => frzOL r len cs ∧ frzOR r len l
  | _ :: l => frzOR r len l
def frzS (r sz : Nat) (els : List (List AV)) (s : St) : St := ⟨frzT r sz els s.tm, (s.rg.map (frzR r sz els)).set r .dead⟩

section
variable {E : Env} {s : St} {a : Act} {w : World} {ρ : Nat → Option (Option Place)} {ok : Nat → Prop}
theorem frzL_length (r sz : Nat) (els : List (List AV)) : ∀ xs : List AV, (frzL r sz els xs).length = xs.length
  | [] => rfl
  | x :: xs => by simp [frzL, frzL_length r sz els xs]
theorem look_frz (r sz : Nat) (els : List (List AV)) : ∀ (l : List (Nat × AV)) (n : Nat), look (frzT r sz els l) n = frzA r sz els (look l n)
  | [], n => by simp [frzT, look, frzA]
  | (i, x) :: l, n => by
    unfold frzT look
    cases (i == n)
    · simp only [cond_false]; exact look_frz r sz els l n
    · rfl
theorem frzOT_look {r len : Nat} : ∀ {l : List (Nat × AV)} (n : Nat), frzOT r len l → frzO r len (look l n)
  | [], n, _ => by unfold look frzO; trivial
  | (i, x) :: l, n, h => by
    unfold look
    cases (i == n)
    · simp only [cond_false]; exact frzOT_look n h.2
    · exact h.1
theorem frzOR_get {r len : Nat} : ∀ {l : List Reg} {k : Nat} {e : TypeId} {cs : List AV}, frzOR r len l → l[k]? = some (.box e cs) → frzOL r len cs
  | [], k, e, cs, _, h => by simp at h
  | g :: l, 0, e, cs, h, hk => by
    simp only [List.getElem?_cons_zero, Option.some.injEq] at hk
    subst hk; exact h.1
  | g :: l, k + 1, e, cs, h, hk => by
    have hk' : l[k]? = some (.box e cs) := by simpa using hk
    cases g with
    | box => exact frzOR_get h.2 hk'
    | tab => exact frzOR_get h.2 hk'
    | arr => exact frzOR_get (l := l) h hk'
    | dead => exact frzOR_get (l := l) h hk'
theorem frzOR_tab {r len : Nat} : ∀ {l : List Reg} {k : Nat} {e : TypeId} {cs : List AV}, frzOR r len l → l[k]? = some (.tab e cs) → frzOL r len cs
  | [], k, e, cs, _, h => by simp at h
  | g :: l, 0, e, cs, h, hk => by
    simp only [List.getElem?_cons_zero, Option.some.injEq] at hk
    subst hk; exact h.1
  | g :: l, k + 1, e, cs, h, hk => by
    have hk' : l[k]? = some (.tab e cs) := by simpa using hk
    cases g with
    | box => exact frzOR_tab h.2 hk'
    | tab => exact frzOR_tab h.2 hk'
    | arr => exact frzOR_tab (l := l) h hk'
    | dead => exact frzOR_tab (l := l) h hk'

theorem hnd_imm {r off n k : Nat} {ex : Bool} {e : TypeId} {sz : Nat} {els : List (List AV)} {v : Value} {ok' : Nat → Prop} (hg : RegOk w ok ρ r (.arr e sz els)) (hk : ∀ b, ok b → ok' b) (hb : ∀ p, ρ r = some (some p) → ok' p.b)
    (h : R w ok ρ (.hnd r off n k ex) v) (hob : off + n ≤ els.length) : Rc w ok' (.imm none (ex && k == n) sz ((els.drop off).take n)) v := by
  have hrd : Reads ok w w := fun _ _ _ _ h => h
  have hlen : ((els.drop off).take n).length = n := by simp; omega
  unfold R at h
  rcases hg with ⟨b, d, C, pre, vs, rest, h1, h2, h3, h4, h5, h6⟩ | ⟨h1, h2⟩
  · rcases h with ⟨p, cc, ad, h7, rfl, h8, h9, h10, h11, h12⟩ | ⟨h7, _⟩
    · rw [h1] at h7
      obtain rfl := by simpa using h7
      unfold Rc
      refine ⟨some ad, cc, by rw [hlen], by rw [hlen]; omega, fun q hq => (by cases hq), fun h => (by cases h), fun h => ?_, fun ad' had hne => ?_⟩
      · simp only [Bool.and_eq_true, beq_iff_eq] at h
        rw [hlen, h12 h.1, h.2]
      injection had with had
      subst had
      have hn0 : n ≠ 0 := fun e => hne (List.eq_nil_of_length_eq_zero (by rw [hlen, e]))
      rcases h8 with h8 | rfl
      · omega
      refine ⟨rfl, hb _ h1, ?_⟩
      rcases sub_els h5 h6 off n with h13 | h13
      · refine RcEls_of _ (fun el hm => h5 el (List.mem_of_mem_drop (List.mem_of_mem_take hm))) (RcList_frame hrd hk _ _ h13) fun j u hj => ?_
        have hjl := (List.getElem?_eq_some_iff.1 hj).1
        rw [List.length_take] at hjl
        rw [List.getElem?_take, if_pos (by omega), List.getElem?_drop] at hj
        rw [cell_of h2, ← Array.getElem?_toList, h3]
        dsimp only
        rw [List.getElem?_append_right (by omega), h4, show d + off * sz + j - d = off * sz + j by omega]
        have := (List.getElem?_eq_some_iff.1 hj).1
        rw [List.getElem?_append_left this]; exact hj
      · omega
    · rw [h1] at h7; injection h7 with h7; cases h7
  · rcases h with ⟨p, cc, ad, h7, _⟩ | ⟨h7, rfl, h8, h9, h10⟩
    · rw [h2] at h7; injection h7 with h7; cases h7
    · subst h1
      unfold Rc
      subst h9
      refine ⟨none, 0, by simp, by simp, fun q hq => (by cases hq), fun _ => rfl, fun h => (by simp), fun ad' had _ => (by cases had)⟩
variable {r sz : Nat} {e : TypeId} {els : List (List AV)} {ok' : Nat → Prop}
mutual
theorem R_frz (hg : RegOk w ok ρ r (.arr e sz els)) (hk : ∀ b, ok b → ok' b) (hb : ∀ p, ρ r = some (some p) → ok' p.b) : ∀ (x : AV) (v : Value), frzO r els.length x → R w ok ρ x v → R w ok' (fun k => if k = r then none else ρ k) (frzA r sz els x) v
  | .hnd r' off n k ex, v, ho, h => by
    unfold frzA
    cases hr : (r' == r) with
    | true =>
      obtain rfl : r' = r := by simpa using hr
      simp only [cond_true]
      unfold frzO at ho
      exact R_of_Rc _ _ (hnd_imm hg hk hb h (ho rfl))
    | false =>
      have hne : r' ≠ r := by simpa using hr
      simp only [cond_false]
      unfold R at h ⊢
      simp only [hne, if_false]
      exact h
  | .ptr r' i o, v, ho, h => by
    unfold frzA
    cases hr : (r' == r) with
    | true => simp only [cond_true]; unfold R; trivial
    | false =>
      have hne : r' ≠ r := by simpa using hr
      simp only [cond_false]
      unfold R at h ⊢
      simp only [hne, if_false]
      exact h
  | .fn f caps, v, ho, h => by
    unfold frzA; unfold frzO at ho; unfold R at h ⊢
    obtain ⟨vs, h1, h2⟩ := h
    exact ⟨vs, h1, RList_frz hg hk hb _ _ ho h2⟩
  | .agg cs, v, ho, h => by
    unfold frzA; unfold frzO at ho; unfold R at h ⊢
    obtain ⟨vs, h1, h2⟩ := h
    exact ⟨vs, h1, RList_frz hg hk hb _ _ ho h2⟩
  | .tup cs, v, ho, h => by
    unfold frzA; unfold frzO at ho; unfold R at h ⊢
    obtain ⟨vs, h1, h2⟩ := h
    exact ⟨vs, h1, RList_frz hg hk hb _ _ ho h2⟩
  | .opt c x, v, ho, h => by
    unfold frzA; unfold frzO at ho; unfold R at h ⊢
    exact ⟨fun hc => R_frz hg hk hb x v ho (h.1 hc), h.2⟩
  | .any, v, _, h => by unfold frzA R; trivial
  | .val x, v, _, h => by unfold frzA; unfold R at h ⊢; exact h
  | .imm a b c d, v, _, h => by
    unfold frzA; unfold R at h ⊢
    exact Rc_frame (fun _ _ _ _ h => h) hk _ _ h
  | .pim cs, v, _, h => by
    unfold frzA; unfold R at h ⊢
    exact Rc_frame (fun _ _ _ _ h => h) hk _ _ h
theorem RList_frz (hg : RegOk w ok ρ r (.arr e sz els)) (hk : ∀ b, ok b → ok' b) (hb : ∀ p, ρ r = some (some p) → ok' p.b) : ∀ (xs : List AV) (vs : List Value), frzOL r els.length xs → RList w ok ρ xs vs → RList w ok' (fun k => if k = r then none else ρ k) (frzL r sz els xs) vs
  | [], vs, _, h => by unfold frzL; unfold RList at h ⊢; exact h
  | x :: xs, vs, ho, h => by
    unfold frzL; unfold RList at h ⊢; unfold frzOL at ho
    obtain ⟨v, vs', e1, h1, h2⟩ := h
    exact ⟨v, vs', e1, R_frz hg hk hb x v ho.1 h1, RList_frz hg hk hb xs vs' ho.2 h2⟩
end
/-- Nobody writes region r any more: it is shared. -/
theorem weak_freeze (r : Nat) {e : TypeId} {sz : Nat} {els : List (List AV)} (hg : s.reg r = .arr e sz els) (hp : E.pin r = none) (hob : frzOT r els.length s.tm ∧ frzOR r els.length s.rg) : Weak E s (frzS r sz els s) := fun a w ⟨ρ, ok, hr⟩ => by
  have hreg := hr.mem.reg r _ (reg_some hg (by simp))
  have hrlt : r < s.rg.length := (List.getElem?_eq_some_iff.1 (reg_some hg (by simp))).1
  let ok' : Nat → Prop := fun b => ok b ∨ ∃ p, ρ r = some (some p) ∧ p.b = b
  have hk : ∀ b, ok b → ok' b := fun b h => .inl h
  have hb : ∀ p, ρ r = some (some p) → ok' p.b := fun p h => .inr ⟨p, h, rfl⟩
  have hne : ∀ {k q}, (fun k => if k = r then none else ρ k) k = some q → k ≠ r ∧ ρ k = some q := fun {k q} h => by
    dsimp only at h
    split at h
    · cases h
    · exact ⟨by assumption, h⟩
  refine ⟨fun k => if k = r then none else ρ k, ok', ⟨fun b h => ?_, fun k k' p p' h1 h2 h3 => ?_, fun k p h => ?_, fun k g hk' => ?_, fun k hk' => ?_⟩, fun n => ?_, hr.siz, hr.dfr, hr.kps, hr.bas, fun k p h => hr.ownr k p (hne h).2, fun b h => ?_, fun k p h => ?_⟩
  · rcases h with h | ⟨p, h1, rfl⟩
    · exact hr.mem.okl b h
    · exact (hr.mem.own r p h1).1
  · exact hr.mem.inj k k' p p' (hne h1).2 (hne h2).2 h3
  · obtain ⟨h1, h2⟩ := hne h
    refine ⟨(hr.mem.own k p h2).1, fun h3 => ?_⟩
    rcases h3 with h3 | ⟨q, h3, h4⟩
    · exact (hr.mem.own k p h2).2 h3
    · exact h1 (hr.mem.inj k r p q h2 h3 h4.symm)
  · by_cases e1 : k = r
    · subst e1
      rw [frzS, List.getElem?_set] at hk'
      simp only [if_true, List.length_map, hrlt] at hk'
      obtain rfl := Option.some.inj hk'
      exact if_pos rfl
    · rw [frzS, List.getElem?_set_ne (Ne.symm e1), List.getElem?_map, Option.map_eq_some_iff] at hk'
      obtain ⟨g0, hg0, rfl⟩ := hk'
      have h0 := hr.mem.reg k g0 hg0
      have hρ : (fun k => if k = r then none else ρ k) k = ρ k := if_neg e1
      cases g0 with
      | dead => exact hρ.trans h0
      | box e' cs =>
        obtain ⟨b, C, h1, h2, h3⟩ := h0
        exact ⟨b, C, by rw [hρ, frzL_length]; exact h1, h2, RList_frz hreg hk hb _ _ (frzOR_get hob.2 hg0) h3⟩
      | arr e' sz' els' =>
        rcases h0 with ⟨b, d, C, pre, vs, rest, h1, h2, h3, h4, h5, h6⟩ | ⟨h1, h2⟩
        · exact .inl ⟨b, d, C, pre, vs, rest, hρ.trans h1, h2, h3, h4, h5, RcList_frame (fun _ _ _ _ h => h) hk _ _ h6⟩
        · exact .inr ⟨h1, hρ.trans h2⟩
      | tab e' cs =>
        rcases h0 with ⟨b, d, C, pre, vs, rest, h1, h2, h3, h4, h6⟩ | ⟨h1, h2⟩
        · exact .inl ⟨b, d, C, pre, vs, rest, hρ.trans h1, h2, h3, h4, RList_frz hreg hk hb _ _ (frzOR_tab hob.2 hg0) h6⟩
        · exact .inr ⟨by rw [h1]; rfl, hρ.trans h2⟩
  · have hlen : s.rg.length ≤ k := by simpa [frzS] using hk'
    show (if k = r then none else ρ k) = none
    rw [if_neg (by omega)]
    exact hr.mem.out k hlen
  · show R w ok' _ (look (frzT r sz els s.tm) n) _
    rw [look_frz]
    exact R_frz hreg hk hb _ _ (frzOT_look n hob.1) (hr.tm n)
  · rcases h with h | ⟨p, h1, rfl⟩
    · exact hr.okr b h
    · exact .inr (hr.ownr r p h1)
  · have h1 := hr.pin k p h
    have h2 : k ≠ r := fun e1 => by rw [e1, hp] at h; cases h
    show (if k = r then none else ρ k) = _
    rw [if_neg h2]; exact h1
end
end Go.Proofs.Ytoickofcmngdjaa.Aw

/- A logic of abstract states for walks: a nil slice in a struct is an array without elements; ends by way of weaker states. -/
set_option linter.unusedVariables false
set_option linter.unusedSimpArgs false
namespace Go.Proofs.Ytoickofcmngdjaa.Aw
open Go.RowKit

section
variable {E : Env} {s s' : St}
theorem RList_set {w : World} {ok : Nat → Prop} {ρ : Nat → Option (Option Place)} : ∀ {xs : List AV} {vs : List Value} {i : Nat} {x : AV}, RList w ok ρ xs vs → (∀ v, vs[i]? = some v → R w ok ρ x v) → RList w ok ρ (xs.set i x) vs
  | [], vs, i, x, h, _ => h
  | y :: xs, vs, 0, x, h, hx => by
    unfold RList at h
    obtain ⟨v, vs', rfl, h1, h2⟩ := h
    show RList w ok ρ (x :: xs) (v :: vs')
    unfold RList
    exact ⟨v, vs', rfl, hx v rfl, h2⟩
  | y :: xs, vs, i + 1, x, h, hx => by
    unfold RList at h
    obtain ⟨v, vs', rfl, h1, h2⟩ := h
    show RList w ok ρ (y :: xs.set i x) (v :: vs')
    unfold RList
    exact ⟨v, vs', rfl, h1, RList_set h2 fun u hu => hx u (by simpa using hu)⟩
/-- A nil slice in a box is an array of the call's own without elements. -/
theorem weak_nilbox (r i : Nat) (e : TypeId) (sz : Nat) {eb : TypeId} {cs : List AV} (hg : s.reg r = .box eb cs) (h : cs[i]? = some (.val (.slice none 0 0))) :
    Weak E s ⟨s.tm, (s.rg.set r (.box eb (cs.set i (.hnd s.rg.length 0 0 0 false)))) ++ [.arr e sz []]⟩ := fun a w ⟨ρ, ok, hr⟩ => by
  have hn := hr.mem.out s.rg.length (Nat.le_refl _)
  have hold := addPl_old hn none
  have hnew : addPl ρ s.rg.length none s.rg.length = some none := by unfold addPl; rw [if_pos rfl]
  have hrlt : r < s.rg.length := (List.getElem?_eq_some_iff.1 (reg_some hg (by simp))).1
  have hne : ∀ r p, addPl ρ s.rg.length none r = some (some p) → ρ r = some (some p) := fun r p hp => by
    unfold addPl at hp
    split at hp
    · cases hp
    · exact hp
  refine ⟨addPl ρ s.rg.length none, ok, ⟨hr.mem.okl, fun r r' p p' h1 h2 h3 => hr.mem.inj r r' p p' (hne _ _ h1) (hne _ _ h2) h3, fun r p hp => hr.mem.own r p (hne _ _ hp), fun k g hk => ?_, fun k hr' => ?_⟩, fun n => ?_, hr.siz, hr.dfr, hr.kps, hr.bas, fun r p hp => hr.ownr r p (hne _ _ hp), hr.okr, fun r p hp => hold _ _ (hr.pin r p hp)⟩
  · by_cases e1 : k = s.rg.length
    · subst e1
      rw [List.getElem?_append_right (by simp)] at hk
      obtain rfl : g = .arr e sz [] := by simpa using hk.symm
      exact .inr ⟨rfl, hnew⟩
    · have hlt : k < s.rg.length := by
        have := (List.getElem?_eq_some_iff.1 hk).1
        simp at this; omega
      rw [List.getElem?_append_left (by simpa using hlt)] at hk
      have hρr : addPl ρ s.rg.length none k = ρ k := by unfold addPl; rw [if_neg e1]
      by_cases e2 : k = r
      · subst e2
        rw [List.getElem?_set] at hk
        simp only [if_true, hrlt] at hk
        obtain rfl := Option.some.inj hk
        obtain ⟨b, C, h1, h2, h3⟩ := hr.mem.reg k _ (reg_some hg (by simp))
        refine ⟨b, C, by rw [hρr, List.length_set]; exact h1, h2, RList_set (RList_frame (fun _ _ _ _ x => x) (fun _ x => x) hold _ _ h3) fun v hv => ?_⟩
        obtain ⟨v', h4, h5⟩ := RList_get h3 i _ h
        rw [h4] at hv
        obtain rfl := Option.some.inj hv
        have := R_val h5
        subst this
        unfold R
        exact .inr ⟨hnew, rfl, rfl, rfl, rfl⟩
      · rw [List.getElem?_set_ne (Ne.symm e2)] at hk
        have h0 := hr.mem.reg k g hk
        cases g with
        | dead => exact hρr.trans h0
        | box e' cs =>
          obtain ⟨b, C, h1, h2, h3⟩ := h0
          exact ⟨b, C, hρr.trans h1, h2, RList_frame (fun _ _ _ _ x => x) (fun _ x => x) hold _ _ h3⟩
        | arr e' sz els =>
          rcases h0 with ⟨b, d, C, pre, vs, rest, h1, h2⟩ | ⟨h0, h1⟩
          · exact .inl ⟨b, d, C, pre, vs, rest, hρr.trans h1, h2⟩
          · exact .inr ⟨h0, hρr.trans h1⟩
        | tab e' cs =>
          rcases h0 with ⟨b, d, C, pre, vs, rest, h1, h2, h3, h4, h6⟩ | ⟨h0, h1⟩
          · exact .inl ⟨b, d, C, pre, vs, rest, hρr.trans h1, h2, h3, h4, RList_frame (fun _ _ _ _ x => x) (fun _ x => x) hold _ _ h6⟩
          · exact .inr ⟨h0, hρr.trans h1⟩
  · unfold addPl
    have : s.rg.length + 1 ≤ k := by simpa using hr'
    rw [if_neg (by omega)]
    exact hr.mem.out k (by omega)
  · exact R_frame (fun _ _ _ _ x => x) (fun _ x => x) hold _ _ (hr.tm n)
theorem Retn.weak {rs : List RV} {Post : List Reg → AV → Prop} (hw : Weak E s s') : ∀ e, Retn E rs Post e s' → Retn E rs Post e s := fun e h => by
  cases e <;> first | exact h.elim | (obtain ⟨s1, l, ob, h1, h2⟩ := h; exact ⟨s1, l, ob, hw.trans h1, h2⟩)
end
/-- A function that may leave regions; the post by cases of how it ends. -/
theorem Spec.regs {P : Program} {f : FuncId} {n np : Nat} {rs : List RV} {ac : ACode} (k : FnIs P f n rs ac) (hm : P.follows .mixedOrders = true) {rg0 : List Reg} {args : List AV} {Post : List Reg → AV → Prop} (hl : Nat.ble args.length n = true) (hnp : rg0.length = np)
    (hd : dstsC n ac = true) (h : ∀ E : Env, E.n = n → E.np = np → PinOk E rg0 → wpC P E ac (Retn E rs Post) ⟨params 0 args, rg0⟩) : Spec P f rg0 args Post :=
  Spec.of k hl fun E hn hp0 hp => AWp.of hn hm hd (h E hn (hp0.trans hnp) hp)
end Go.Proofs.Ytoickofcmngdjaa.Aw
