/- Arguments that are read as data, with the sizes that the reading weighs. -/
import Derived.Test.YtoickofcmngdjaaAwTa
set_option linter.unusedVariables false
set_option linter.unusedSimpArgs false
namespace Go.Proofs.Ytoickofcmngdjaa.Aw
open Go.RowKit

/-- What of type t reads as data, and is not larger than the reach, is one of these lists of cells. -/
def OpensW (P : Program) (t : TypeId) {α : Type} (c : α → List AV) (good : α → Prop) : Prop :=
  ∀ (H : Type) (enc : TypeId × Value → H) (W : World) (base : Nat) (spare : Nat → Bool) (held : Bool) (fuel : Nat) (cs : List Value) (x : DataW H × List MemPlace),
    DataW.trod enc P W base spare held fuel t cs = some x → (x.1.weights P t).all (· ≤ reachBytes) = true → ∃ a, good a ∧ RcList W (fun b => b < W.heap.size) (c a) cs
def OpensFW (P : Program) {α : Type} (fs : List Field) (c : α → List AV) (good : α → Prop) : Prop :=
  ∀ (H : Type) (enc : TypeId × Value → H) (W : World) (base : Nat) (spare : Nat → Bool) (held : Bool) (fuel : Nat) (cs : List Value) (xs : List (DataW H × List MemPlace)),
    xs.length = fs.length → (∀ (i : Nat) (f : Field), fs[i]? = some f → DataW.trod enc P W base spare held fuel f.type ((cs.drop f.offset).take (P.cellsOf f.type)) = xs[i]?) →
      (DataW.weightsEach P (fs.map (·.type)) (xs.map (·.1))).all (· ≤ reachBytes) = true →
      ∃ a, good a ∧ RcList W (fun b => b < W.heap.size) (c a) (fs.flatMap fun f => (cs.drop f.offset).take (P.cellsOf f.type))

section
variable {P : Program} {t e : TypeId}
theorem OpensW.of {α : Type} {c : α → List AV} {good : α → Prop} (h : Opens P t c good) : OpensW P t c good := fun H enc W base spare held fuel cs x hx _ => h H enc W base spare held fuel cs x hx
theorem OpensW.string (ht : P.underlying t = some .string) : OpensW P t (fun s : ByteArray => [.val (.string s)]) (fun s => s.size ≤ 140737488351232) := fun H enc W base spare held fuel cs x h hw => by
  obtain ⟨n, rfl, rfl, h2⟩ := DataW.trod_string ht h
  refine ⟨n, ?_, RcList_one _⟩
  unfold DataW.weights at hw
  simp only [List.all_cons, List.all_nil, Bool.and_true, decide_eq_true_eq] at hw
  have : n.data.toList.length = n.size := by rw [Array.length_toList]; rfl
  rw [this] at hw
  exact hw
theorem OpensW.map {α β : Type} {c : α → List AV} {good : α → Prop} (h : OpensW P t c good) (g : α → β) {c' : β → List AV} {good' : β → Prop} (hc : ∀ a, c a = c' (g a)) (hg : ∀ a, good a → good' (g a)) : OpensW P t c' good' := fun H enc W base spare held fuel cs x hx hw => by
  obtain ⟨a, h1, h2⟩ := h _ enc W base spare held fuel cs x hx hw
  exact ⟨g a, hg a h1, by rw [← hc]; exact h2⟩
theorem OpensFW.nil : OpensFW P [] (fun _ : Unit => []) (fun _ => True) := fun H enc W base spare held fuel cs xs _ h _ => ⟨(), trivial, by simp [RcList]⟩
theorem OpensFW.cons {α β : Type} {f : Field} {fs : List Field} {c : α → List AV} {c' : β → List AV} {good : α → Prop} {good' : β → Prop} (h : OpensW P f.type c good) (k : OpensFW P fs c' good') :
    OpensFW P (f :: fs) (fun p : α × β => c p.1 ++ c' p.2) (fun p => good p.1 ∧ good' p.2) := fun H enc W base spare held fuel cs xs hl hx hw => by
  cases xs with
  | nil => cases hl
  | cons x xs =>
    obtain ⟨w1, w2⟩ := weigh_cons (W := W) hw
    obtain ⟨a, h2, h3⟩ := h _ enc W base spare held fuel _ x (hx 0 f rfl) w1
    obtain ⟨b, h4, h5⟩ := k _ enc W base spare held fuel cs xs (by simpa using hl) (fun i g hg => hx (i + 1) g hg) w2
    exact ⟨(a, b), ⟨h2, h4⟩, by rw [List.flatMap_cons]; exact RcList_append h3 h5⟩
theorem OpensW.struct {α : Type} {fs : Array Field} {c : α → List AV} {good : α → Prop} (ht : P.underlying t = some (.struct fs)) (h : OpensFW P fs.toList c good) (hf : fieldsAt P 0 fs.toList = true) (he : fieldsEnd P 0 fs.toList = P.cellsOf t) : OpensW P t c good := fun H enc W base spare held fuel cs x hx hw => by
  obtain ⟨xs, n, rfl, rfl, h1, h2, h3⟩ := DataW.trod_struct ht hx
  unfold DataW.weights at hw
  simp only [ht] at hw
  obtain ⟨a, h4, h5⟩ := h _ enc W base spare held n cs xs (by simpa using h2) (fun i f hi => h3 i f (by simpa using hi)) hw
  rw [fields_flat hf (by rw [he, h1]), List.drop_zero] at h5
  exact ⟨a, h4, h5⟩
theorem weighsAll {H : Type} {ds : List (DataW H)} {n : Nat} : (DataW.weightsAll P e ds).all (· ≤ n) = true → ∀ d ∈ ds, (d.weights P e).all (· ≤ n) = true := by
  induction ds with
  | nil => intro _ d hd; cases hd
  | cons x ds ih =>
    intro h d hd
    unfold DataW.weightsAll at h
    rw [List.all_append, Bool.and_eq_true] at h
    rcases List.mem_cons.1 hd with rfl | hd
    · exact h.1
    · exact ih h.2 d hd
/-- A slice: whether it is nil, whether it is full, its elements. -/
theorem OpensW.slice {α : Type} {c : α → List AV} {good : α → Prop} (sz by' : Nat) (ht : P.underlying t = some (.slice e)) (h : OpensW P e c good) (hC : P.cellsOf e = sz) (hB : P.bytesOf e = by') (hz : 0 < sz) (hl : ∀ a, (c a).length = sz) :
    OpensW P t (fun p : Bool × Bool × List α => [.imm (some p.1) p.2.1 sz (p.2.2.map c)]) (fun p => p.2.2.length ≤ 9223372036854775807 ∧ p.2.2.length * by' ≤ 140737488351232 ∧ ∀ a ∈ p.2.2, good a) := fun H enc W base spare held fuel cs x hx hw => by
  rcases DataW.trod_slice ht hx with ⟨rfl, rfl⟩ | ⟨a, len, cap, elems, rest, n, rfl, rfl, rfl, h1, h2, h3, h4, h5, _⟩
  · refine ⟨(true, true, []), ⟨by simp, by simp, by simp⟩, ?_⟩
    unfold RcList
    refine ⟨_, _, rfl, ?_, by unfold RcList; rfl⟩
    unfold Rc
    exact ⟨none, 0, rfl, Nat.le_refl _, fun q hq => Option.some.inj hq, fun _ => rfl, fun _ => rfl, fun a ha => by cases ha⟩
  · subst hC hB
    unfold DataW.weights at hw
    simp only [ht, List.all_cons, List.all_append, Bool.and_eq_true, decide_eq_true_eq, List.length_map] at hw
    obtain ⟨hw1, hw2, _⟩ := hw
    obtain ⟨l, h6, h7⟩ := list_choose (p := fun i a' => good a' ∧ ∃ vs, vs.length = P.cellsOf e ∧ (∀ j, j < vs.length → W.cell? ((a.add (i * P.cellsOf e)).add j) = vs[j]?) ∧ RcList W (fun b => b < W.heap.size) (c a') vs) len fun i hi => by
      have h8 := h5 i hi
      rw [List.getElem?_eq_getElem (by omega), Option.bind_eq_some_iff] at h8
      obtain ⟨vs, h9, h10⟩ := h8
      obtain ⟨_, h11, h12⟩ := World.cells?_some h9
      obtain ⟨a', h13, h14⟩ := h _ enc W base spare held n vs _ h10 (weighsAll hw2 _ (List.mem_map.2 ⟨_, List.getElem_mem (by omega), rfl⟩))
      exact ⟨a', h13, vs, h11, fun j hj => h12 j (by omega), h14⟩
    refine ⟨(false, false, l), ⟨?_, ?_, fun a' ha => ?_⟩, ?_⟩
    · have : maxLen = 9223372036854775807 := rfl
      show l.length ≤ _
      omega
    · show l.length * _ ≤ _
      refine Nat.le_trans (Nat.mul_le_mul_right _ (?_ : _ ≤ elems.length + rest.length)) hw1
      omega
    · obtain ⟨i, hi⟩ := List.mem_iff_getElem?.1 ha
      exact (h7 i a' hi).1
    · unfold RcList
      refine ⟨_, _, rfl, ?_, by unfold RcList; rfl⟩
      unfold Rc
      refine ⟨some a, cap, by simp [h6], by simp [h6]; exact h2, fun q hq => Option.some.inj hq, fun hA => (by cases hA), fun hf => (by cases hf), fun b hb hne => ?_⟩
      injection hb with hb
      subst hb
      have hpos : 0 < l.length := by
        rcases Nat.eq_zero_or_pos l.length with e0 | e0
        · exact absurd (by simp [List.eq_nil_of_length_eq_zero e0]) hne
        · exact e0
      have hfirst : W.cell? a ≠ none := by
        obtain ⟨_, vs, h8, h9, h10⟩ := h7 0 l[0] (List.getElem?_eq_getElem hpos)
        have := h9 0 (by omega)
        have e0 : (a.add (0 * P.cellsOf e)).add 0 = a := by simp [Addr.add]
        rw [e0] at this
        rw [this, List.getElem?_eq_getElem (by omega)]
        simp
      obtain ⟨v0, hv0⟩ := Option.ne_none_iff_exists'.1 hfirst
      refine ⟨World.cell?_spot hv0, lt_of_cell hv0, els_of fun i a' ha => ⟨hl a', ?_⟩⟩
      obtain ⟨_, vs, h8, h9, h10⟩ := h7 i a' ha
      refine cells_of_list h10 fun j hj => ?_
      have := h9 j hj
      have hs := World.cell?_spot hv0
      obtain ⟨ab, ao, as⟩ := a
      dsimp only at hs
      subst hs
      simpa [Go.WideShapes.add_plain] using this

/-- An argument of type t, not larger than the reach, is one of these values. -/
def OpensVW (P : Program) (t : TypeId) {α : Type} (c : α → AV) (good : α → Prop) : Prop :=
  ∀ (H : Type) (enc : TypeId × Value → H) (W : World) (base b0 : Nat) (spare : Nat → Bool) (held : Bool) (v : Value) (d : DataW H) (p : List MemPlace),
    Value.okWide P W .any b0 t v → DataW.Trod enc P W base spare held t v d p → (d.weights P t).all (· ≤ reachBytes) = true → ∃ a, good a ∧ Rc W (fun b => b < W.heap.size) (c a) v
theorem OpensVW.of {α : Type} {c : α → AV} {good : α → Prop} (h : OpensV P t c good) : OpensVW P t c good := fun H enc W base b0 spare held v d p hv hd _ => h H enc W base b0 spare held v d p hv hd
theorem OpensVW.bool (ht : P.underlying t = some .bool) : OpensVW P t (fun b : Bool => .val (.bool b)) (fun _ => True) := fun H enc W base b0 spare held v d p hv ⟨fuel, hd⟩ _ => by
  obtain ⟨n, rfl⟩ := WideShapes.okWide_bool ht hv
  exact ⟨n, trivial, by unfold Rc; rfl⟩
theorem OpensVW.string (ht : P.underlying t = some .string) : OpensVW P t (fun s : ByteArray => .val (.string s)) (fun s => s.size ≤ 140737488351232) := fun H enc W base b0 spare held v d p hv ⟨fuel, hd⟩ hw => by
  obtain ⟨n, rfl⟩ := WideShapes.okWide_string ht hv
  obtain ⟨a, h1, h2⟩ := OpensW.string ht _ enc W base spare held fuel _ _ hd hw
  obtain ⟨u, h3, h4⟩ := RcList_single h2
  injection h3 with h3
  subst h3
  exact ⟨a, h1, h4⟩
theorem OpensVW.struct {α : Type} {c : α → List AV} {good : α → Prop} {fs : Array Field} (ht : P.underlying t = some (.struct fs)) (h : OpensW P t c good) : OpensVW P t (fun a => .agg (c a)) good := fun H enc W base b0 spare held v d p hv ⟨fuel, hd⟩ hw => by
  obtain ⟨cs, rfl, _⟩ := WideShapes.okWide_struct ht hv
  obtain ⟨a, h1, h2⟩ := h _ enc W base spare held fuel _ _ hd hw
  exact ⟨a, h1, by unfold Rc; exact ⟨cs, rfl, h2⟩⟩
theorem OpensVW.slice {α : Type} {c : α → AV} {good : α → Prop} (ht : P.underlying t = some (.slice e)) (h : OpensW P t (fun a => [c a]) good) : OpensVW P t c good := fun H enc W base b0 spare held v d p hv ⟨fuel, hd⟩ hw => by
  obtain ⟨x, y, z, rfl⟩ := WideShapes.okWide_slice ht hv
  obtain ⟨a, h1, h2⟩ := h _ enc W base spare held fuel _ _ hd hw
  obtain ⟨u, h3, h4⟩ := RcList_single h2
  injection h3 with h3
  subst h3
  exact ⟨a, h1, h4⟩
end
end Go.Proofs.Ytoickofcmngdjaa.Aw
