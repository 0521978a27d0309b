/- A logic of abstract states for walks: arguments that are read as data, and laws that return true. -/
import Derived.Test.YtoickofcmngdjaaAwS
import Derived.Carry
import Derived.ChangeOld
import Derived.ChangeShapes
import Derived.OpenShut
set_option linter.unusedVariables false
set_option linter.unusedSimpArgs false
namespace Go.Proofs.Ytoickofcmngdjaa.Aw
open Go.RowKit

/-- What of type t reads as data is one of these lists of cells. -/
def Opens (P : Program) (t : TypeId) {α : Type} (c : α → List AV) (good : α → Prop) : Prop :=
  ∀ (H : Type) (enc : TypeId × Value → H) (W : World) (base : Nat) (spare : Nat → Bool) (held : Bool) (fuel : Nat) (cs : List Value) (x : DataW H × List MemPlace),
    DataW.trod enc P W base spare held fuel t cs = some x → ∃ a, good a ∧ RcList W (fun b => b < W.heap.size) (c a) cs
def OpensF (P : Program) {α : Type} (fs : List Field) (c : α → List AV) (good : α → Prop) : Prop :=
  ∀ (H : Type) (enc : TypeId × Value → H) (W : World) (base : Nat) (spare : Nat → Bool) (held : Bool) (fuel : Nat) (cs : List Value),
    (∀ f ∈ fs, ∃ x, DataW.trod enc P W base spare held fuel f.type ((cs.drop f.offset).take (P.cellsOf f.type)) = some x) →
      ∃ a, good a ∧ RcList W (fun b => b < W.heap.size) (c a) (fs.flatMap fun f => (cs.drop f.offset).take (P.cellsOf f.type))

section
variable {P : Program} {t e : TypeId}
theorem RcList_one {W : World} {ok : Nat → Prop} (v : Value) : RcList W ok [.val v] [v] := by
  unfold RcList
  exact ⟨v, [], rfl, by unfold Rc; rfl, by unfold RcList; rfl⟩
theorem Opens.int {k : IntKind} (ht : P.underlying t = some (.int k)) : Opens P t (fun n : Int => [.val (.int k n)]) (fun n => (Lit.int k n).wf = true) := fun H enc W base spare held fuel cs x h => by
  obtain ⟨n, rfl, _, h2⟩ := DataW.trod_int ht h
  exact ⟨n, h2, RcList_one _⟩
theorem Opens.bool (ht : P.underlying t = some .bool) : Opens P t (fun b : Bool => [.val (.bool b)]) (fun _ => True) := fun H enc W base spare held fuel cs x h => by
  obtain ⟨n, rfl, _⟩ := DataW.trod_bool ht h
  exact ⟨n, trivial, RcList_one _⟩
theorem Opens.string (ht : P.underlying t = some .string) : Opens P t (fun s : ByteArray => [.val (.string s)]) (fun s => s.size ≤ 9223372036854775807) := fun H enc W base spare held fuel cs x h => by
  obtain ⟨n, rfl, _, h2⟩ := DataW.trod_string ht h
  exact ⟨n, h2, RcList_one _⟩
theorem Opens.map {α β : Type} {c : α → List AV} {good : α → Prop} (h : Opens P t c good) (g : α → β) {c' : β → List AV} {good' : β → Prop} (hc : ∀ a, c a = c' (g a)) (hg : ∀ a, good a → good' (g a)) : Opens P t c' good' := fun H enc W base spare held fuel cs x hx => by
  obtain ⟨a, h1, h2⟩ := h _ enc W base spare held fuel cs x hx
  exact ⟨g a, hg a h1, by rw [← hc]; exact h2⟩

theorem OpensF.nil : OpensF P [] (fun _ : Unit => []) (fun _ => True) := fun H enc W base spare held fuel cs h => ⟨(), trivial, by simp [RcList]⟩
theorem OpensF.cons {α β : Type} {f : Field} {fs : List Field} {c : α → List AV} {c' : β → List AV} {good : α → Prop} {good' : β → Prop} (h : Opens P f.type c good) (k : OpensF P fs c' good') :
    OpensF P (f :: fs) (fun p : α × β => c p.1 ++ c' p.2) (fun p => good p.1 ∧ good' p.2) := fun H enc W base spare held fuel cs hx => by
  obtain ⟨x, h1⟩ := hx f List.mem_cons_self
  obtain ⟨a, h2, h3⟩ := h _ enc W base spare held fuel _ x h1
  obtain ⟨b, h4, h5⟩ := k _ enc W base spare held fuel cs fun g hg => hx g (List.mem_cons_of_mem _ hg)
  exact ⟨(a, b), ⟨h2, h4⟩, by rw [List.flatMap_cons]; exact RcList_append h3 h5⟩
/-- The fields lie one behind the other. -/
def fieldsAt (P : Program) : Nat → List Field → Bool
  | _, [] => true
  | o, f :: fs => f.offset == o && fieldsAt P (o + P.cellsOf f.type) fs
def fieldsEnd (P : Program) : Nat → List Field → Nat
  | o, [] => o
  | o, f :: fs => fieldsEnd P (o + P.cellsOf f.type) fs
theorem fields_flat {cs : List Value} : ∀ {fs : List Field} {o : Nat}, fieldsAt P o fs = true → fieldsEnd P o fs = cs.length → (fs.flatMap fun f => (cs.drop f.offset).take (P.cellsOf f.type)) = cs.drop o
  | [], o, _, h => by simp only [fieldsEnd] at h; rw [List.flatMap_nil, List.drop_eq_nil_of_le (by omega)]
  | f :: fs, o, h, h' => by
    simp only [fieldsAt, Bool.and_eq_true, beq_iff_eq] at h
    simp only [fieldsEnd] at h'
    rw [List.flatMap_cons, fields_flat h.2 h', h.1, ← List.drop_drop, List.take_append_drop]
theorem Opens.struct {α : Type} {fs : Array Field} {c : α → List AV} {good : α → Prop} (ht : P.underlying t = some (.struct fs)) (h : OpensF P fs.toList c good) (hf : fieldsAt P 0 fs.toList = true) (he : fieldsEnd P 0 fs.toList = P.cellsOf t) : Opens P t c good := fun H enc W base spare held fuel cs x hx => by
  obtain ⟨xs, n, rfl, rfl, h1, h2, h3⟩ := DataW.trod_struct ht hx
  obtain ⟨a, h4, h5⟩ := h _ enc W base spare held n cs fun f hf => by
    obtain ⟨i, hi⟩ := List.mem_iff_getElem?.1 hf
    have h6 := h3 i f (by simpa using hi)
    have hlt : i < xs.length := by rw [h2]; have := (List.getElem?_eq_some_iff.1 hi).1; simpa using this
    exact ⟨xs[i], by rw [h6, List.getElem?_eq_getElem hlt]⟩
  rw [fields_flat hf (by rw [he, h1]), List.drop_zero] at h5
  exact ⟨a, h4, h5⟩

theorem list_choose {α : Type} {p : Nat → α → Prop} : ∀ (n : Nat), (∀ i, i < n → ∃ a, p i a) → ∃ l : List α, l.length = n ∧ ∀ i a, l[i]? = some a → p i a
  | 0, _ => ⟨[], rfl, fun i a h => by simp at h⟩
  | n + 1, h => by
    obtain ⟨l, h1, h2⟩ := list_choose n fun i hi => h i (by omega)
    obtain ⟨a, ha⟩ := h n (by omega)
    refine ⟨l ++ [a], by simp [h1], fun i b hb => ?_⟩
    rcases Nat.lt_or_ge i l.length with hi | hi
    · rw [List.getElem?_append_left hi] at hb; exact h2 i b hb
    · rw [List.getElem?_append_right hi] at hb
      rcases Nat.eq_or_lt_of_le hi with e | e
      · rw [← e] at hb ⊢
        simp at hb
        subst hb
        rw [h1]; exact ha
      · rw [List.getElem?_eq_none (by simp; omega)] at hb; cases hb
theorem cells_of_list {W : World} {ok : Nat → Prop} {b : Nat} : ∀ {xs : List AV} {vs : List Value} {o : Nat}, RcList W ok xs vs → (∀ j, j < vs.length → W.cell? ⟨b, o + j, none⟩ = vs[j]?) → RcCells W ok b o xs
  | [], vs, o, _, _ => by unfold RcCells; trivial
  | x :: xs, vs, o, h, hc => by
    unfold RcList at h
    obtain ⟨v, vs', rfl, h1, h2⟩ := h
    unfold RcCells
    refine ⟨⟨v, by simpa using hc 0 (by simp), h1⟩, cells_of_list h2 fun j hj => ?_⟩
    have := hc (j + 1) (by simpa using hj)
    rw [show o + 1 + j = o + (j + 1) by omega, this]; simp
theorem els_of {α : Type} {W : World} {ok : Nat → Prop} {b sz : Nat} {c : α → List AV} : ∀ {l : List α} {o : Nat}, (∀ i a, l[i]? = some a → (c a).length = sz ∧ RcCells W ok b (o + i * sz) (c a)) → RcEls W ok b sz o (l.map c)
  | [], o, _ => by simp [RcEls]
  | a :: l, o, h => by
    rw [List.map_cons]
    unfold RcEls
    obtain ⟨h1, h2⟩ := h 0 a rfl
    refine ⟨h1, by simpa using h2, els_of fun i a' ha => ?_⟩
    obtain ⟨h3, h4⟩ := h (i + 1) a' (by simpa using ha)
    exact ⟨h3, by rw [Nat.add_assoc, show sz + i * sz = (i + 1) * sz by rw [Nat.add_mul, Nat.one_mul, Nat.add_comm]]; exact h4⟩
theorem lt_of_cell {W : World} {a : Addr} {v : Value} (h : W.cell? a = some v) : a.block < W.heap.size := by
  unfold World.cell? at h
  split at h
  · rename_i c e f hb
    exact (Array.getElem?_eq_some_iff.1 (by assumption)).1
  · cases h
/-- A slice: whether it is nil, whether it is full, its elements. -/
theorem Opens.slice {α : Type} {c : α → List AV} {good : α → Prop} (sz : Nat) (ht : P.underlying t = some (.slice e)) (h : Opens P e c good) (hC : P.cellsOf e = sz) (hz : 0 < sz) (hl : ∀ a, (c a).length = sz) :
    Opens P t (fun p : Bool × Bool × List α => [.imm (some p.1) p.2.1 sz (p.2.2.map c)]) (fun p => p.2.2.length ≤ 9223372036854775807 ∧ ∀ a ∈ p.2.2, good a) := fun H enc W base spare held fuel cs x hx => by
  rcases DataW.trod_slice ht hx with ⟨rfl, rfl⟩ | ⟨a, len, cap, elems, rest, n, rfl, rfl, rfl, h1, h2, h3, h4, h5, _⟩
  · refine ⟨(true, true, []), ⟨by simp, by simp⟩, ?_⟩
    unfold RcList
    refine ⟨_, _, rfl, ?_, by unfold RcList; rfl⟩
    unfold Rc
    exact ⟨none, 0, rfl, Nat.le_refl _, fun q hq => Option.some.inj hq, fun _ => rfl, fun _ => rfl, fun a ha => by cases ha⟩
  · subst hC
    obtain ⟨l, h6, h7⟩ := list_choose (p := fun i a' => good a' ∧ ∃ vs, vs.length = P.cellsOf e ∧ (∀ j, j < vs.length → W.cell? ((a.add (i * P.cellsOf e)).add j) = vs[j]?) ∧ RcList W (fun b => b < W.heap.size) (c a') vs) len fun i hi => by
      have h8 := h5 i hi
      rw [List.getElem?_eq_getElem (by omega), Option.bind_eq_some_iff] at h8
      obtain ⟨vs, h9, h10⟩ := h8
      obtain ⟨_, h11, h12⟩ := World.cells?_some h9
      obtain ⟨a', h13, h14⟩ := h _ enc W base spare held n vs _ h10
      exact ⟨a', h13, vs, h11, fun j hj => h12 j (by omega), h14⟩
    refine ⟨(false, false, l), ⟨?_, fun a' ha => ?_⟩, ?_⟩
    · have : maxLen = 9223372036854775807 := rfl
      show l.length ≤ _
      omega
    · obtain ⟨i, hi⟩ := List.mem_iff_getElem?.1 ha
      exact (h7 i a' hi).1
    · unfold RcList
      refine ⟨_, _, rfl, ?_, by unfold RcList; rfl⟩
      unfold Rc
      refine ⟨some a, cap, by simp [h6], by simp [h6]; exact h2, fun q hq => Option.some.inj hq, fun hA => (by cases hA), fun hf => (by cases hf), fun b hb hne => ?_⟩
      injection hb with hb
      subst hb
      have hpos : 0 < l.length := by
        rcases Nat.eq_zero_or_pos l.length with e0 | e0
        · exact absurd (by simp [List.eq_nil_of_length_eq_zero e0]) hne
        · exact e0
      have hfirst : W.cell? a ≠ none := by
        obtain ⟨_, vs, h8, h9, h10⟩ := h7 0 l[0] (List.getElem?_eq_getElem hpos)
        have := h9 0 (by omega)
        have e0 : (a.add (0 * P.cellsOf e)).add 0 = a := by simp [Addr.add]
        rw [e0] at this
        rw [this, List.getElem?_eq_getElem (by omega)]
        simp
      obtain ⟨v0, hv0⟩ := Option.ne_none_iff_exists'.1 hfirst
      refine ⟨World.cell?_spot hv0, lt_of_cell hv0, els_of fun i a' ha => ⟨hl a', ?_⟩⟩
      obtain ⟨_, vs, h8, h9, h10⟩ := h7 i a' ha
      refine cells_of_list h10 fun j hj => ?_
      have := h9 j hj
      have hs := World.cell?_spot hv0
      obtain ⟨ab, ao, as⟩ := a
      dsimp only at hs
      subst hs
      simpa [Go.WideShapes.add_plain] using this
end

/-! ### Values -/
/-- An argument of type t is one of these values. -/
def OpensV (P : Program) (t : TypeId) {α : Type} (c : α → AV) (good : α → Prop) : Prop :=
  ∀ (H : Type) (enc : TypeId × Value → H) (W : World) (base b0 : Nat) (spare : Nat → Bool) (held : Bool) (v : Value) (d : DataW H) (p : List MemPlace),
    Value.okWide P W .any b0 t v → DataW.Trod enc P W base spare held t v d p → ∃ a, good a ∧ Rc W (fun b => b < W.heap.size) (c a) v
section
variable {P : Program} {t e : TypeId}
theorem RcList_single {W : World} {ok : Nat → Prop} {x : AV} {vs : List Value} (h : RcList W ok [x] vs) : ∃ v, vs = [v] ∧ Rc W ok x v := by
  unfold RcList at h
  obtain ⟨v, vs', rfl, h1, h2⟩ := h
  unfold RcList at h2
  subst h2
  exact ⟨v, rfl, h1⟩
theorem OpensV.int {k : IntKind} (ht : P.underlying t = some (.int k)) : OpensV P t (fun n : Int => .val (.int k n)) (fun n => (Lit.int k n).wf = true) := fun H enc W base b0 spare held v d p hv ⟨fuel, hd⟩ => by
  obtain ⟨n, rfl⟩ := WideShapes.okWide_int ht hv
  obtain ⟨a, h1, h2⟩ := Opens.int ht _ enc W base spare held fuel _ _ hd
  obtain ⟨u, h3, h4⟩ := RcList_single h2
  injection h3 with h3
  subst h3
  exact ⟨a, h1, h4⟩
theorem OpensV.string (ht : P.underlying t = some .string) : OpensV P t (fun s : ByteArray => .val (.string s)) (fun s => s.size ≤ 9223372036854775807) := fun H enc W base b0 spare held v d p hv ⟨fuel, hd⟩ => by
  obtain ⟨n, rfl⟩ := WideShapes.okWide_string ht hv
  obtain ⟨a, h1, h2⟩ := Opens.string ht _ enc W base spare held fuel _ _ hd
  obtain ⟨u, h3, h4⟩ := RcList_single h2
  injection h3 with h3
  subst h3
  exact ⟨a, h1, h4⟩
theorem OpensV.struct {α : Type} {c : α → List AV} {good : α → Prop} {fs : Array Field} (ht : P.underlying t = some (.struct fs)) (h : Opens P t c good) : OpensV P t (fun a => .agg (c a)) good := fun H enc W base b0 spare held v d p hv ⟨fuel, hd⟩ => by
  obtain ⟨cs, rfl, _⟩ := WideShapes.okWide_struct ht hv
  obtain ⟨a, h1, h2⟩ := h _ enc W base spare held fuel _ _ hd
  exact ⟨a, h1, by unfold Rc; exact ⟨cs, rfl, h2⟩⟩
theorem OpensV.slice {α : Type} {c : α → AV} {good : α → Prop} (ht : P.underlying t = some (.slice e)) (h : Opens P t (fun a => [c a]) good) : OpensV P t c good := fun H enc W base b0 spare held v d p hv ⟨fuel, hd⟩ => by
  obtain ⟨x, y, z, rfl⟩ := WideShapes.okWide_slice ht hv
  obtain ⟨a, h1, h2⟩ := h _ enc W base spare held fuel _ _ hd
  obtain ⟨u, h3, h4⟩ := RcList_single h2
  injection h3 with h3
  subst h3
  exact ⟨a, h1, h4⟩
end

/-! ### A law that returns true -/
section
variable {H : Type} {enc : TypeId × Value → H} {P : Program}
theorem trodAll_stays (hl : laidOutB P = true) {W W' : World} (hb : Below W.heap.size W W') : ∀ {ts : List TypeId} {vs : List Value} {ds : List (DataW H)} {ps : List MemPlace}, (ts.all fun t => P.readableRec t && Nat.blt t P.types.size) = true →
    DataW.TrodAll enc P W 0 (fun _ => true) true ts vs ds ps → DataW.TrodAll enc P W' 0 (fun b => decide (b < W.heap.size)) true ts vs ds ps
  | [], [], [], ps, _, h => h
  | t :: ts, v :: vs, d :: ds, ps, hr, h => by
    obtain ⟨p, q, h1, h2, rfl⟩ := h
    simp only [List.all_cons, Bool.and_eq_true, Nat.blt_eq] at hr
    refine ⟨p, q, hb.trod hl hr.1.1 hr.1.2 h1 fun x hx => ?_, trodAll_stays hl hb (by simpa using hr.2) h2, rfl⟩
    obtain ⟨fuel, hf⟩ := h1
    exact DataW.trod_lt fuel t _ _ hf x hx
  | [], _ :: _, _, _, _, h => h.elim
  | [], [], _ :: _, _, _, h => h.elim
  | _ :: _, [], _, _, _, h => h.elim
  | _ :: _, _ :: _, [], _, _, h => h.elim
/-- From a contract to what a row asks. -/
theorem law_true {f : FuncId} {fn : Func} {s : ChangeSpec} {apart fresh handsOn : Bool} {W : World} {args : Array Value} {ds gs : List (DataW H)} {before : List MemPlace} {tb : TypeId} {avs : List AV}
    (hl : laidOutB P = true) (hr : (fn.params.toList.all fun t => P.readableRec t && Nat.blt t P.types.size) = true) (htb : P.underlying tb = some .bool) (hres : fn.resultTypes = #[tb]) (hvars : s.vars = [])
    (hs : (s.fn H (ds ++ gs)).results = [.lit (.bool true)] ∧ (s.fn H (ds ++ gs)).args = ds ∧ (s.fn H (ds ++ gs)).vars = [])
    (hW : DataW.Whole enc P fn.params.toList s.vars apart W args.toList ds gs before)
    (hsp : Spec P f [] avs (Gives (· = .val (.bool true)))) (hav : RcList W (fun b => b < W.heap.size) avs args.toList) :
    Calls P f args W fun e W' => ∃ v, e = .returned v ∧ s.post enc P fn apart fresh handsOn false W args v W' := by
  refine (hsp W (fun _ => none) (fun b => b < W.heap.size) args (Mem.none fun _ h => h) (RList_of_Rc _ _ hav)).mono ?_
  rintro e W' ⟨rg, x, v, ρ', ok', rfl, ⟨_, rfl⟩, hm, hx, _, _, hK, _⟩
  obtain rfl := R_val hx
  have hb : Below W.heap.size W W' := ⟨hK.os, hK.tape, hK.output, hK.size, fun k hk => hK.block k hk fun ⟨r0, p0, h, _⟩ => by cases h⟩
  obtain ⟨p, q, hA, hV, hbf, hfz, hnd⟩ := id hW
  obtain ⟨h1, h2, h3⟩ := hs
  refine ⟨_, rfl, ds, gs, before, [], p, [], hW, ?_, ?_, ?_, hb.frame _, fun h => by cases h⟩
  · rw [h1, hres]
    exact Go.ChangeShapes.trodAll_mk1 ⟨1, by simp [DataW.trod, Value.cells, htb]⟩
  · rw [h2]
    exact trodAll_stays hl hb hr hA
  · rw [h3, hvars]; exact rfl
end
end Go.Proofs.Ytoickofcmngdjaa.Aw
