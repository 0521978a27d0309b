/- A logic of abstract states for walks: calls. -/
import Derived.Test.YtmkodhpbjedfkaaAwL
set_option linter.unusedVariables false
set_option linter.unusedSimpArgs false
namespace Go.Proofs.Ytmkodhpbjedfkaa.Aw
open Go.RowKit

/-! ### Maps of region numbers -/
mutual
/-- Region numbers mapped; 'none': the value is forgotten. -/
def mapA (m : Nat → Option Nat) : AV → AV
  | .hnd r off n k ex => match m r with
    | some j => .hnd j off n k ex
    | none => .any
  | .ptr r i o => match m r with
    | some j => .ptr j i o
    | none => .any
  | .fn f caps => .fn f (mapL m caps)
  | .agg cs => .agg (mapL m cs)
  | .tup cs => .tup (mapL m cs)
  | .opt c x => .opt c (mapA m x)
  | .any => .any
  | .val v => .val v
  | .imm a b c d => .imm a b c d
  | .pim cs => .pim cs
def mapL (m : Nat → Option Nat) : List AV → List AV
  | [] => []
  | x :: xs => mapA m x :: mapL m xs
end
def mapR (m : Nat → Option Nat) : Reg → Reg
  | .box e cs => .box e (mapL m cs)
  | g => g
theorem mapL_length (m : Nat → Option Nat) : ∀ xs : List AV, (mapL m xs).length = xs.length
  | [] => rfl
  | x :: xs => by simp [mapL, mapL_length m xs]
section
variable {w : World} {ok : Nat → Prop} {ρ ρ' : Nat → Option (Option Place)} {m : Nat → Option Nat}
mutual
theorem R_map (h : ∀ r j, m r = some j → ρ' j = ρ r) : ∀ (x : AV) (v : Value), R w ok ρ x v → R w ok ρ' (mapA m x) v
  | .hnd r off n k ex, v, hx => by
    unfold mapA
    split
    · rename_i j hj
      unfold R at hx ⊢
      rw [h r j hj]; exact hx
    · unfold R; trivial
  | .ptr r i o, v, hx => by
    unfold mapA
    split
    · rename_i j hj
      unfold R at hx ⊢
      rw [h r j hj]; exact hx
    · unfold R; trivial
  | .fn f caps, v, hx => by
    unfold mapA; unfold R at hx ⊢
    obtain ⟨vs, h1, h2⟩ := hx
    exact ⟨vs, h1, RList_map h _ _ h2⟩
  | .agg cs, v, hx => by
    unfold mapA; unfold R at hx ⊢
    obtain ⟨vs, h1, h2⟩ := hx
    exact ⟨vs, h1, RList_map h _ _ h2⟩
  | .tup cs, v, hx => by
    unfold mapA; unfold R at hx ⊢
    obtain ⟨vs, h1, h2⟩ := hx
    exact ⟨vs, h1, RList_map h _ _ h2⟩
  | .opt c x, v, hx => by
    unfold mapA; unfold R at hx ⊢
    exact ⟨fun hc => R_map h x v (hx.1 hc), hx.2⟩
  | .any, v, hx => by unfold mapA R; trivial
  | .val x, v, hx => by unfold mapA; unfold R at hx ⊢; exact hx
  | .imm a b c d, v, hx => by unfold mapA; unfold R at hx ⊢; exact hx
  | .pim cs, v, hx => by unfold mapA; unfold R at hx ⊢; exact hx
theorem RList_map (h : ∀ r j, m r = some j → ρ' j = ρ r) : ∀ (xs : List AV) (vs : List Value), RList w ok ρ xs vs → RList w ok ρ' (mapL m xs) vs
  | [], vs, hx => by unfold mapL; unfold RList at hx ⊢; exact hx
  | x :: xs, vs, hx => by
    unfold mapL; unfold RList at hx ⊢
    obtain ⟨v, vs', e, h1, h2⟩ := hx
    exact ⟨v, vs', e, R_map h x v h1, RList_map h xs vs' h2⟩
end
end

def mapT (m : Nat → Option Nat) : List (Nat × AV) → List (Nat × AV)
  | [] => []
  | (i, x) :: l => (i, mapA m x) :: mapT m l
theorem look_map (m : Nat → Option Nat) : ∀ (l : List (Nat × AV)) (n : Nat), look (mapT m l) n = mapA m (look l n)
  | [], n => by simp [mapT, look, mapA]
  | (i, x) :: l, n => by
    show look ((i, mapA m x) :: mapT m l) n = mapA m (look ((i, x) :: l) n)
    rw [look_cons, look_cons]
    cases (i == n)
    · simp only [cond_false]; exact look_map m l n
    · rfl

/-! ### Values lent -/
/-- A value as a callee may read it that does not own anything. -/
def borA : Nat → St → AV → AV
  | 0, _, x => bif x.shut then x else .any
  | k + 1, s, .hnd r off n _ _ => match s.reg r with
    | .arr _ sz els => .imm none false sz ((els.drop off).take n)
    | _ => .any
  | k + 1, s, .ptr r i o => match s.reg r with
    | .box _ cs => .pim ((cs.drop o).map (borA k s))
    | .arr _ _ els => .pim ((els.getD i []).drop o)
    | .dead => .any
  | k + 1, s, .fn f caps => .fn f (caps.map (borA k s))
  | k + 1, s, .agg cs => .agg (cs.map (borA k s))
  | k + 1, s, .tup cs => .tup (cs.map (borA k s))
  | k + 1, s, .opt c x => .opt c (borA k s x)
  | _, _, x => x
def allOb (p : AV → Prop) : List AV → Prop
  | [] => True
  | x :: xs => p x ∧ allOb p xs
def borOb : Nat → St → AV → Prop
  | 0, _, _ => True
  | k + 1, s, .hnd r off n _ _ => match s.reg r with
    | .arr _ _ els => off + n ≤ els.length
    | _ => True
  | k + 1, s, .ptr r i o => match s.reg r with
    | .box _ cs => i = 0 ∧ allOb (borOb k s) (cs.drop o)
    | .arr _ _ els => i < els.length
    | .dead => True
  | k + 1, s, .fn _ caps => allOb (borOb k s) caps
  | k + 1, s, .agg cs => allOb (borOb k s) cs
  | k + 1, s, .tup cs => allOb (borOb k s) cs
  | k + 1, s, .opt _ x => borOb k s x
  | _, _, _ => True

section
variable {P : Program} {E : Env} {Q : Exit → St → Prop} {s : St} {a : Act} {w : World} {ρ : Nat → Option (Option Place)} {ok : Nat → Prop}
theorem allOb_mem {p : AV → Prop} : ∀ {l : List AV}, allOb p l → ∀ x ∈ l, p x
  | [], _, x, h => by cases h
  | y :: l, h, x, hx => by
    rcases List.mem_cons.1 hx with rfl | hx
    · exact h.1
    · exact allOb_mem h.2 x hx
theorem RcList_of {ok' : Nat → Prop} {g : AV → AV} : ∀ {l : List AV} {vs : List Value}, RList w ok ρ l vs → (∀ x ∈ l, ∀ v, R w ok ρ x v → Rc w ok' (g x) v) → RcList w ok' (l.map g) vs
  | [], vs, h, _ => by unfold RList at h; subst h; unfold List.map RcList; rfl
  | x :: l, vs, h, hg => by
    unfold RList at h
    obtain ⟨v, vs', rfl, h1, h2⟩ := h
    show RcList w ok' (g x :: l.map g) (v :: vs')
    unfold RcList
    exact ⟨v, vs', rfl, hg x List.mem_cons_self v h1, RcList_of h2 fun y hy => hg y (List.mem_cons_of_mem _ hy)⟩
theorem RcCells_of {ok' : Nat → Prop} {b : Nat} : ∀ {l : List AV} {vs : List Value} (o : Nat), RcList w ok' l vs → (∀ j u, vs[j]? = some u → w.cell? ⟨b, o + j, none⟩ = some u) → RcCells w ok' b o l
  | [], vs, o, _, _ => by unfold RcCells; trivial
  | x :: l, vs, o, h, hc => by
    unfold RcList at h
    obtain ⟨v, vs', rfl, h1, h2⟩ := h
    unfold RcCells
    refine ⟨⟨v, by simpa using hc 0 v rfl, h1⟩, RcCells_of (o + 1) h2 fun j u hu => ?_⟩
    have := hc (j + 1) u (by simpa using hu)
    rw [show o + 1 + j = o + (j + 1) by omega]; exact this
theorem RcList_drop {ok' : Nat → Prop} : ∀ {l : List AV} {vs : List Value} (n : Nat), RcList w ok' l vs → RcList w ok' (l.drop n) (vs.drop n)
  | l, vs, 0, h => h
  | [], vs, n + 1, h => by unfold RcList at h; subst h; simp [RcList]
  | x :: l, vs, n + 1, h => by
    unfold RcList at h
    obtain ⟨v, vs', rfl, _, h2⟩ := h
    exact RcList_drop n h2
theorem RList_drop : ∀ {l : List AV} {vs : List Value} (n : Nat), RList w ok ρ l vs → RList w ok ρ (l.drop n) (vs.drop n)
  | l, vs, 0, h => h
  | [], vs, n + 1, h => by unfold RList at h; subst h; simp [RList]
  | x :: l, vs, n + 1, h => by
    unfold RList at h
    obtain ⟨v, vs', rfl, _, h2⟩ := h
    exact RList_drop n h2
/-- Rows of cells out of a list of cells. -/
theorem RcEls_of {ok' : Nat → Prop} {b sz : Nat} : ∀ {els : List (List AV)} {vs : List Value} (o : Nat), (∀ el ∈ els, el.length = sz) → RcList w ok' els.flatten vs → (∀ j u, vs[j]? = some u → w.cell? ⟨b, o + j, none⟩ = some u) → RcEls w ok' b sz o els
  | [], vs, o, _, _, _ => by unfold RcEls; trivial
  | el :: els, vs, o, hl, h, hc => by
    rw [List.flatten_cons] at h
    obtain ⟨us, ts, rfl, h1, h2⟩ := RcList_split h
    have he := hl el List.mem_cons_self
    have hu : us.length = sz := by rw [RcList_length h1, he]
    unfold RcEls
    refine ⟨he, RcCells_of o h1 fun j u hj => hc j u ?_, RcEls_of (o + sz) (fun x hx => hl x (List.mem_cons_of_mem _ hx)) h2 fun j u hj => ?_⟩
    · have hlt := (List.getElem?_eq_some_iff.1 hj).1
      rw [List.getElem?_append_left hlt]; exact hj
    · have := hc (sz + j) u (by rw [List.getElem?_append_right (by omega), hu, Nat.add_sub_cancel_left]; exact hj)
      rw [Nat.add_assoc]; exact this

theorem sub_els {ok' : Nat → Prop} {els : List (List AV)} {sz : Nat} {vs : List Value} (hl : ∀ el ∈ els, el.length = sz) (h : RcList w ok' els.flatten vs) (off n : Nat) :
    RcList w ok' ((els.drop off).take n).flatten ((vs.drop (off * sz)).take (((els.drop off).take n).length * sz)) ∨ els.length < off := by
  rcases Nat.lt_or_ge els.length off with h1 | h1
  · exact .inr h1
  left
  have e1 : els = els.take off ++ ((els.drop off).take n ++ (els.drop off).drop n) := by rw [List.take_append_drop, List.take_append_drop]
  rw [e1, List.flatten_append, List.flatten_append] at h
  obtain ⟨v1, v2, rfl, h2, h3⟩ := RcList_split h
  obtain ⟨v3, v4, rfl, h4, h5⟩ := RcList_split h3
  have l1 : v1.length = off * sz := by
    rw [RcList_length h2, flatten_length (fun el hm => hl el (List.mem_of_mem_take hm))]
    rw [List.length_take, Nat.min_eq_left h1]
  have l3 : v3.length = ((els.drop off).take n).length * sz := by
    rw [RcList_length h4, flatten_length (fun el hm => hl el (List.mem_of_mem_drop (List.mem_of_mem_take hm)))]
  rw [← l1, List.drop_left, ← l3, List.take_left]
  exact h4

theorem borA_ok (hr : RelM E s a w ρ ok) : ∀ (k : Nat) (x : AV) (v : Value), borOb k s x → R w ok ρ x v → Rc w (fun b => b < w.heap.size) (borA k s x) v := by
  have hrd : Reads ok w w := fun _ _ _ _ h => h
  have hall : ∀ b, ok b → b < w.heap.size := hr.mem.okl
  intro k
  induction k with
  | zero =>
    intro x v _ h
    unfold borA
    cases hs : x.shut with
    | false => simp only [cond_false]; unfold Rc; trivial
    | true => simp only [cond_true]; exact Rc_frame hrd hall _ _ (Rc_of_R x v hs h)
  | succ k ih =>
    intro x v hob h
    cases x with
    | any => unfold borA Rc; trivial
    | val y => unfold borA; exact Rc_frame hrd hall _ _ (Rc_of_R _ v rfl h)
    | imm a b c d => unfold borA; exact Rc_frame hrd hall _ _ (Rc_of_R _ v rfl h)
    | pim cs => unfold borA; exact Rc_frame hrd hall _ _ (Rc_of_R _ v rfl h)
    | fn f caps =>
      unfold borA; unfold borOb at hob; unfold R at h; unfold Rc
      obtain ⟨vs, h1, h2⟩ := h
      exact ⟨vs, h1, RcList_of h2 fun x hx v hv => ih x v (allOb_mem hob x hx) hv⟩
    | agg cs =>
      unfold borA; unfold borOb at hob; unfold R at h; unfold Rc
      obtain ⟨vs, h1, h2⟩ := h
      exact ⟨vs, h1, RcList_of h2 fun x hx v hv => ih x v (allOb_mem hob x hx) hv⟩
    | tup cs =>
      unfold borA; unfold borOb at hob; unfold R at h; unfold Rc
      obtain ⟨vs, h1, h2⟩ := h
      exact ⟨vs, h1, RcList_of h2 fun x hx v hv => ih x v (allOb_mem hob x hx) hv⟩
    | opt c x =>
      unfold borA; unfold borOb at hob; unfold R at h; unfold Rc
      exact ⟨fun hc => ih x v hob (h.1 hc), h.2⟩
    | hnd r off n k' ex =>
      unfold borA; unfold borOb at hob
      split <;> first | (unfold Rc; trivial) | skip
      rename_i e sz els hg
      rw [hg] at hob
      dsimp only at hob
      unfold R at h
      have hlen : ((els.drop off).take n).length = n := by simp; omega
      rcases hr.mem.reg r _ (reg_some hg (by simp)) with ⟨b, d, C, pre, vs, rest, h1, h2, h3, h4, h5, h6⟩ | ⟨h1, h2⟩
      · rcases h with ⟨p, cc, ad, h7, rfl, h8, h9, h10, h11, h12⟩ | ⟨h7, _⟩
        · rw [h1] at h7
          obtain rfl := by simpa using h7
          unfold Rc
          refine ⟨some ad, cc, by rw [hlen], by rw [hlen]; omega, fun q hq => (by cases hq), fun h => (by cases h), fun h => (by cases h), fun ad' had hne => ?_⟩
          injection had with had
          subst had
          have hn0 : n ≠ 0 := fun e => hne (List.eq_nil_of_length_eq_zero (by rw [hlen, e]))
          rcases h8 with h8 | rfl
          · omega
          refine ⟨rfl, (hr.mem.own r _ h1).1, ?_⟩
          rcases sub_els h5 h6 off n with h13 | h13
          · refine RcEls_of _ (fun el hm => h5 el (List.mem_of_mem_drop (List.mem_of_mem_take hm))) (RcList_frame hrd hall _ _ h13) fun j u hj => ?_
            have hjl := (List.getElem?_eq_some_iff.1 hj).1
            rw [List.length_take] at hjl
            rw [List.getElem?_take, if_pos (by omega), List.getElem?_drop] at hj
            rw [cell_of h2, ← Array.getElem?_toList, h3]
            dsimp only
            rw [List.getElem?_append_right (by omega), h4, show d + off * sz + j - d = off * sz + j by omega]
            have := (List.getElem?_eq_some_iff.1 hj).1
            rw [List.getElem?_append_left this]; exact hj
          · omega
        · rw [h1] at h7; injection h7 with h7; cases h7
      · rcases h with ⟨p, cc, ad, h7, _⟩ | ⟨h7, rfl, h8, h9, h10⟩
        · rw [h2] at h7; injection h7 with h7; cases h7
        · subst h1
          unfold Rc
          refine ⟨none, 0, by simp, by simp, fun q hq => (by cases hq), fun _ => rfl, fun h => (by cases h), fun ad' had _ => (by cases had)⟩
    | ptr r i o =>
      unfold borA; unfold borOb at hob
      unfold R at h
      obtain ⟨p, h0, rfl⟩ := h
      split
      · rename_i e cs hg
        rw [hg] at hob
        dsimp only at hob
        obtain ⟨rfl, hob⟩ := hob
        obtain ⟨b, C, h1, h2, h3⟩ := hr.mem.reg r _ (reg_some hg (by simp))
        rw [h0] at h1
        obtain rfl := by simpa using h1
        unfold Rc
        refine ⟨b, _, rfl, (hr.mem.own r _ h0).1, RcCells_of _ (RcList_of (RList_drop o h3) fun x hx v hv => ih x v (allOb_mem hob x hx) hv) fun j u hj => ?_⟩
        rw [List.getElem?_drop] at hj
        rw [cell_of h2, ← Array.getElem?_toList]
        simpa using hj
      · rename_i e sz els hg
        rw [hg] at hob
        dsimp only at hob
        rcases hr.mem.reg r _ (reg_some hg (by simp)) with ⟨b, d, C, pre, vs, rest, h1, h2, h3, h4, h5, h6⟩ | ⟨h1, h2⟩
        · rw [h0] at h1
          obtain rfl := by simpa using h1
          unfold Rc
          refine ⟨b, _, rfl, (hr.mem.own r _ h0).1, ?_⟩
          have hel : els[i]? = some (els.getD i []) := by rw [List.getD_eq_getElem?_getD, List.getElem?_eq_getElem hob]; rfl
          have hall2 := RcEls_of (b := b) d h5 (RcList_frame hrd hall _ _ h6) (fun j u hj => by
            rw [cell_of h2, ← Array.getElem?_toList, h3, List.getElem?_append_right (by omega), h4, show d + j - d = j by omega]
            have := (List.getElem?_eq_some_iff.1 hj).1
            rw [List.getElem?_append_left this]; exact hj)
          exact RcCells_drop o (RcEls_get hall2 i _ hel).2
        · rw [h0] at h2; injection h2 with h2; cases h2
      · unfold Rc; trivial
end
end Go.Proofs.Ytmkodhpbjedfkaa.Aw
