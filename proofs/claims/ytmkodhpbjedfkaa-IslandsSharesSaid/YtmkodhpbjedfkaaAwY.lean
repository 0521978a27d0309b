/- A logic of abstract states for walks: an array that nobody writes any more is shared. -/
import Derived.Test.YtmkodhpbjedfkaaAwX
set_option linter.unusedVariables false
set_option linter.unusedSimpArgs false
namespace Go.Proofs.Ytmkodhpbjedfkaa.Aw
open Go.RowKit

mutual
/-- Handles on region r become slices that are only read. -/
def frzA (r sz : Nat) (els : List (List AV)) : AV → AV
  | .hnd r' off n k ex => bif r' == r then .imm none (ex && k == n) sz ((els.drop off).take n) else .hnd r' off n k ex
  | .ptr r' i o => bif r' == r then .any else .ptr r' i o
  | .fn f caps => .fn f (frzL r sz els caps)
  | .agg cs => .agg (frzL r sz els cs)
  | .tup cs => .tup (frzL r sz els cs)
  | .opt c x => .opt c (frzA r sz els x)
  | .any => .any
  | .val v => .val v
  | .imm a b c d => .imm a b c d
  | .pim cs => .pim cs
def frzL (r sz : Nat) (els : List (List AV)) : List AV → List AV
  | [] => []
  | x :: xs => frzA r sz els x :: frzL r sz els xs
end
mutual
def frzO (r len : Nat) : AV → Prop
  | .hnd r' off n _ _ => r' = r → off + n ≤ len
  | .fn _ caps => frzOL r len caps
  | .agg cs => frzOL r len cs
  | .tup cs => frzOL r len cs
  | .opt _ x => frzO r len x
  | _ => True
def frzOL (r len : Nat) : List AV → Prop
  | [] => True
  | x :: xs => frzO r len x ∧ frzOL r len xs
end
def frzR (r sz : Nat) (els : List (List AV)) : Reg → Reg
  | .box e cs => .box e (frzL r sz els cs)
  | g => g
def frzT (r sz : Nat) (els : List (List AV)) : List (Nat × AV) → List (Nat × AV)
  | [] => []
  | (i, x) :: l => (i, frzA r sz els x) :: frzT r sz els l
def frzOT (r len : Nat) : List (Nat × AV) → Prop
  | [] => True
  | (_, x) :: l => frzO r len x ∧ frzOT r len l
def frzOR (r len : Nat) : List Reg → Prop
  | [] => True
  | .box _ cs :: l => frzOL r len cs ∧ frzOR r len l
  | _ :: l => frzOR r len l
def frzS (r sz : Nat) (els : List (List AV)) (s : St) : St := ⟨frzT r sz els s.tm, (s.rg.map (frzR r sz els)).set r .dead⟩

section
variable {E : Env} {s : St} {a : Act} {w : World} {ρ : Nat → Option (Option Place)} {ok : Nat → Prop}
theorem frzL_length (r sz : Nat) (els : List (List AV)) : ∀ xs : List AV, (frzL r sz els xs).length = xs.length
  | [] => rfl
  | x :: xs => by simp [frzL, frzL_length r sz els xs]
theorem look_frz (r sz : Nat) (els : List (List AV)) : ∀ (l : List (Nat × AV)) (n : Nat), look (frzT r sz els l) n = frzA r sz els (look l n)
  | [], n => by simp [frzT, look, frzA]
  | (i, x) :: l, n => by
    unfold frzT look
    cases (i == n)
    · simp only [cond_false]; exact look_frz r sz els l n
    · rfl
theorem frzOT_look {r len : Nat} : ∀ {l : List (Nat × AV)} (n : Nat), frzOT r len l → frzO r len (look l n)
  | [], n, _ => by unfold look frzO; trivial
  | (i, x) :: l, n, h => by
    unfold look
    cases (i == n)
    · simp only [cond_false]; exact frzOT_look n h.2
    · exact h.1
theorem frzOR_get {r len : Nat} : ∀ {l : List Reg} {k : Nat} {e : TypeId} {cs : List AV}, frzOR r len l → l[k]? = some (.box e cs) → frzOL r len cs
  | [], k, e, cs, _, h => by simp at h
  | g :: l, 0, e, cs, h, hk => by
    simp only [List.getElem?_cons_zero, Option.some.injEq] at hk
    subst hk; exact h.1
  | g :: l, k + 1, e, cs, h, hk => by
    have hk' : l[k]? = some (.box e cs) := by simpa using hk
    cases g with
    | box => exact frzOR_get h.2 hk'
    | arr => exact frzOR_get (l := l) h hk'
    | dead => exact frzOR_get (l := l) h hk'

theorem hnd_imm {r off n k : Nat} {ex : Bool} {e : TypeId} {sz : Nat} {els : List (List AV)} {v : Value} {ok' : Nat → Prop} (hg : RegOk w ok ρ r (.arr e sz els)) (hk : ∀ b, ok b → ok' b) (hb : ∀ p, ρ r = some (some p) → ok' p.b)
    (h : R w ok ρ (.hnd r off n k ex) v) (hob : off + n ≤ els.length) : Rc w ok' (.imm none (ex && k == n) sz ((els.drop off).take n)) v := by
  have hrd : Reads ok w w := fun _ _ _ _ h => h
  have hlen : ((els.drop off).take n).length = n := by simp; omega
  unfold R at h
  rcases hg with ⟨b, d, C, pre, vs, rest, h1, h2, h3, h4, h5, h6⟩ | ⟨h1, h2⟩
  · rcases h with ⟨p, cc, ad, h7, rfl, h8, h9, h10, h11, h12⟩ | ⟨h7, _⟩
    · rw [h1] at h7
      obtain rfl := by simpa using h7
      unfold Rc
      refine ⟨some ad, cc, by rw [hlen], by rw [hlen]; omega, fun q hq => (by cases hq), fun h => (by cases h), fun h => ?_, fun ad' had hne => ?_⟩
      · simp only [Bool.and_eq_true, beq_iff_eq] at h
        rw [hlen, h12 h.1, h.2]
      injection had with had
      subst had
      have hn0 : n ≠ 0 := fun e => hne (List.eq_nil_of_length_eq_zero (by rw [hlen, e]))
      rcases h8 with h8 | rfl
      · omega
      refine ⟨rfl, hb _ h1, ?_⟩
      rcases sub_els h5 h6 off n with h13 | h13
      · refine RcEls_of _ (fun el hm => h5 el (List.mem_of_mem_drop (List.mem_of_mem_take hm))) (RcList_frame hrd hk _ _ h13) fun j u hj => ?_
        have hjl := (List.getElem?_eq_some_iff.1 hj).1
        rw [List.length_take] at hjl
        rw [List.getElem?_take, if_pos (by omega), List.getElem?_drop] at hj
        rw [cell_of h2, ← Array.getElem?_toList, h3]
        dsimp only
        rw [List.getElem?_append_right (by omega), h4, show d + off * sz + j - d = off * sz + j by omega]
        have := (List.getElem?_eq_some_iff.1 hj).1
        rw [List.getElem?_append_left this]; exact hj
      · omega
    · rw [h1] at h7; injection h7 with h7; cases h7
  · rcases h with ⟨p, cc, ad, h7, _⟩ | ⟨h7, rfl, h8, h9, h10⟩
    · rw [h2] at h7; injection h7 with h7; cases h7
    · subst h1
      unfold Rc
      subst h9
      refine ⟨none, 0, by simp, by simp, fun q hq => (by cases hq), fun _ => rfl, fun h => (by simp), fun ad' had _ => (by cases had)⟩
variable {r sz : Nat} {e : TypeId} {els : List (List AV)} {ok' : Nat → Prop}
mutual
theorem R_frz (hg : RegOk w ok ρ r (.arr e sz els)) (hk : ∀ b, ok b → ok' b) (hb : ∀ p, ρ r = some (some p) → ok' p.b) : ∀ (x : AV) (v : Value), frzO r els.length x → R w ok ρ x v → R w ok' (fun k => if k = r then none else ρ k) (frzA r sz els x) v
  | .hnd r' off n k ex, v, ho, h => by
    unfold frzA
    cases hr : (r' == r) with
    | true =>
      obtain rfl : r' = r := by simpa using hr
      simp only [cond_true]
      unfold frzO at ho
      exact R_of_Rc _ _ (hnd_imm hg hk hb h (ho rfl))
    | false =>
      have hne : r' ≠ r := by simpa using hr
      simp only [cond_false]
      unfold R at h ⊢
      simp only [hne, if_false]
      exact h
  | .ptr r' i o, v, ho, h => by
    unfold frzA
    cases hr : (r' == r) with
    | true => simp only [cond_true]; unfold R; trivial
    | false =>
      have hne : r' ≠ r := by simpa using hr
      simp only [cond_false]
      unfold R at h ⊢
      simp only [hne, if_false]
      exact h
  | .fn f caps, v, ho, h => by
    unfold frzA; unfold frzO at ho; unfold R at h ⊢
    obtain ⟨vs, h1, h2⟩ := h
    exact ⟨vs, h1, RList_frz hg hk hb _ _ ho h2⟩
  | .agg cs, v, ho, h => by
    unfold frzA; unfold frzO at ho; unfold R at h ⊢
    obtain ⟨vs, h1, h2⟩ := h
    exact ⟨vs, h1, RList_frz hg hk hb _ _ ho h2⟩
  | .tup cs, v, ho, h => by
    unfold frzA; unfold frzO at ho; unfold R at h ⊢
    obtain ⟨vs, h1, h2⟩ := h
    exact ⟨vs, h1, RList_frz hg hk hb _ _ ho h2⟩
  | .opt c x, v, ho, h => by
    unfold frzA; unfold frzO at ho; unfold R at h ⊢
    exact ⟨fun hc => R_frz hg hk hb x v ho (h.1 hc), h.2⟩
  | .any, v, _, h => by unfold frzA R; trivial
  | .val x, v, _, h => by unfold frzA; unfold R at h ⊢; exact h
  | .imm a b c d, v, _, h => by
    unfold frzA; unfold R at h ⊢
    exact Rc_frame (fun _ _ _ _ h => h) hk _ _ h
  | .pim cs, v, _, h => by
    unfold frzA; unfold R at h ⊢
    exact Rc_frame (fun _ _ _ _ h => h) hk _ _ h
theorem RList_frz (hg : RegOk w ok ρ r (.arr e sz els)) (hk : ∀ b, ok b → ok' b) (hb : ∀ p, ρ r = some (some p) → ok' p.b) : ∀ (xs : List AV) (vs : List Value), frzOL r els.length xs → RList w ok ρ xs vs → RList w ok' (fun k => if k = r then none else ρ k) (frzL r sz els xs) vs
  | [], vs, _, h => by unfold frzL; unfold RList at h ⊢; exact h
  | x :: xs, vs, ho, h => by
    unfold frzL; unfold RList at h ⊢; unfold frzOL at ho
    obtain ⟨v, vs', e1, h1, h2⟩ := h
    exact ⟨v, vs', e1, R_frz hg hk hb x v ho.1 h1, RList_frz hg hk hb xs vs' ho.2 h2⟩
end
/-- Nobody writes region r any more: it is shared. -/
theorem weak_freeze (r : Nat) {e : TypeId} {sz : Nat} {els : List (List AV)} (hg : s.reg r = .arr e sz els) (hp : E.pin r = none) (hob : frzOT r els.length s.tm ∧ frzOR r els.length s.rg) : Weak E s (frzS r sz els s) := fun a w ⟨ρ, ok, hr⟩ => by
  have hreg := hr.mem.reg r _ (reg_some hg (by simp))
  have hrlt : r < s.rg.length := (List.getElem?_eq_some_iff.1 (reg_some hg (by simp))).1
  let ok' : Nat → Prop := fun b => ok b ∨ ∃ p, ρ r = some (some p) ∧ p.b = b
  have hk : ∀ b, ok b → ok' b := fun b h => .inl h
  have hb : ∀ p, ρ r = some (some p) → ok' p.b := fun p h => .inr ⟨p, h, rfl⟩
  have hne : ∀ {k q}, (fun k => if k = r then none else ρ k) k = some q → k ≠ r ∧ ρ k = some q := fun {k q} h => by
    dsimp only at h
    split at h
    · cases h
    · exact ⟨by assumption, h⟩
  refine ⟨fun k => if k = r then none else ρ k, ok', ⟨fun b h => ?_, fun k k' p p' h1 h2 h3 => ?_, fun k p h => ?_, fun k g hk' => ?_, fun k hk' => ?_⟩, fun n => ?_, hr.siz, hr.dfr, hr.kps, hr.bas, fun k p h => hr.ownr k p (hne h).2, fun b h => ?_, fun k p h => ?_⟩
  · rcases h with h | ⟨p, h1, rfl⟩
    · exact hr.mem.okl b h
    · exact (hr.mem.own r p h1).1
  · exact hr.mem.inj k k' p p' (hne h1).2 (hne h2).2 h3
  · obtain ⟨h1, h2⟩ := hne h
    refine ⟨(hr.mem.own k p h2).1, fun h3 => ?_⟩
    rcases h3 with h3 | ⟨q, h3, h4⟩
    · exact (hr.mem.own k p h2).2 h3
    · exact h1 (hr.mem.inj k r p q h2 h3 h4.symm)
  · by_cases e1 : k = r
    · subst e1
      rw [frzS, List.getElem?_set] at hk'
      simp only [if_true, List.length_map, hrlt] at hk'
      obtain rfl := Option.some.inj hk'
      exact if_pos rfl
    · rw [frzS, List.getElem?_set_ne (Ne.symm e1), List.getElem?_map, Option.map_eq_some_iff] at hk'
      obtain ⟨g0, hg0, rfl⟩ := hk'
      have h0 := hr.mem.reg k g0 hg0
      have hρ : (fun k => if k = r then none else ρ k) k = ρ k := if_neg e1
      cases g0 with
      | dead => exact hρ.trans h0
      | box e' cs =>
        obtain ⟨b, C, h1, h2, h3⟩ := h0
        exact ⟨b, C, by rw [hρ, frzL_length]; exact h1, h2, RList_frz hreg hk hb _ _ (frzOR_get hob.2 hg0) h3⟩
      | arr e' sz' els' =>
        rcases h0 with ⟨b, d, C, pre, vs, rest, h1, h2, h3, h4, h5, h6⟩ | ⟨h1, h2⟩
        · exact .inl ⟨b, d, C, pre, vs, rest, hρ.trans h1, h2, h3, h4, h5, RcList_frame (fun _ _ _ _ h => h) hk _ _ h6⟩
        · exact .inr ⟨h1, hρ.trans h2⟩
  · have hlen : s.rg.length ≤ k := by simpa [frzS] using hk'
    show (if k = r then none else ρ k) = none
    rw [if_neg (by omega)]
    exact hr.mem.out k hlen
  · show R w ok' _ (look (frzT r sz els s.tm) n) _
    rw [look_frz]
    exact R_frz hreg hk hb _ _ (frzOT_look n hob.1) (hr.tm n)
  · rcases h with h | ⟨p, h1, rfl⟩
    · exact hr.okr b h
    · exact .inr (hr.ownr r p h1)
  · have h1 := hr.pin k p h
    have h2 : k ≠ r := fun e1 => by rw [e1, hp] at h; cases h
    show (if k = r then none else ρ k) = _
    rw [if_neg h2]; exact h1
end
end Go.Proofs.Ytmkodhpbjedfkaa.Aw
