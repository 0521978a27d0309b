/- A logic of abstract states for walks: append and copy. -/
import Derived.Test.YtmkodhpbjedfkaaAwO
import Derived.Laws.Append
set_option linter.unusedVariables false
set_option linter.unusedSimpArgs false
namespace Go.Proofs.Ytmkodhpbjedfkaa.Aw
open Go.RowKit

def killM (r : Nat) : Nat → Option Nat := fun k => bif k == r then none else some k
/-- Region r has a new content, perhaps in a new place: what looked at it is forgotten. -/
def killS (s : St) (r : Nat) (g : Reg) : St := ⟨mapT (killM r) s.tm, (s.rg.map (mapR (killM r))).set r g⟩

/-- The elements of a slice that is only read. -/
def srcEls (s : St) : AV → Option (List (List AV) × Prop)
  | .imm _ _ _ els => some (els, True)
  | .hnd r off n _ _ => match s.reg r with
    | .arr _ _ els => some ((els.drop off).take n, off + n ≤ els.length)
    | _ => none
  | .val (.slice none 0 0) => some ([], True)
  | _ => none
def srcSz (s : St) : AV → Nat → Bool
  | .imm _ _ sz _, n => sz == n
  | .hnd r _ _ _ _, n => match s.reg r with
    | .arr _ sz _ => sz == n
    | _ => false
  | _, _ => true

section
variable {P : Program} {E : Env} {Q : Exit → St → Prop} {s s' : St} {a : Act} {w : World} {ρ : Nat → Option (Option Place)} {ok : Nat → Prop}

/-- A slice's cells in memory. -/
def Src (w : World) (sz n : Nat) (v : Value) (news : List Value) : Prop :=
  ∃ A c, v = .slice A n c ∧ news.length = n * sz ∧ (A = none → n = 0) ∧ ∀ ad, A = some ad → ∀ j u, news[j]? = some u → w.cell? (ad.add j) = some u

theorem RcEls_vals {b sz : Nat} : ∀ {els : List (List AV)} {o : Nat}, RcEls w ok b sz o els → ∃ us, RcList w ok els.flatten us ∧ us.length = els.length * sz ∧ ∀ j u, us[j]? = some u → w.cell? ⟨b, o + j, none⟩ = some u
  | [], o, _ => ⟨[], by simp [RcList], by simp, fun j u h => by simp at h⟩
  | el :: els, o, h => by
    unfold RcEls at h
    obtain ⟨h0, h1, h2⟩ := h
    obtain ⟨us, h3, h4, h5⟩ := RcEls_vals h2
    have cells : ∀ {xs : List AV} {o : Nat}, RcCells w ok b o xs → ∃ vs, RcList w ok xs vs ∧ ∀ j u, vs[j]? = some u → w.cell? ⟨b, o + j, none⟩ = some u := by
      intro xs
      induction xs with
      | nil => intro o _; exact ⟨[], by simp [RcList], fun j u h => by simp at h⟩
      | cons x xs ih =>
        intro o h
        unfold RcCells at h
        obtain ⟨⟨v, h1, h2⟩, h3⟩ := h
        obtain ⟨vs, h4, h5⟩ := ih h3
        refine ⟨v :: vs, by unfold RcList; exact ⟨v, vs, rfl, h2, h4⟩, fun j u hj => ?_⟩
        cases j with
        | zero => obtain rfl : v = u := by simpa using hj
                  exact h1
        | succ j =>
          have := h5 j u (by simpa using hj)
          rw [show o + (j + 1) = o + 1 + j by omega]; exact this
    obtain ⟨vs, h6, h7⟩ := cells h1
    have hl : vs.length = sz := by rw [RcList_length h6, h0]
    refine ⟨vs ++ us, by rw [List.flatten_cons]; exact RcList_append h6 h3, by simp [hl, h4, Nat.succ_mul]; omega, fun j u hj => ?_⟩
    rcases Nat.lt_or_ge j vs.length with h8 | h8
    · rw [List.getElem?_append_left h8] at hj; exact h7 j u hj
    · rw [List.getElem?_append_right h8] at hj
      have := h5 _ u hj
      rw [show o + j = o + sz + (j - vs.length) by omega]; exact this

theorem src_ok (hr : RelM E s a w ρ ok) {x : AV} {v : Value} (hx : R w ok ρ x v) {ys : List (List AV)} {ob : Prop} {sz : Nat} (h : srcEls s x = some (ys, ob)) (hsz : srcSz s x sz = true) (hob : ob) :
    ∃ news, Src w sz ys.length v news ∧ RcList w ok ys.flatten news ∧ ∀ el ∈ ys, el.length = sz := by
  unfold srcEls at h
  split at h
  · rename_i nl fu sz' els
    simp only [Option.some.injEq, Prod.mk.injEq] at h
    obtain ⟨rfl, rfl⟩ := h
    obtain rfl : sz' = sz := by simpa [srcSz] using hsz
    unfold R Rc at hx
    obtain ⟨A, c, rfl, h2, h3, h4, h5, h6⟩ := hx
    cases A with
    | none =>
      have : els = [] := List.eq_nil_of_length_eq_zero (by have := h4 rfl; omega)
      subst this
      exact ⟨[], ⟨none, c, rfl, by simp, fun _ => rfl, fun ad h => by cases h⟩, by simp [RcList], fun el h => by cases h⟩
    | some ad =>
      by_cases hne : els = []
      · subst hne
        exact ⟨[], ⟨some ad, c, rfl, by simp, fun _ => rfl, fun ad h j u hj => by simp at hj⟩, by simp [RcList], fun el h => by cases h⟩
      · obtain ⟨h7, h8, h9⟩ := h6 ad rfl hne
        obtain ⟨b, o, sp⟩ := ad
        simp only at h7 h8 h9
        subst h7
        obtain ⟨us, h10, h11, h12⟩ := RcEls_vals h9
        refine ⟨us, ⟨some ⟨b, o, none⟩, c, rfl, h11, fun h => (by cases h), fun ad had j u hj => ?_⟩, h10, fun el hm => ?_⟩
        · injection had with had
          subst had
          rw [add_plain]; exact h12 j u hj
        · obtain ⟨i, hi, rfl⟩ := List.getElem_of_mem hm
          exact (RcEls_get h9 i _ (List.getElem?_eq_getElem hi)).1
  · rename_i r off n k ex
    split at h <;> first | (cases h; done) | skip
    rename_i e sz' els hg
    simp only [Option.some.injEq, Prod.mk.injEq] at h
    obtain ⟨rfl, rfl⟩ := h
    have hsz' : sz' = sz := by simpa [srcSz, hg] using hsz
    subst hsz'
    have hlen : ((els.drop off).take n).length = n := by simp; omega
    unfold R at hx
    rcases hr.mem.reg r _ (reg_some hg (by simp)) with ⟨b, d, C, pre, vs, rest, h1, h2, h3, h4, h5, h6⟩ | ⟨h1, h2⟩
    · rcases hx with ⟨p, cc, ad, h7, rfl, h8, h9, h10, h11, h12⟩ | ⟨h7, _⟩
      · rw [h1] at h7
        obtain rfl := by simpa using h7
        rcases sub_els h5 h6 off n with h13 | h13
        · refine ⟨_, ⟨some ad, cc, by rw [hlen], ?_, fun h => (by cases h), fun ad' had j u hj => ?_⟩, h13, fun el hm => h5 el (List.mem_of_mem_drop (List.mem_of_mem_take hm))⟩
          · rw [RcList_length h13, flatten_length (fun el hm => h5 el (List.mem_of_mem_drop (List.mem_of_mem_take hm)))]
          · injection had with had
            subst had
            have hjl := (List.getElem?_eq_some_iff.1 hj).1
            rw [List.length_take, hlen] at hjl
            have hn0 : n ≠ 0 := fun e => by subst e; simp at hjl
            rcases h8 with h8 | rfl
            · omega
            rw [List.getElem?_take, if_pos (by rw [hlen]; omega), List.getElem?_drop] at hj
            rw [add_plain, cell_of h2, ← Array.getElem?_toList, h3]
            dsimp only
            rw [List.getElem?_append_right (by omega), h4, show d + off * sz' + j - d = off * sz' + j by omega]
            have := (List.getElem?_eq_some_iff.1 hj).1
            rw [List.getElem?_append_left this]; exact hj
        · omega
      · rw [h1] at h7; injection h7 with h7; cases h7
    · rcases hx with ⟨p, cc, ad, h7, _⟩ | ⟨h7, rfl, h8, h9, h10⟩
      · rw [h2] at h7; injection h7 with h7; cases h7
      · subst h1 h9
        exact ⟨[], ⟨none, 0, by simp, by simp, fun _ => by simp, fun ad h => by cases h⟩, by simp [RcList], fun el h => by simp at h⟩
  · simp only [Option.some.injEq, Prod.mk.injEq] at h
    obtain ⟨rfl, rfl⟩ := h
    obtain rfl := R_val hx
    exact ⟨[], ⟨none, 0, rfl, by simp, fun _ => rfl, fun ad h => by cases h⟩, by simp [RcList], fun el h => by cases h⟩
  · cases h

theorem run_first {sz n : Nat} {v : Value} {news : List Value} (h : Src w sz n v news) {w' : World} (he : ∀ ad j u, w.cell? (Addr.add ad j) = some u → w'.cell? (Addr.add ad j) = some u) : (Builtin.firstCells sz n v).run P w' = .ok news.toArray w' := by
  obtain ⟨A, c, rfl, h1, h2, h3⟩ := h
  cases A with
  | none =>
    have : n = 0 := h2 rfl
    subst this
    have : news = [] := List.eq_nil_of_length_eq_zero (by simpa using h1)
    subst this
    simp [Builtin.firstCells]
  | some ad =>
    have hrun : ∀ (us : List Value) (i : Nat) (acc : Array Value), (∀ j u, us[j]? = some u → w'.cell? (ad.add (i + j)) = some u) → (loadCellsFrom ad i us.length acc).run P w' = .ok (acc ++ us.toArray) w' := by
      intro us
      induction us with
      | nil => intro i acc _; simp [loadCellsFrom]
      | cons u us ih =>
        intro i acc h
        have h0 := h 0 u rfl
        have ih' := ih (i + 1) (acc.push u) fun j x hx => by
          have := h (j + 1) x (by simpa using hx)
          rw [show i + 1 + j = i + (j + 1) by omega]; exact this
        simp only [List.length_cons, loadCellsFrom]
        simp only [Nat.add_zero] at h0
        show ((load (ad.add i)).bind fun v => loadCellsFrom ad (i + 1) us.length (acc.push v)).run P w' = _
        simp only [load, Sem.bind, Sem.run, h0]
        rw [ih']; simp
    have := hrun news 0 #[] fun j u hj => by rw [Nat.zero_add]; exact he _ _ _ (h3 ad rfl j u hj)
    rw [h1] at this
    simp [Builtin.firstCells, loadCells, this]

/-- What append does: it writes behind the elements, or makes a new row. -/
theorem run_app {tx ty ty' e : TypeId} {i : TypeInfo} {z : Value} (hx : P.underlying tx = some (.slice e)) {e' : TypeId} (hy : P.underlying ty = some (.slice e')) (hi : P.info? e = some i) (hz : i.zero = some z) (hzs : z.cells.size = i.size)
    {A : Option Addr} {n c m : Nat} {olds news : List Value} {y : Value} (hold : Src w i.size n (.slice A n c) olds) (hnew : Src w i.size m y news) (hbytes : (n + m) * i.bytes ≤ 140737488355328) (h63 : n + m ≤ 9223372036854775807) :
    (n + m ≤ c ∧ (Builtin.append_ #[tx, ty] ty' #[.slice A n c, y]).run P w = (match A with
      | some ad => (storeCells (ad.add (n * i.size)) news).run P w
      | none => .ok () w).andThen fun _ w' => .ok (.slice A (n + m) c) w') ∨
    (c < n + m ∧ ∃ w' C, ∃ cap rest, (Builtin.append_ #[tx, ty] ty' #[.slice A n c, y]).run P w = .ok (.slice (some ⟨w.heap.size, 0, none⟩) (n + m) cap) w' ∧ Ext w w' ∧ w'.heap[w.heap.size]? = some (.cells C e (0, 0)) ∧ C.toList = olds ++ (news ++ rest) ∧ C.size = cap * i.size ∧ n + m ≤ cap) := by
  have hyl : ∃ B c', y = .slice B m c' := by obtain ⟨B, c', rfl, _⟩ := hnew; exact ⟨B, c', rfl⟩
  obtain ⟨B, c', rfl⟩ := hyl
  by_cases hroom : n + m ≤ c
  · left
    refine ⟨hroom, ?_⟩
    have hf := run_first (P := P) hnew (w' := w) (fun _ _ _ h => h)
    cases A with
    | none => simp [Builtin.append_, run_underlying hx, run_underlying hy, run_sizeOf hi, Builtin.lenOf, hroom, hf]
    | some ad => simp [Builtin.append_, run_underlying hx, run_underlying hy, run_sizeOf hi, Builtin.lenOf, hroom, hf]
  · right
    refine ⟨by omega, ?_⟩
    have hfit := growslice_fits (old := c) (need := n + m) (by omega) hbytes
    have hno : ¬ ((n + m : Nat) : Int) > IntKind.i64.max := by
      have : IntKind.i64.max = 9223372036854775807 := by decide
      omega
    have hno' : ¬ (Builtin.nextslicecap (n + m) c * i.bytes > 2 ^ 48) := by omega
    generalize hcap : (Question.appendCap (n + m) c e).cut (w.tape w.drawn (.appendCap (n + m) c e)) = cap
    have hle : n + m ≤ cap := by rw [← hcap]; exact Nat.le_add_right _ _
    have hfn := run_first (P := P) hnew (w' := { w with drawn := w.drawn + 1 }) (fun _ _ _ h => h)
    have hfo := run_first (P := P) hold (w' := { w with drawn := w.drawn + 1 }) (fun _ _ _ h => h)
    obtain ⟨_, _, _, hol, _⟩ := hold
    obtain ⟨_, _, _, hnl, _⟩ := hnew
    refine ⟨{ w with drawn := w.drawn + 1, heap := w.heap.push (.cells (olds.toArray ++ news.toArray ++ Builtin.zeroCells z.cells (cap - (n + m))) e) }, olds.toArray ++ news.toArray ++ Builtin.zeroCells z.cells (cap - (n + m)), cap, (Builtin.zeroCells z.cells (cap - (n + m))).toList, ?_, ⟨rfl, rfl, rfl, by simp, fun k hk => by simp [Array.getElem?_push]; omega⟩, by simp, by simp, ?_, hle⟩
    · simp only [Builtin.append_, Sem.run_bind, run_underlying hx, run_underlying hy, run_sizeOf hi, Builtin.lenOf, Sem.run_pure, Result.andThen_ok]
      simp only [List.getElem?_toArray, List.getElem?_cons_zero, List.getElem?_cons_succ, Sem.run_bind, run_underlying hx, run_underlying hy, run_sizeOf hi, Sem.run_pure, Result.andThen_ok, typeInfo, run_program, hi]
      simp only [Bool.false_eq_true, if_false, hroom, hno, hno', false_and, Sem.run_bind, Sem.run_pure, Result.andThen_ok, run_choose, Question.forced, hcap, run_askRoom, hfo, hfn, zeroValue, typeInfo, run_program, hi, hz, newRow, run_newObj]
      have hfn' : (Builtin.firstCells i.size m (.slice B m c')).run P w.drew = .ok news.toArray w.drew := hfn
      have hfo' : (Builtin.firstCells i.size n (.slice A n c)).run P w.drew = .ok olds.toArray w.drew := hfo
      simp [run_underlying hx, run_underlying hy, run_sizeOf hi, Builtin.lenOf, hroom, hno, hno', hcap, hfo', hfn', hz, hi, zeroValue, typeInfo, newRow, Question.forced]
      simp only [World.alloc, World.drew, Result.ok.injEq, true_and, World.mk.injEq, and_true]
      congr 2
      apply Array.ext'
      simp
    · simp only [Array.size_append, List.size_toArray, hol, hnl, Builtin.zeroCells, Array.size_map, Array.size_range, hzs]
      rw [← Nat.add_mul, ← Nat.add_mul]
      congr 1; omega

theorem killM_ne {r k j : Nat} (h : killM r k = some j) : j = k ∧ k ≠ r := by
  unfold killM at h
  cases hk : (k == r)
  · rw [hk] at h; simp only [cond_false, Option.some.injEq] at h; exact ⟨h.symm, by simpa using hk⟩
  · rw [hk] at h; cases h

/-- Region r gets a new content and perhaps a new place; the rest of memory stays. -/
theorem RelM.move (h : RelM E s a w ρ ok) {r : Nat} {q : Option Place} (hq : ρ r = some q) (hnp : E.pin r = none) {w' : World} {p' : Place} {g' : Reg} (hsz : w.heap.size ≤ w'.heap.size)
    (ho : w'.os = w.os) (ht : w'.tape = w.tape) (hu : w'.output = w.output) (hp' : p'.b < w'.heap.size) (hnew : q = some p' ∨ w.heap.size ≤ p'.b)
    (hb : ∀ k, k < w.heap.size → (∀ p, q = some p → p.b ≠ k) → w'.heap[k]? = w.heap[k]?)
    (hg : RegOk w' ok (fun k => if k = r then some (some p') else ρ k) r g') : RelM E (killS s r g') a w' (fun k => if k = r then some (some p') else ρ k) ok := by
  have hno : ∀ {b}, ok b → ∀ p, q = some p → p.b ≠ b := fun {b} hb' p hp e => by subst hp; exact (h.mem.own r p hq).2 (e ▸ hb')
  have hrd : Reads ok w w' := Reads.of_same fun b hb' => hb b (h.mem.okl b hb') (hno hb')
  have hrlt : r < s.rg.length := by
    rcases Nat.lt_or_ge r s.rg.length with h1 | h1
    · exact h1
    · rw [h.mem.out r h1] at hq; cases hq
  have hoth : ∀ {k p}, k ≠ r → ρ k = some (some p) → ∀ p0, q = some p0 → p0.b ≠ p.b := fun {k p} hk hp p0 hp0 e => by
    subst hp0
    exact hk (h.mem.inj _ _ _ _ hq hp e).symm
  have hkill : ∀ k j, killM r k = some j → (fun k => if k = r then some (some p') else ρ k) j = ρ k := fun k j hk => by
    obtain ⟨rfl, hne⟩ := killM_ne hk
    simp only [hne, if_false]
  have hval : ∀ x v, R w ok ρ x v → R w' ok (fun k => if k = r then some (some p') else ρ k) (mapA (killM r) x) v := fun x v hx =>
    R_map hkill _ _ (R_frame hrd (fun _ x => x) (fun _ _ x => x) _ _ hx)
  refine ⟨⟨fun b hb' => Nat.lt_of_lt_of_le (h.mem.okl b hb') hsz, fun k k' p q' h1 h2 h3 => ?_, fun k p h1 => ?_, fun k g hk => ?_, fun k hk => ?_⟩, fun n => ?_, h.siz, h.dfr, ⟨ho.trans h.kps.os, ht.trans h.kps.tape, hu.trans h.kps.output, Nat.le_trans h.kps.size hsz, fun k hk hno' => ?_⟩, Nat.le_trans h.bas hsz, fun k p h1 => ?_, h.okr, fun k p h1 => ?_⟩
  · by_cases e1 : k = r <;> by_cases e2 : k' = r <;> simp only [e1, e2, if_true, if_false] at h1 h2
    · rw [e1, e2]
    · simp only [Option.some.injEq] at h1; subst h1
      rcases hnew with rfl | h4
      · exact absurd h3 (hoth e2 h2 _ rfl)
      · have := (h.mem.own k' q' h2).1; omega
    · simp only [Option.some.injEq] at h2; subst h2
      rcases hnew with rfl | h4
      · exact absurd h3.symm (hoth e1 h1 _ rfl)
      · have := (h.mem.own k p h1).1; omega
    · exact h.mem.inj k k' p q' h1 h2 h3
  · by_cases e1 : k = r <;> simp only [e1, if_true, if_false] at h1
    · simp only [Option.some.injEq] at h1; subst h1
      refine ⟨hp', fun hk => ?_⟩
      rcases hnew with rfl | h4
      · exact (h.mem.own r _ hq).2 hk
      · have := h.mem.okl _ hk; omega
    · exact ⟨Nat.lt_of_lt_of_le (h.mem.own k p h1).1 hsz, (h.mem.own k p h1).2⟩
  · by_cases e1 : k = r
    · subst e1
      rw [killS, List.getElem?_set] at hk
      simp only [if_true, List.length_map, hrlt] at hk
      obtain rfl : g' = g := by simpa using hk
      exact hg
    · rw [killS, List.getElem?_set_ne (Ne.symm e1), List.getElem?_map, Option.map_eq_some_iff] at hk
      obtain ⟨g0, hg0, rfl⟩ := hk
      have h0 := h.mem.reg k g0 hg0
      cases g0 with
      | dead => show (if k = r then _ else ρ k) = none; rw [if_neg e1]; exact h0
      | box e cs =>
        obtain ⟨b, C, h1, h2, h3⟩ := h0
        refine ⟨b, C, ?_, ?_, ?_⟩
        · show (if k = r then _ else ρ k) = _
          rw [if_neg e1, mapL_length]; exact h1
        · rw [hb b (h.mem.own _ _ h1).1 (hoth e1 h1)]; exact h2
        · exact RList_map hkill _ _ (RList_frame hrd (fun _ x => x) (fun _ _ x => x) _ _ h3)
      | arr e sz els =>
        rcases h0 with ⟨b, d, C, pre, vs, rest, h1, h2, h3, h4, h5, h6⟩ | ⟨h1, h2⟩
        · exact .inl ⟨b, d, C, pre, vs, rest, by (show (if k = r then _ else ρ k) = _); rw [if_neg e1]; exact h1, by rw [hb b (h.mem.own _ _ h1).1 (hoth e1 h1)]; exact h2, h3, h4, h5, RcList_frame hrd (fun _ x => x) _ _ h6⟩
        · exact .inr ⟨h1, by (show (if k = r then _ else ρ k) = _); rw [if_neg e1]; exact h2⟩
  · have : s.rg.length ≤ k := by simpa [killS] using hk
    show (if k = r then _ else ρ k) = none
    rw [if_neg (by omega)]; exact h.mem.out k this
  · show R w' ok _ (look (mapT (killM r) s.tm) n) _
    rw [look_map]; exact hval _ _ (h.tm n)
  · rw [hb k (Nat.lt_of_lt_of_le hk h.bas) fun p hp e => ?_]
    · exact h.kps.block k hk hno'
    · subst hp
      rcases h.ownr r p hq with h1 | h1
      · omega
      · exact hno' (e ▸ h1)
  · by_cases e1 : k = r <;> simp only [e1, if_true, if_false] at h1
    · simp only [Option.some.injEq] at h1; subst h1
      rcases hnew with rfl | h4
      · exact h.ownr r _ hq
      · left; have := h.bas; omega
    · exact h.ownr k p h1
  · by_cases e1 : k = r
    · subst e1; rw [hnp] at h1; cases h1
    · show (if k = r then _ else ρ k) = _
      rw [if_neg e1]; exact h.pin k p h1

theorem cellish_all : ∀ {xs : List AV} {vs : List Value}, (∀ x ∈ xs, cellish x = true) → RcList w ok xs vs → ∀ u ∈ vs, u.oneCell' = true
  | [], vs, _, h, u, hu => by unfold RcList at h; subst h; cases hu
  | x :: xs, vs, hc, h, u, hu => by
    unfold RcList at h
    obtain ⟨v, vs', rfl, h1, h2⟩ := h
    rcases List.mem_cons.1 hu with rfl | hu
    · exact (cellish_one (ρ := fun _ => none) (hc x List.mem_cons_self) (R_of_Rc _ _ h1)).1
    · exact cellish_all (fun y hy => hc y (List.mem_cons_of_mem _ hy)) h2 u hu

/-- append to an array of the call's own, behind its last element. -/
theorem snd_app (hr : RelM E s a w ρ ok) {tx ty ty' e : TypeId} {i : TypeInfo} {zv : Value} (hx : P.underlying tx = some (.slice e)) {e' : TypeId} (hy : P.underlying ty = some (.slice e')) (hi : P.info? e = some i) (hz : i.zero = some zv) (hzs : zv.cells.size = i.size)
    {r n k : Nat} {ex : Bool} {vx vy : Value} (hvx : R w ok ρ (.hnd r 0 n k ex) vx) {ay : AV} (hvy : R w ok ρ ay vy) {e'' : TypeId} {els ys : List (List AV)} {ob : Prop} (hg : s.reg r = .arr e'' i.size els) (he : e'' = e) (hn : n = els.length) (hnp : E.pin r = none)
    (hs : srcEls s ay = some (ys, ob)) (hsz : srcSz s ay i.size = true) (hob : ob) (hcell : ∀ el ∈ ys, ∀ x ∈ el, cellish x = true)
    (hbytes : (n + ys.length) * i.bytes ≤ 140737488355328) (h63 : n + ys.length ≤ 9223372036854775807) :
    ∃ v w' ρ', (Builtin.append_ #[tx, ty] ty' #[vx, vy]).run P w = .ok v w' ∧ RelM E (killS s r (.arr e i.size (els ++ ys))) a w' ρ' ok ∧ R w' ok ρ' (.hnd r 0 (n + ys.length) (n + ys.length) false) v := by
  subst he hn
  obtain ⟨news, hsrc, hnews, hyl⟩ := src_ok hr hvy hs hsz hob
  have hnl : news.length = ys.length * i.size := by rw [RcList_length hnews, flatten_length hyl]
  have hall : ∀ el ∈ els ++ ys, el.length = i.size → el.length = i.size := fun _ _ h => h
  unfold R at hvx
  rcases hr.mem.reg r _ (reg_some hg (by simp)) with ⟨b, d, C, pre, vs, rest, h1, h2, h3, h4, h5, h6⟩ | ⟨h1, h2⟩
  · rcases hvx with ⟨p, cc, ad, h7, rfl, h8, h9, h10, h11, h12⟩ | ⟨h7, _⟩
    · rw [h1] at h7
      obtain rfl := by simpa using h7
      dsimp only at h8 h11
      have hvl : vs.length = els.length * i.size := by rw [RcList_length h6, flatten_length h5]
      have hold : Src w i.size els.length (.slice (some ad) els.length cc) vs := by
        refine ⟨some ad, cc, rfl, hvl, fun h => (by cases h), fun ad' had j u hj => ?_⟩
        injection had with had
        subst had
        have hjl := (List.getElem?_eq_some_iff.1 hj).1
        have hn0 : els.length ≠ 0 := fun e => by rw [hvl, e] at hjl; simp at hjl
        rcases h8 with h8 | rfl
        · omega
        rw [add_plain, cell_of h2, ← Array.getElem?_toList, h3, Nat.zero_mul, Nat.add_zero, List.getElem?_append_right (by omega), h4, show d + j - d = j by omega, List.getElem?_append_left hjl]
        exact hj
      have hls : ∀ el ∈ els ++ ys, el.length = i.size := fun el hm => by
        rcases List.mem_append.1 hm with hm | hm
        · exact h5 el hm
        · exact hyl el hm
      rcases run_app (ty' := ty') hx hy hi hz hzs hold hsrc hbytes h63 with ⟨hroom, hrun⟩ | ⟨hfull, w', C', cap, rest', hrun, hext, hblk, hC', hcs, hcap⟩
      · -- there is room
        have hadr : (els.length + ys.length = 0) ∨ ad = ⟨b, d + 0 * i.size, none⟩ := by
          rcases h8 with h8 | h8
          · left; omega
          · exact .inr h8
        rcases hadr with h0 | hadr
        · -- nothing at all
          have e1 : els = [] := List.eq_nil_of_length_eq_zero (by omega)
          have e2 : ys = [] := List.eq_nil_of_length_eq_zero (by omega)
          subst e1 e2
          have e3 : news = [] := List.eq_nil_of_length_eq_zero (by simpa using hnl)
          subst e3
          refine ⟨.slice (some ad) 0 cc, w, (fun k => if k = r then some (some ⟨b, d, i.size, C.size⟩) else ρ k), ?_, ?_, ?_⟩
          · rw [hrun]; simp [storeCells]
          · refine hr.move h1 hnp (Nat.le_refl _) rfl rfl rfl (hr.mem.own r _ h1).1 (.inl rfl) (fun _ _ _ => rfl) (.inl ⟨b, d, C, pre, vs, rest, by simp, h2, h3, h4, by simp, by simpa using h6⟩)
          · unfold R; exact .inl ⟨⟨b, d, i.size, C.size⟩, cc, ad, if_pos rfl, rfl, h8, Nat.le_refl _, Nat.zero_le _, h11, fun h => by cases h⟩
        · subst hadr
          rw [Nat.zero_mul, Nat.add_zero] at hrun h8
          have hCs : C.size = d + (vs.length + rest.length) := by
            have := congrArg List.length h3
            simp [h4] at this; omega
          have hfits : d + els.length * i.size + news.length ≤ C.size := by
            rw [hnl]
            have := Nat.mul_le_mul_right i.size hroom
            rw [Nat.add_mul] at this
            rw [Nat.zero_add] at h11
            omega
          obtain ⟨w', C', h13, h14, h15, h16, h17, h18, h19, h20⟩ := run_storeCells (P := P) (b := b) (o := d + els.length * i.size) news 0 w C h2 (by rw [Nat.add_zero]; exact hfits) (cellish_all (fun x hx => by
            obtain ⟨el, he, hx⟩ := List.mem_flatten.1 hx
            exact hcell el he x hx) hnews)
          have hC's : C'.size = C.size := by
            have h21 := congrArg List.length h15
            have e1 : C.toList.length = C.size := by simp
            have e2 : C'.toList.length = C'.size := by simp
            rw [List.length_append, List.length_append, List.length_take, List.length_drop, e1, e2, Nat.min_eq_left (by omega)] at h21
            omega
          have hrd : Reads ok w w' := Reads.of_same fun b' hb' => h16 b' fun e => (hr.mem.own r _ h1).2 (e ▸ hb')
          refine ⟨.slice (some ⟨b, d, none⟩) (els.length + ys.length) cc, w', (fun k => if k = r then some (some ⟨b, d, i.size, C.size⟩) else ρ k), ?_, ?_, ?_⟩
          · rw [show d + 0 * i.size = d by omega, hrun]
            simp only [add_plain]
            rw [h13]; rfl
          · refine hr.move h1 hnp (by rw [h17]; exact Nat.le_refl _) h18 h19 h20 (by rw [h17]; exact (hr.mem.own r _ h1).1) (.inl rfl) (fun k hk hne => h16 k fun e => hne _ rfl e.symm) (.inl ⟨b, d, C', pre, vs ++ news, rest.drop news.length, by simp [hC's], h14, ?_, h4, hls, ?_⟩)
            · rw [h15, h3, Nat.add_zero, show d + els.length * i.size = pre.length + vs.length by omega, List.take_length_add_append, Nat.add_assoc, List.drop_length_add_append, List.take_left, List.drop_length_add_append]
              simp
            · rw [List.flatten_append]
              exact RcList_append (RcList_frame hrd (fun _ x => x) _ _ h6) (RcList_frame hrd (fun _ x => x) _ _ hnews)
          · unfold R; exact .inl ⟨⟨b, d, i.size, C.size⟩, cc, _, if_pos rfl, rfl, .inr (by simp), Nat.le_refl _, hroom, h11, fun h => by cases h⟩
      · -- a new row
        have hrd : Reads ok w w' := hext.reads hr.mem.okl
        refine ⟨_, w', (fun k => if k = r then some (some ⟨w.heap.size, 0, i.size, C'.size⟩) else ρ k), hrun, ?_, ?_⟩
        · refine hr.move h1 hnp hext.size hext.os hext.tape hext.output (Array.getElem?_eq_some_iff.1 hblk).1 (.inr (Nat.le_refl _)) (fun k hk _ => hext.block k hk) (.inl ⟨w.heap.size, 0, C', [], vs ++ news, rest', by simp, hblk, by simp [hC'], rfl, hls, ?_⟩)
          rw [List.flatten_append]
          exact RcList_append (RcList_frame hrd (fun _ x => x) _ _ h6) (RcList_frame hrd (fun _ x => x) _ _ hnews)
        · unfold R; exact .inl ⟨⟨w.heap.size, 0, i.size, C'.size⟩, cap, _, if_pos rfl, rfl, .inr (by simp), Nat.le_refl _, hcap, by simp [hcs], fun h => by cases h⟩
    · rw [h1] at h7; injection h7 with h7; cases h7
  · rcases hvx with ⟨p, cc, ad, h7, _⟩ | ⟨h7, rfl, h8, h9, h10⟩
    · rw [h2] at h7; injection h7 with h7; cases h7
    · subst h1
      have hold : Src w i.size 0 (.slice none 0 0) [] := ⟨none, 0, rfl, by simp, fun _ => rfl, fun ad h => by cases h⟩
      rcases run_app (ty' := ty') hx hy hi hz hzs hold hsrc (by simpa using hbytes) (by simpa using h63) with ⟨hroom, hrun⟩ | ⟨hfull, w', C', cap, rest', hrun, hext, hblk, hC', hcs, hcap⟩
      · have e2 : ys = [] := List.eq_nil_of_length_eq_zero (by omega)
        subst e2
        refine ⟨.slice none 0 0, w, ρ, ?_, ?_, ?_⟩
        · rw [hrun]; rfl
        · -- nothing has happened
          have hkill : ∀ k j, killM r k = some j → ρ j = ρ k := fun k j hk => by rw [(killM_ne hk).1]
          have hrlt : r < s.rg.length := (List.getElem?_eq_some_iff.1 (reg_some hg (by simp))).1
          refine ⟨⟨hr.mem.okl, hr.mem.inj, hr.mem.own, fun k g hk => ?_, fun k hk => hr.mem.out k (by simpa [killS] using hk)⟩, fun n => ?_, hr.siz, hr.dfr, hr.kps, hr.bas, hr.ownr, hr.okr, hr.pin⟩
          · by_cases e1 : k = r
            · subst e1
              rw [killS, List.getElem?_set] at hk
              simp only [if_true, List.length_map, hrlt] at hk
              obtain rfl := Option.some.inj hk
              exact .inr ⟨rfl, h2⟩
            · rw [killS, List.getElem?_set_ne (Ne.symm e1), List.getElem?_map, Option.map_eq_some_iff] at hk
              obtain ⟨g0, hg0, rfl⟩ := hk
              exact RegOk_map (fun _ x => x) hkill rfl (hr.mem.reg k g0 hg0)
          · show R w ok ρ (look (mapT (killM r) s.tm) n) _
            rw [look_map]; exact R_map hkill _ _ (hr.tm n)
        · unfold R; exact .inr ⟨h2, rfl, rfl, rfl, rfl⟩
      · have hrd : Reads ok w w' := hext.reads hr.mem.okl
        refine ⟨_, w', (fun k => if k = r then some (some ⟨w.heap.size, 0, i.size, C'.size⟩) else ρ k), hrun, ?_, ?_⟩
        · refine hr.move h2 hnp hext.size hext.os hext.tape hext.output (Array.getElem?_eq_some_iff.1 hblk).1 (.inr (Nat.le_refl _)) (fun k hk _ => hext.block k hk) (.inl ⟨w.heap.size, 0, C', [], news, rest', by simp, hblk, by simpa using hC', rfl, by simpa using hyl, ?_⟩)
          simpa using RcList_frame hrd (fun _ x => x) _ _ hnews
        · unfold R; exact .inl ⟨⟨w.heap.size, 0, i.size, C'.size⟩, cap, ⟨w.heap.size, 0, none⟩, if_pos rfl, rfl, .inr (by simp), Nat.le_refl _, hcap, by simp [hcs], fun h => by cases h⟩
end
end Go.Proofs.Ytmkodhpbjedfkaa.Aw
