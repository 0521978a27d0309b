/- A logic of abstract states for walks: what an operation does to a state is what it does. Part 2. -/
import Derived.Test.YtmkodhpbjedfkaaAwD
set_option linter.unusedVariables false
set_option linter.unusedSimpArgs false
namespace Go.Proofs.Ytmkodhpbjedfkaa.Aw
open Go.RowKit

section
variable {P : Program} {E : Env} {s s' : St} {a : Act} {w : World} {ρ : Nat → Option (Option Place)} {ok : Nat → Prop} {ev : Opd → AV} {z : AV}

/-! #### Stores -/
theorem cellish_one {x : AV} {v : Value} (h : cellish x = true) (hx : R w ok ρ x v) : v.oneCell' = true ∧ x.cells = [x] ∧ v.cells = #[v] := by
  cases x with
  | val y =>
    obtain rfl := R_val hx
    cases v <;> first | exact ⟨rfl, rfl, rfl⟩ | (simp [cellish] at h)
  | imm => unfold R Rc at hx; obtain ⟨A, c, rfl, _⟩ := hx; exact ⟨rfl, rfl, rfl⟩
  | pim => unfold R Rc at hx; obtain ⟨b, o, rfl, _⟩ := hx; exact ⟨rfl, rfl, rfl⟩
  | hnd => unfold R at hx; rcases hx with ⟨p, cc, ad, _, rfl, _⟩ | ⟨_, rfl, _⟩ <;> exact ⟨rfl, rfl, rfl⟩
  | ptr => unfold R at hx; obtain ⟨p, _, rfl⟩ := hx; exact ⟨rfl, rfl, rfl⟩
  | fn => unfold R at hx; obtain ⟨vs, rfl, _⟩ := hx; exact ⟨rfl, rfl, rfl⟩
  | any => simp [cellish] at h
  | agg => simp [cellish] at h
  | tup => simp [cellish] at h
  | opt => simp [cellish] at h

theorem cells_ok {x : AV} {v : Value} (hf : firm x) (hx : R w ok ρ x v) : RList w ok ρ x.cells v.cells.toList := by
  have one : ∀ {y : AV} {u : Value}, R w ok ρ y u → RList w ok ρ [y] [u] := fun h => by
    unfold RList; exact ⟨_, [], rfl, h, by unfold RList; rfl⟩
  cases x with
  | agg cs => obtain ⟨vs, rfl, h⟩ := R_agg hx; exact h
  | val y =>
    have hx' := hx
    obtain rfl := R_val hx
    cases v <;> first | exact one hx' | exact hf.elim
  | imm =>
    have hx' := hx
    unfold R Rc at hx; obtain ⟨A, c, rfl, _⟩ := hx; exact one hx'
  | pim =>
    have hx' := hx
    unfold R Rc at hx; obtain ⟨b, o, rfl, _⟩ := hx; exact one hx'
  | hnd =>
    have hx' := hx
    unfold R at hx; rcases hx with ⟨p, cc, ad, _, rfl, _⟩ | ⟨_, rfl, _⟩ <;> exact one hx'
  | ptr =>
    have hx' := hx
    unfold R at hx; obtain ⟨p, _, rfl⟩ := hx; exact one hx'
  | fn =>
    have hx' := hx
    unfold R at hx; obtain ⟨vs, rfl, _⟩ := hx; exact one hx'
  | any => exact hf.elim
  | tup => exact hf.elim
  | opt => exact hf.elim
theorem firm_of_cellish {x : AV} (h : x.cells.all cellish = true) : firm x := by
  cases x with
  | val y => cases y <;> first | trivial | simp [AV.cells, cellish] at h
  | any => simp [AV.cells, cellish] at h
  | opt => simp [AV.cells, cellish] at h
  | tup => simp [AV.cells, cellish] at h
  | _ => trivial

theorem all_one : ∀ {xs : List AV} {vs : List Value}, xs.all cellish = true → RList w ok ρ xs vs → ∀ u ∈ vs, u.oneCell' = true
  | [], vs, _, h, u, hu => by unfold RList at h; subst h; cases hu
  | x :: xs, vs, hc, h, u, hu => by
    unfold RList at h
    obtain ⟨v, vs', rfl, h1, h2⟩ := h
    simp only [List.all_cons, Bool.and_eq_true] at hc
    rcases List.mem_cons.1 hu with rfl | hu
    · exact (cellish_one hc.1 h1).1
    · exact all_one hc.2 h2 u hu

theorem run_storeCells {b o : Nat} {e : TypeId} : ∀ (us : List Value) (i : Nat) (w : World) (C : Array Value), w.heap[b]? = some (.cells C e (0, 0)) → o + i + us.length ≤ C.size → (∀ u ∈ us, u.oneCell' = true) →
    ∃ w', ∃ C' : Array Value, (storeCells ⟨b, o, none⟩ us i).run P w = .ok () w' ∧ w'.heap[b]? = some (.cells C' e (0, 0)) ∧ C'.toList = C.toList.take (o + i) ++ (us ++ C.toList.drop (o + i + us.length)) ∧
      (∀ k, k ≠ b → w'.heap[k]? = w.heap[k]?) ∧ w'.heap.size = w.heap.size ∧ w'.os = w.os ∧ w'.tape = w.tape ∧ w'.output = w.output
  | [], i, w, C, hC, _, _ => ⟨w, C, rfl, hC, by simp, fun _ _ => rfl, rfl, rfl, rfl, rfl⟩
  | u :: us, i, w, C, hC, hl, h1 => by
    simp only [List.length_cons] at hl
    have hcell : w.cell? ⟨b, o + i, none⟩ = some (C[o + i]'(by omega)) := by rw [cell_of hC, Array.getElem?_eq_getElem]
    have hfz : w.frozen? ⟨b, o + i, none⟩ = false := by simp [World.frozen?, hC]
    have hC' : (w.setCell ⟨b, o + i, none⟩ u).heap[b]? = some (.cells (C.setIfInBounds (o + i) u) e (0, 0)) := by
      simp [World.setCell, Array.getElem?_modify, hC]
    obtain ⟨w', C', h2, h3, h4, h5, h6, h7, h8, h9⟩ := run_storeCells (o := o) us (i + 1) (w.setCell ⟨b, o + i, none⟩ u) (C.setIfInBounds (o + i) u) hC' (by rw [Array.size_setIfInBounds]; omega) (fun x hx => h1 x (List.mem_cons_of_mem _ hx))
    refine ⟨w', C', ?_, h3, ?_, fun k hk => ?_, h6.trans (by simp [World.setCell]), h7, h8, h9⟩
    · simp only [storeCells, add_plain, Sem.run_bind]
      rw [run_store P w _ _ _ (h1 u List.mem_cons_self), hcell]
      simp only [hfz, Bool.false_eq_true, if_false, Result.andThen_ok]
      exact h2
    · rw [h4]
      simp only [Array.toList_setIfInBounds, List.length_cons]
      rw [show o + (i + 1) = o + i + 1 by omega, List.take_add_one, show o + i + (us.length + 1) = o + i + 1 + us.length by omega]
      rw [List.take_set_of_le (by omega), List.drop_set_of_lt (by omega)]
      simp [show o + i < C.size by omega]
    · rw [h5 k hk]
      simp [World.setCell, Array.getElem?_modify]
      intro e2; exact absurd e2.symm hk

theorem RList_splice {cs xs : List AV} {vs us : List Value} (h : RList w ok ρ cs vs) (hx : RList w ok ρ xs us) (o : Nat) (ho : o + xs.length ≤ cs.length) :
    RList w ok ρ (splice cs o xs) (vs.take o ++ (us ++ vs.drop (o + us.length))) := by
  have e1 : cs = cs.take o ++ (cs.drop o) := (List.take_append_drop o cs).symm
  rw [e1] at h
  obtain ⟨v1, v2, rfl, h1, h2⟩ := RList_split h
  have hl1 : v1.length = o := by rw [RList_length h1]; simp; omega
  have e2 : cs.drop o = (cs.drop o).take xs.length ++ cs.drop (o + xs.length) := by
    rw [← List.drop_drop, List.take_append_drop]
  rw [e2] at h2
  obtain ⟨v3, v4, rfl, h3, h4⟩ := RList_split h2
  have hl3 : v3.length = xs.length := by rw [RList_length h3]; simp; omega
  have hlu := RList_length hx
  unfold splice
  have t1 : (v1 ++ (v3 ++ v4)).take o = v1 := by rw [← hl1]; simp
  have t2 : (v1 ++ (v3 ++ v4)).drop (o + us.length) = v4 := by
    rw [← List.drop_drop, ← hl1, List.drop_left, hlu, ← hl3, List.drop_left]
  rw [t1, t2]
  exact RList_append h1 (RList_append hx h4)
theorem RcList_splice {cs xs : List AV} {vs us : List Value} (h : RcList w ok cs vs) (hx : RcList w ok xs us) (o : Nat) (ho : o + xs.length ≤ cs.length) :
    RcList w ok (splice cs o xs) (vs.take o ++ (us ++ vs.drop (o + us.length))) := by
  have e1 : cs = cs.take o ++ (cs.drop o) := (List.take_append_drop o cs).symm
  rw [e1] at h
  obtain ⟨v1, v2, rfl, h1, h2⟩ := RcList_split h
  have hl1 : v1.length = o := by rw [RcList_length h1]; simp; omega
  have e2 : cs.drop o = (cs.drop o).take xs.length ++ cs.drop (o + xs.length) := by
    rw [← List.drop_drop, List.take_append_drop]
  rw [e2] at h2
  obtain ⟨v3, v4, rfl, h3, h4⟩ := RcList_split h2
  have hl3 : v3.length = xs.length := by rw [RcList_length h3]; simp; omega
  have hlu := RcList_length hx
  unfold splice
  have t1 : (v1 ++ (v3 ++ v4)).take o = v1 := by rw [← hl1]; simp
  have t2 : (v1 ++ (v3 ++ v4)).drop (o + us.length) = v4 := by
    rw [← List.drop_drop, ← hl1, List.drop_left, hlu, ← hl3, List.drop_left]
  rw [t1, t2]
  exact RcList_append h1 (RcList_append hx h4)

theorem splice_length (cs xs : List AV) (o : Nat) (ho : o + xs.length ≤ cs.length) : (splice cs o xs).length = cs.length := by
  unfold splice; simp; omega

theorem flatten_length {sz : Nat} : ∀ {els : List (List AV)}, (∀ el ∈ els, el.length = sz) → els.flatten.length = els.length * sz
  | [], _ => by simp
  | e :: els, h => by
    rw [List.flatten_cons, List.length_append, flatten_length (fun el hm => h el (List.mem_cons_of_mem _ hm)), h e List.mem_cons_self, List.length_cons, Nat.succ_mul]; omega

theorem flatten_set {sz : Nat} : ∀ {els : List (List AV)}, (∀ el ∈ els, el.length = sz) → ∀ (i o : Nat) (xs : List AV), i < els.length → o + xs.length ≤ sz →
    (els.set i (splice (els.getD i []) o xs)).flatten = splice els.flatten (i * sz + o) xs
  | [], _, i, o, xs, hi, _ => by simp at hi
  | e :: els, h, 0, o, xs, hi, ho => by
    have he := h e List.mem_cons_self
    simp only [List.set_cons_zero, List.flatten_cons, List.getD_cons_zero, Nat.zero_mul, Nat.zero_add]
    unfold splice
    rw [List.take_append_of_le_length (by omega), List.drop_append_of_le_length (by omega)]
    simp
  | e :: els, h, i + 1, o, xs, hi, ho => by
    have he := h e List.mem_cons_self
    have ih := flatten_set (fun el hm => h el (List.mem_cons_of_mem _ hm)) i o xs (by simpa using hi) ho
    simp only [List.set_cons_succ, List.flatten_cons, List.getD_cons_succ, ih]
    unfold splice
    rw [show (i + 1) * sz + o = e.length + (i * sz + o) by rw [he, Nat.succ_mul]; omega, List.take_length_add_append, Nat.add_assoc e.length, List.drop_length_add_append]
    simp

theorem snd_store (hr : RelM E s a w ρ ok) {i : TypeInfo} {ty : TypeId} (hi : P.info? ty = some i) {px x : AV} {pv v : Value} (hp : R w ok ρ px pv) (hx : R w ok ρ x v)
    {r j o : Nat} (hpx : px = .ptr r j o) (s' : St)
    (hcase : (∃ e cs, s.reg r = .box e cs ∧ s' = { s with rg := s.rg.set r (.box e (splice cs o x.cells)) } ∧ j = 0 ∧ x.cells.length = i.size ∧ o + i.size ≤ cs.length ∧ x.cells.all cellish = true) ∨
      (∃ e sz els, s.reg r = .arr e sz els ∧ s' = { s with rg := s.rg.set r (.arr e sz (els.set j (splice (els.getD j []) o x.cells))) } ∧ j < els.length ∧ x.cells.length = i.size ∧ o + i.size ≤ sz ∧ x.cells.all cellish = true ∧ shutAll x.cells = true)) :
    Outc E s' (.val undef) a w false false (fun w => (do Instr.storeAt ty pv v; pure Next.skip : Sem Next).run P w) := by
  subst hpx
  unfold R at hp
  obtain ⟨p, hpl, rfl⟩ := hp
  rcases hcase with ⟨e, cs, hg, rfl, rfl, hl, ho, hc⟩ | ⟨e, sz, els, hg, rfl, hj, hl, ho, hc, hsh⟩
  · have hcells := cells_ok (firm_of_cellish hc) hx
    have hlen := RList_length hcells
    obtain ⟨b, C, h2, h3, h4⟩ := hr.mem.reg r _ (reg_some hg (by simp))
    rw [hpl] at h2
    obtain rfl := by simpa using h2
    have hCs : C.size = cs.length := by have := RList_length h4; simpa using this
    obtain ⟨w', C', h5, h6, h7, h8, h9, h10, h11, h12⟩ := run_storeCells (P := P) (o := o) v.cells.toList 0 w C h3 (by rw [hlen]; omega) (all_one hc hcells)
    refine Outc.new (v := undef) (w' := w') (ρ' := ρ) (ok' := ok) (.inr ⟨run_unit ?_, rfl⟩) ?_ (R_val_mk _) (fun h => by cases h)
    · have hsz : v.cells.size = i.size := by rw [← hl, ← hlen]; simp
      simp only [Nat.zero_mul, Nat.zero_add] at h5 ⊢
      simp [Instr.storeAt, Instr.sureAddr, storeVar, run_sizeOf hi, hsz, h5]
    · refine hr.write hpl h9 h10 h11 h12 h8 ⟨b, C', ?_, h6, ?_⟩
      · rw [splice_length _ _ _ (by omega)]; exact hpl
      · rw [h7]
        have hrd : Reads ok w w' := Reads.of_same fun b' hb' => h8 b' fun e => (hr.mem.own r _ hpl).2 (e ▸ hb')
        have := RList_splice h4 hcells o (by omega)
        rw [hlen] at this ⊢
        exact RList_frame hrd (fun _ x => x) (fun _ _ x => x) _ _ this
  · have hcells := cells_ok (firm_of_cellish hc) hx
    have hlen := RList_length hcells
    have hcellsc := RcList_of_R _ _ hsh hcells
    rcases hr.mem.reg r _ (reg_some hg (by simp)) with ⟨b, d, C, pre, vs, rest, h2, h3, h4, h4', h4'', h4c⟩ | ⟨h2, _⟩
    case inr => rw [h2] at hj; simp at hj
    rw [hpl] at h2
    obtain rfl := by simpa using h2
    have hvl : vs.length = els.length * sz := by rw [RcList_length h4c, flatten_length h4'']
    have hjs : j * sz + sz ≤ els.length * sz := by
      have := Nat.mul_le_mul_right sz (show j + 1 ≤ els.length by omega)
      rw [Nat.succ_mul] at this; exact this
    have hCs : C.size = d + (vs.length + rest.length) := by
      have := congrArg List.length h4
      simp [h4'] at this; omega
    obtain ⟨w', C', h5, h6, h7, h8, h9, h10, h11, h12⟩ := run_storeCells (P := P) (o := d + j * sz + o) v.cells.toList 0 w C h3 (by rw [hlen]; omega) (all_one hc hcells)
    have hfit : d + j * sz + o + v.cells.toList.length ≤ C.size := by rw [hlen]; omega
    have hC's : C'.size = C.size := by
      have h13 := congrArg List.length h7
      rw [List.length_append, List.length_append, List.length_take, List.length_drop, Array.length_toList, Array.length_toList, Nat.min_eq_left (by omega)] at h13
      omega
    refine Outc.new (v := undef) (w' := w') (ρ' := ρ) (ok' := ok) (.inr ⟨run_unit ?_, rfl⟩) ?_ (R_val_mk _) (fun h => by cases h)
    · have hsz : v.cells.size = i.size := by rw [← hl, ← hlen]; simp
      simp [Instr.storeAt, Instr.sureAddr, storeVar, run_sizeOf hi, hsz, h5]
    · refine hr.write hpl h9 h10 h11 h12 h8 (.inl ⟨b, d, C', pre, vs.take (j * sz + o) ++ (v.cells.toList ++ vs.drop (j * sz + o + v.cells.toList.length)), rest, ?_, h6, ?_, h4', ?_, ?_⟩)
      · rw [hC's]; exact hpl
      · rw [h7, h4, Nat.add_zero, show d + j * sz + o = pre.length + (j * sz + o) by omega, List.take_length_add_append, Nat.add_assoc, List.drop_length_add_append]
        rw [List.take_append_of_le_length (by omega), List.drop_append_of_le_length (by omega)]
        simp
      · intro el hm
        rcases List.mem_or_eq_of_mem_set hm with hm | rfl
        · exact h4'' el hm
        · have hel : (els.getD j []).length = sz := by
            rw [List.getD_eq_getElem?_getD, List.getElem?_eq_getElem hj]
            exact h4'' _ (List.getElem_mem hj)
          rw [splice_length _ _ _ (by omega)]; exact hel
      · have hrd : Reads ok w w' := Reads.of_same fun b' hb' => h8 b' fun e => (hr.mem.own r _ hpl).2 (e ▸ hb')
        rw [flatten_set h4'' j o _ hj (by omega)]
        have := RcList_splice h4c hcellsc (j * sz + o) (by rw [flatten_length h4'']; omega)
        exact RcList_frame hrd (fun _ x => x) _ _ this
end
end Go.Proofs.Ytmkodhpbjedfkaa.Aw
