/- A logic of abstract states for walks: what an operation does to a state is what it does. Part 3. -/
import Derived.Test.YtoickofcmngdjaaAwE
import Derived.Laws.Slices
import Derived.Laws.MakeOwn
import Derived.Laws.Small
import Derived.Laws.StructEq
set_option linter.unusedVariables false
set_option linter.unusedSimpArgs false
namespace Go.Proofs.Ytoickofcmngdjaa.Aw
open Go.RowKit

section
variable {P : Program} {E : Env} {s s' : St} {a : Act} {w : World} {ρ : Nat → Option (Option Place)} {ok : Nat → Prop} {ev : Opd → AV} {z : AV}

theorem snd_fld (hr : RelM E s a w ρ ok) {ty : TypeId} {fs : Array Field} {f : Nat} {fd : Field} {i : TypeInfo} (hd : P.underlying ty = some (.struct fs)) (hf : fs[f]? = some fd) (hi : P.info? fd.type = some i) (h0 : i.size ≠ 0)
    {x : AV} {v : Value} (hx : R w ok ρ x v) (hz : (∃ cs, x = .pim cs ∧ z = .pim (cs.drop fd.offset)) ∨ (∃ r j o, x = .ptr r j o ∧ z = .ptr r j (o + fd.offset))) :
    Outc E s z a w true true (fun w => (do pure (Next.value (← Instr.fieldAt ty v f)) : Sem Next).run P w) := by
  rcases hz with ⟨cs, rfl, rfl⟩ | ⟨r, j, o, rfl, rfl⟩
  · unfold R Rc at hx
    obtain ⟨b, o, rfl, h1, h2⟩ := hx
    refine Outc.same hr (v := .pointer (some ⟨b, o + fd.offset, none⟩)) (fun w he => run_value ?_) ?_
    · simp [Instr.fieldAt, run_underlying hd, hf, Instr.sureAddr, fieldPlace, run_sizeOf hi, h0, add_plain]
    · unfold R Rc; exact ⟨b, _, rfl, h1, RcCells_drop _ h2⟩
  · unfold R at hx
    obtain ⟨p, h1, rfl⟩ := hx
    refine Outc.same hr (v := .pointer (some ⟨p.b, p.d + j * p.sz + o + fd.offset, none⟩)) (fun w he => run_value ?_) ?_
    · simp [Instr.fieldAt, run_underlying hd, hf, Instr.sureAddr, fieldPlace, run_sizeOf hi, h0, add_plain]
    · unfold R; exact ⟨p, h1, by rw [Nat.add_assoc]⟩

theorem snd_idx (hr : RelM E s a w ρ ok) {ty e : TypeId} {i : TypeInfo} (hd : P.underlying ty = some (.slice e)) (hi : P.info? e = some i) {k : IntKind} {n : Int}
    {x : AV} {v : Value} (hx : R w ok ρ x v) (hz : (∃ nl fu els, x = .imm nl fu i.size els ∧ z = .pim (els.getD n.toNat []) ∧ 0 ≤ n ∧ n < els.length) ∨
      (∃ r off m c ex, x = .hnd r off m c ex ∧ ((∃ e' els, s.reg r = .arr e' i.size els) ∨ ∃ e' cs, s.reg r = .tab e' cs ∧ i.size = 1) ∧ z = .ptr r (off + n.toNat) 0 ∧ 0 ≤ n ∧ n < m)) :
    Outc E s z a w true true (fun w => (do pure (Next.value (← Instr.indexAt ty v (.int k n))) : Sem Next).run P w) := by
  rcases hz with ⟨nl, fu, els, rfl, rfl, h0, h1⟩ | ⟨r, off, m, c, ex, rfl, hg, rfl, h0, h1⟩
  · unfold R Rc at hx
    obtain ⟨A, c, rfl, h2, h3, h4, h5, h6⟩ := hx
    cases A with
    | none => have := h4 rfl; omega
    | some ad =>
      obtain ⟨h7, h8, h9⟩ := h6 ad rfl (by intro e; rw [e] at h1; simp at h1; omega)
      obtain ⟨b, o, sp⟩ := ad
      simp only at h7 h8 h9
      subst h7
      have hel : els[n.toNat]? = some (els.getD n.toNat []) := by
        rw [List.getD_eq_getElem?_getD, List.getElem?_eq_getElem (by omega)]; rfl
      refine Outc.same hr (v := .pointer (some ⟨b, o + n.toNat * i.size, none⟩)) (fun w he => run_value ?_) ?_
      · simp [Instr.indexAt, asIntOf, run_underlying hd, h0, h1, run_sizeOf hi, add_plain]
      · unfold R Rc
        exact ⟨b, _, rfl, h8, (RcEls_get h9 _ _ hel).2⟩
  · unfold R at hx
    rcases hx with ⟨p, cc, ad, h2, rfl, h3, h4, h5, h6, h7⟩ | ⟨h2, rfl, h3, h4, h5⟩
    · have hsz : p.sz = i.size := by
        rcases hg with ⟨e', els, hg⟩ | ⟨e', cs, hg, h1'⟩
        · rcases hr.mem.reg r _ (reg_some hg (by simp)) with ⟨b, d, C, pre, vs, rest, h8, _⟩ | ⟨_, h8⟩
          · rw [h2] at h8; injection h8 with h8; injection h8 with h8; rw [h8]
          · rw [h2] at h8; injection h8 with h8; cases h8
        · rcases hr.mem.reg r _ (reg_some hg (by simp)) with ⟨b, d, C, pre, vs, rest, h8, _⟩ | ⟨_, h8⟩
          · rw [h2] at h8; injection h8 with h8; injection h8 with h8; rw [h8, h1']
          · rw [h2] at h8; injection h8 with h8; cases h8
      have had : ad = ⟨p.b, p.d + off * p.sz, none⟩ := by
        rcases h3 with h3 | h3
        · omega
        · exact h3
      subst had
      refine Outc.same hr (v := .pointer (some ⟨p.b, p.d + off * p.sz + n.toNat * i.size, none⟩)) (fun w he => run_value ?_) ?_
      · simp [Instr.indexAt, asIntOf, run_underlying hd, h0, h1, run_sizeOf hi, add_plain]
      · unfold R; refine ⟨p, h2, ?_⟩
        rw [hsz, Nat.add_mul]; simp only [Nat.add_zero, Nat.add_assoc]
    · omega

theorem snd_idxa (hr : RelM E s a w ρ ok) {ty e : TypeId} {len : Nat} {i : TypeInfo} (hd : P.underlying ty = some (.array len e)) (hi : P.info? e = some i) {k : IntKind} {n : Int}
    {x : AV} {v : Value} (hx : R w ok ρ x v) (h0 : 0 ≤ n) (h1 : n < len) (hz : (∃ cs, x = .pim cs ∧ z = .pim (cs.drop (n.toNat * i.size))) ∨ (∃ r j o, x = .ptr r j o ∧ z = .ptr r j (o + n.toNat * i.size))) :
    Outc E s z a w true true (fun w => (do pure (Next.value (← Instr.indexAt ty v (.int k n))) : Sem Next).run P w) := by
  rcases hz with ⟨cs, rfl, rfl⟩ | ⟨r, j, o, rfl, rfl⟩
  · unfold R Rc at hx
    obtain ⟨b, o, rfl, h2, h3⟩ := hx
    refine Outc.same hr (v := .pointer (some ⟨b, o + n.toNat * i.size, none⟩)) (fun w he => run_value ?_) ?_
    · simp [Instr.indexAt, asIntOf, run_underlying hd, Instr.sureAddr, h0, h1, run_sizeOf hi, add_plain]
    · unfold R Rc; exact ⟨b, _, rfl, h2, RcCells_drop _ h3⟩
  · unfold R at hx
    obtain ⟨p, h2, rfl⟩ := hx
    refine Outc.same hr (v := .pointer (some ⟨p.b, p.d + j * p.sz + o + n.toNat * i.size, none⟩)) (fun w he => run_value ?_) ?_
    · simp [Instr.indexAt, asIntOf, run_underlying hd, Instr.sureAddr, h0, h1, run_sizeOf hi, add_plain]
    · unfold R; exact ⟨p, h2, by rw [Nat.add_assoc]⟩

/-- A part of a struct's value. -/
theorem part_ok {d : TypeDesc} {i : TypeInfo} {ty : TypeId} (hd : P.underlying ty = some d) (hi : P.info? ty = some i) {cs : List AV} {vs : Array Value} (h : RList w ok ρ cs vs.toList) {off : Nat} (hn : off + i.size ≤ cs.length) (h1 : isAg d = false → i.size = 1) :
    ∃ v, (∀ w, (part ty vs off).run P w = .ok v w) ∧ R w ok ρ (bif isAg d then .agg ((cs.drop off).take i.size) else cs.getD off .any) v := by
  have hl := RList_length h
  cases hag : isAg d with
  | true =>
    refine ⟨.agg (vs.extract off (off + i.size)), fun w => ?_, ?_⟩
    · simp [part, run_isAgg hd, hag, run_sizeOf hi]
    · refine R_agg_mk ?_
      have e1 : cs = cs.take off ++ cs.drop off := (List.take_append_drop off cs).symm
      rw [e1] at h
      obtain ⟨v1, v2, e2, h3, h4⟩ := RList_split h
      have hl1 : v1.length = off := by rw [RList_length h3]; simp; omega
      have e3 : cs.drop off = (cs.drop off).take i.size ++ (cs.drop off).drop i.size := (List.take_append_drop _ _).symm
      rw [e3] at h4
      obtain ⟨v3, v4, rfl, h5, h6⟩ := RList_split h4
      have hl3 : v3.length = i.size := by rw [RList_length h5]; simp; omega
      have : (vs.extract off (off + i.size)).toList = v3 := by
        rw [Array.toList_extract, e2]
        simp [List.extract_eq_take_drop, ← hl1, ← hl3]
      rw [this]; exact h5
  | false =>
    have hs := h1 hag
    obtain ⟨y, hy⟩ : ∃ y, cs[off]? = some y := ⟨_, List.getElem?_eq_getElem (by omega)⟩
    obtain ⟨u, h4, h5⟩ := RList_get h off y hy
    refine ⟨u, fun w => ?_, ?_⟩
    · rw [Array.getElem?_toList] at h4
      simp [part, run_isAgg hd, hag, h4]
    · simp only [cond_false, List.getD_eq_getElem?_getD, hy]; exact h5

theorem snd_part (hr : RelM E s a w ρ ok) {ty : TypeId} {fs : Array Field} {f : Nat} {fd : Field} {d : TypeDesc} {i : TypeInfo} (hd : P.underlying ty = some (.struct fs)) (hf : fs[f]? = some fd) (hd' : P.underlying fd.type = some d) (hi : P.info? fd.type = some i)
    {cs : List AV} {v : Value} (hx : R w ok ρ (.agg cs) v) (hn : fd.offset + i.size ≤ cs.length) (h1 : isAg d = false → i.size = 1) :
    Outc E s (bif isAg d then .agg ((cs.drop fd.offset).take i.size) else cs.getD fd.offset .any) a w true true (fun w => (do pure (Next.value (← Instr.field ty v f)) : Sem Next).run P w) := by
  obtain ⟨vs, rfl, h⟩ := R_agg hx
  obtain ⟨u, h2, h3⟩ := part_ok (P := P) hd' hi h hn h1
  refine Outc.same hr (fun w he => run_value ?_) h3
  simp [Instr.field, run_underlying hd, hf, asAgg, h2]

theorem snd_idxv (hr : RelM E s a w ρ ok) {ty e : TypeId} {len : Nat} {d : TypeDesc} {i : TypeInfo} (hd : P.underlying ty = some (.array len e)) (hd' : P.underlying e = some d) (hi : P.info? e = some i) {k : IntKind} {n : Int}
    {cs : List AV} {v : Value} (hx : R w ok ρ (.agg cs) v) (h0 : 0 ≤ n) (hlt : n < len) (hn : n.toNat * i.size + i.size ≤ cs.length) (h1 : isAg d = false → i.size = 1) :
    Outc E s (bif isAg d then .agg ((cs.drop (n.toNat * i.size)).take i.size) else cs.getD (n.toNat * i.size) .any) a w true true (fun w => (do pure (Next.value (← Instr.index ty v (.int k n))) : Sem Next).run P w) := by
  obtain ⟨vs, rfl, h⟩ := R_agg hx
  obtain ⟨u, h2, h3⟩ := part_ok (P := P) hd' hi h hn h1
  refine Outc.same hr (fun w he => run_value ?_) h3
  simp [Instr.index, run_underlying hd, asIntOf, h0, hlt, run_sizeOf hi, h2]

theorem snd_sidx (hr : RelM E s a w ρ ok) {ty : TypeId} (hd : P.underlying ty = some .string) {k : IntKind} {n : Int} {b : ByteArray} (h0 : 0 ≤ n) (h1 : n < b.size) :
    Outc E s (.val (.int .u8 (b.data.toList.getD n.toNat 0).toNat)) a w true true (fun w => (do pure (Next.value (← Instr.index ty (.string b) (.int k n))) : Sem Next).run P w) := by
  refine Outc.same hr (fun w he => run_value ?_) (R_val_mk _)
  have hn : n.toNat < b.size := by omega
  have hb : b[n.toNat]? = some (b[n.toNat]'hn) := by rw [getElem?_pos]
  have hl : b.data.toList.getD n.toNat 0 = b[n.toNat]'hn := by
    have hlen : b.data.toList.length = b.size := by simp
    rw [List.getD_eq_getElem?_getD, List.getElem?_eq_getElem (by omega)]
    rfl
  rw [hl]
  simp only [Instr.index, asIntOf, Sem.run_bind, Sem.run_pure, Result.andThen_ok, run_underlying hd]
  simp only [h0, if_true, hb]
  rfl

/-! #### New blocks -/
theorem vals_ok : ∀ (vs : List Value), RList w ok ρ (vs.map .val) vs
  | [] => by unfold RList; rfl
  | v :: vs => by
    show RList w ok ρ (.val v :: vs.map .val) (v :: vs)
    unfold RList; exact ⟨v, vs, rfl, R_val_mk v, vals_ok vs⟩
theorem cvals_ok : ∀ (vs : List Value), RcList w ok (vs.map .val) vs
  | [] => by unfold RcList; rfl
  | v :: vs => by
    show RcList w ok (.val v :: vs.map .val) (v :: vs)
    unfold RcList; exact ⟨v, vs, rfl, by unfold Rc; rfl, cvals_ok vs⟩

theorem heap_push (w : World) (o : Obj) : ({ w with heap := w.heap.push o } : World).heap[w.heap.size]? = some o := by simp

/-- A new variable. -/
theorem newbox_ok (hr : RelM E s a w ρ ok) (e : TypeId) (cs : List AV) (C : Array Value) (h : RList w ok ρ cs C.toList) :
    ∃ ρ', RelM E { s with rg := s.rg ++ [.box e cs] } a { w with heap := w.heap.push (.cells C e) } ρ' ok ∧ ρ' s.rg.length = some (some ⟨w.heap.size, 0, cs.length, cs.length⟩) := by
  have hx := Ext.push w (.cells C e)
  have hn := hr.mem.out s.rg.length (Nat.le_refl _)
  refine ⟨_, hr.alloc hx (p := ⟨w.heap.size, 0, cs.length, cs.length⟩) rfl (by simp) ⟨w.heap.size, C, ?_, hpB_of (heap_push w _), ?_⟩, ?_⟩
  · unfold addPl; rw [if_pos rfl]
  · exact RList_frame (hx.reads hr.mem.okl) (fun _ x => x) (addPl_old hn _) _ _ h
  · unfold addPl; rw [if_pos rfl]

/-- A new array. -/
theorem newarr_ok (hr : RelM E s a w ρ ok) {w' : World} (e : TypeId) (sz : Nat) (els : List (List AV)) (C : Array Value) (vs rest : List Value) (hx : Ext w w') (hh : w'.heap[w.heap.size]? = some (.cells C e (0, 0))) (hC : C.toList = vs ++ rest)
    (hl : ∀ el ∈ els, el.length = sz) (h : RcList w ok els.flatten vs) :
    ∃ ρ', RelM E { s with rg := s.rg ++ [.arr e sz els] } a w' ρ' ok ∧ ρ' s.rg.length = some (some ⟨w.heap.size, 0, sz, C.size⟩) := by
  have hn := hr.mem.out s.rg.length (Nat.le_refl _)
  have hlt : w.heap.size < w'.heap.size := (Array.getElem?_eq_some_iff.1 hh).1
  refine ⟨_, hr.alloc hx (p := ⟨w.heap.size, 0, sz, C.size⟩) rfl hlt (.inl ⟨w.heap.size, 0, C, [], vs, rest, ?_, hpB_of hh, by simpa using hC, rfl, hl, ?_⟩), ?_⟩
  · unfold addPl; rw [if_pos rfl]
  · exact RcList_frame (hx.reads hr.mem.okl) (fun _ x => x) _ _ h
  · unfold addPl; rw [if_pos rfl]

theorem snd_alloc (hr : RelM E s a w ρ ok) {e : TypeId} {i : TypeInfo} {zv : Value} (hi : P.info? e = some i) (hz : i.zero = some zv) :
    Outc E { s with rg := s.rg ++ [.box e (zv.cells.toList.map .val)] } (.ptr s.rg.length 0 0) a w false true (fun w => (do pure (Next.value (← Instr.alloc e true (.tuple #[]))) : Sem Next).run P w) := by
  obtain ⟨ρ', h1, h2⟩ := newbox_ok hr e (zv.cells.toList.map .val) zv.cells (vals_ok _)
  refine Outc.new (v := .pointer (some ⟨w.heap.size, 0, none⟩)) (ρ' := ρ') (ok' := ok) (.inl (run_value ?_)) h1 ?_ (fun _ => Ext.push w _)
  · simp [Instr.alloc, zeroValue, typeInfo, hi, hz, newVar, newRow]
  · unfold R; exact ⟨_, h2, by simp⟩

theorem snd_box (hr : RelM E s a w ρ ok) {e : TypeId} {x : AV} {v : Value} (hx : R w ok ρ x v) (hf : firm x) :
    Outc E { s with rg := s.rg ++ [.box e x.cells] } (.ptr s.rg.length 0 0) a w false true (fun w => (do pure (Next.value (← Instr.box e v)) : Sem Next).run P w) := by
  obtain ⟨ρ', h1, h2⟩ := newbox_ok hr e x.cells v.cells (cells_ok hf hx)
  refine Outc.new (v := .pointer (some ⟨w.heap.size, 0, none⟩)) (ρ' := ρ') (ok' := ok) (.inl (run_value ?_)) h1 ?_ (fun _ => Ext.push w _)
  · simp [Instr.box, newVar, newRow]
  · unfold R; exact ⟨_, h2, by simp⟩

end
end Go.Proofs.Ytoickofcmngdjaa.Aw

/- A logic of abstract states for walks: what an operation does to a state is what it does. Part 4. -/
set_option linter.unusedVariables false
set_option linter.unusedSimpArgs false
namespace Go.Proofs.Ytoickofcmngdjaa.Aw
open Go.RowKit

section
variable {P : Program} {E : Env} {s s' : St} {a : Act} {w : World} {ρ : Nat → Option (Option Place)} {ok : Nat → Prop} {ev : Opd → AV} {z : AV}

/-! #### Parts put into cells -/
theorem fold_cells : ∀ (us : List Value) (k off : Nat) (C : Array Value), off + k + us.length ≤ C.size →
    ((us.zipIdx k).foldl (fun (cs : Array Value) (p : Value × Nat) => cs.setIfInBounds (off + p.2) p.1) C).toList = C.toList.take (off + k) ++ (us ++ C.toList.drop (off + k + us.length))
  | [], k, off, C, _ => by simp
  | u :: us, k, off, C, h => by
    simp only [List.length_cons] at h
    have ih := fold_cells us (k + 1) off (C.setIfInBounds (off + k) u) (by rw [Array.size_setIfInBounds]; omega)
    simp only [List.zipIdx_cons, List.foldl_cons]
    rw [ih]
    simp only [Array.toList_setIfInBounds, List.length_cons]
    rw [show off + (k + 1) = off + k + 1 by omega, List.take_add_one, show off + k + (us.length + 1) = off + k + 1 + us.length by omega]
    rw [List.take_set_of_le (by omega), List.drop_set_of_lt (by omega)]
    simp [show off + k < C.size by omega]

inductive PartsOk (P : Program) (w : World) (ok : Nat → Prop) (ρ : Nat → Option (Option Place)) (place : Nat → Option (Nat × Nat)) : List (Nat × Value) → List (Nat × Nat × AV) → Prop
  | nil : PartsOk P w ok ρ place [] []
  | cons {i v o n x ps qs} : place i = some (o, n) → R w ok ρ x v → PartsOk P w ok ρ place ps qs → PartsOk P w ok ρ place ((i, v) :: ps) ((o, n, x) :: qs)

theorem fill_ok {place : Nat → Option (Nat × Nat)} : ∀ {ps : List (Nat × Value)} {qs : List (Nat × Nat × AV)}, PartsOk P w ok ρ place ps qs → ∀ (C : Array Value) (cs : List AV), fillOb qs cs → RList w ok ρ cs C.toList →
    ∃ D, Instr.fill place C ps = some D ∧ RList w ok ρ (fillAV qs cs) D.toList := by
  intro ps qs h
  induction h with
  | nil => intro C cs _ h; exact ⟨C, rfl, h⟩
  | @cons i v o n x ps qs hp hx _ ih =>
    intro C cs hob h
    obtain ⟨hf, hl, ho, hob⟩ := hob
    have hcells := cells_ok hf hx
    have hlen := RList_length hcells
    have hC := RList_length h
    simp only [Array.length_toList] at hlen hC
    have hfold : (v.cells.zipIdx.foldl (fun (cs : Array Value) (p : Value × Nat) => cs.setIfInBounds (o + p.2) p.1) C).toList = C.toList.take o ++ (v.cells.toList ++ C.toList.drop (o + v.cells.toList.length)) := by
      rw [← Array.foldl_toList, Array.toList_zipIdx]
      have := fold_cells v.cells.toList 0 o C (by simp; omega)
      simpa using this
    have hsp := RList_splice h hcells o (by omega)
    rw [← hfold] at hsp
    obtain ⟨D, h1, h2⟩ := ih _ _ hob hsp
    refine ⟨D, ?_, h2⟩
    unfold Instr.fill
    rw [hp]
    dsimp only
    rw [if_neg (by simp; omega)]
    exact h1

theorem run_mapM_list {α β : Type} (g : α → Sem β) (h : α → β) : ∀ (l : List α), (∀ x ∈ l, (g x).run P w = .ok (h x) w) → (l.mapM g).run P w = .ok (l.map h) w
  | [], _ => by simp
  | x :: l, hl => by
    simp only [List.mapM_cons, Sem.run_bind, hl x List.mem_cons_self, Result.andThen_ok, run_mapM_list g h l (fun y hy => hl y (List.mem_cons_of_mem _ hy))]
    simp
theorem run_mapM_array {α β : Type} (g : α → Sem β) (h : α → β) (l : Array α) (hl : ∀ x ∈ l, (g x).run P w = .ok (h x) w) : (l.mapM g).run P w = .ok (l.map h) w := by
  rw [Array.mapM_eq_mapM_toList]
  simp only [Sem.run_map]
  rw [run_mapM_list g h l.toList (fun x hx => hl x (by simpa using hx))]
  simp only [Result.andThen_ok]
  rw [← Array.toList_map]

theorem partsOf_ok {fs : Array Field} {xs : List Operand} (ev : Opd → AV) (cv : Operand → Value) (hev : ∀ x, x ∈ xs → R w ok ρ (ev (.of x)) (cv x)) :
    ∀ (ps : List (Nat × Operand)) (qs : List (Nat × Nat × Opd)), (∀ p ∈ ps, p.2 ∈ xs) → partsOf P fs ps = some qs →
    PartsOk P w ok ρ (fun i => (fs.map fun f => (f.offset, ((P.info? f.type).map (·.size)).getD 0))[i]?) (ps.map fun p => (p.1, cv p.2)) (qs.map fun q => (q.1, q.2.1, ev q.2.2))
  | [], qs, _, h => by
    simp only [partsOf, Option.some.injEq] at h
    subst h; exact .nil
  | (i, x) :: ps, qs, hm, h => by
    unfold partsOf at h
    split at h
    · rename_i fd hf
      split at h
      · rename_i j hj
        split at h
        · rename_i r hr
          simp only [Option.some.injEq] at h
          subst h
          refine .cons ?_ (hev x (hm _ List.mem_cons_self)) (partsOf_ok ev cv hev ps r (fun p hp => hm p (List.mem_cons_of_mem _ hp)) hr)
          simp [hf, hj]
        · cases h
      · cases h
    · cases h

theorem snd_build (hr : RelM E s a w ρ ok) {ty : TypeId} {fs : Array Field} {i : TypeInfo} {zv : Value} (hi : P.info? ty = some i) (hz : i.zero = some zv) (hd : P.underlying ty = some (.struct fs)) (hall : ∀ fd ∈ fs, (P.info? fd.type).isSome = true)
    {ps : List (Nat × Value)} {qs : List (Nat × Nat × AV)} (hp : PartsOk P w ok ρ (fun i => (fs.map fun f => (f.offset, ((P.info? f.type).map (·.size)).getD 0))[i]?) ps qs) (hob : fillOb qs (zv.cells.toList.map .val)) :
    Outc E s (.agg (fillAV qs (zv.cells.toList.map .val))) a w true true (fun w => (do pure (Next.value (← Instr.build ty ps.toArray)) : Sem Next).run P w) := by
  obtain ⟨D, h1, h2⟩ := fill_ok hp zv.cells _ hob (vals_ok _)
  refine Outc.same hr (v := .agg D) (fun w he => run_value ?_) (R_agg_mk h2)
  have hm := run_mapM_array (P := P) (w := w) (fun (f : Field) => do pure (f.offset, ← sizeOf f.type)) (fun f => (f.offset, ((P.info? f.type).map (·.size)).getD 0)) fs (fun f hf => by
    obtain ⟨j, hj⟩ := Option.isSome_iff_exists.1 (hall f hf)
    simp [run_sizeOf hj, hj])
  simp only [Instr.build, zeroValue, typeInfo, Sem.run_bind, run_program, Result.andThen_ok, hi, hz, Sem.run_pure, run_underlying hd]
  rw [hm]
  simp only [Result.andThen_ok, h1]
  simp

theorem snd_builda (hr : RelM E s a w ρ ok) {ty e : TypeId} {n : Nat} {i j : TypeInfo} {zv : Value} (hi : P.info? ty = some i) (hz : i.zero = some zv) (hd : P.underlying ty = some (.array n e)) (hj : P.info? e = some j)
    {ps : List (Nat × Value)} {qs : List (Nat × Nat × AV)} (hp : PartsOk P w ok ρ (fun k => some (k * j.size, j.size)) ps qs) (hob : fillOb qs (zv.cells.toList.map .val)) :
    Outc E s (.agg (fillAV qs (zv.cells.toList.map .val))) a w true true (fun w => (do pure (Next.value (← Instr.build ty ps.toArray)) : Sem Next).run P w) := by
  obtain ⟨D, h1, h2⟩ := fill_ok hp zv.cells _ hob (vals_ok _)
  refine Outc.same hr (v := .agg D) (fun w he => run_value ?_) (R_agg_mk h2)
  simp only [Instr.build, zeroValue, typeInfo, Sem.run_bind, run_program, Result.andThen_ok, hi, hz, Sem.run_pure, run_underlying hd, run_sizeOf hj, h1]

/-! #### Literals of slices -/
theorem fillAV_rows (sz : Nat) : ∀ (xs : List AV) (k : Nat) (pre rest : List AV), pre.length = k * sz → rest.length = xs.length * sz → (∀ x ∈ xs, x.cells.length = sz) →
    fillAV ((xs.zipIdx k).map fun p => (p.2 * sz, sz, p.1)) (pre ++ rest) = pre ++ (xs.map AV.cells).flatten
  | [], k, pre, rest, _, hr, _ => by
    have : rest = [] := List.eq_nil_of_length_eq_zero (by simpa using hr)
    simp [fillAV, this]
  | x :: xs, k, pre, rest, hp, hr, hx => by
    simp only [List.zipIdx_cons, List.map_cons, fillAV]
    have hc := hx x List.mem_cons_self
    rw [List.length_cons, Nat.succ_mul] at hr
    have e : splice (pre ++ rest) (k * sz) x.cells = (pre ++ x.cells) ++ rest.drop sz := by
      unfold splice
      rw [← hp, List.take_left, hc, List.drop_length_add_append]
      simp
    rw [e, fillAV_rows sz xs (k + 1) (pre ++ x.cells) (rest.drop sz) (by simp [hp, hc, Nat.succ_mul]) (by simp; omega) (fun y hy => hx y (List.mem_cons_of_mem _ hy))]
    simp
theorem fillOb_rows (sz : Nat) : ∀ (xs : List AV) (k : Nat) (cs : List AV), cs.length = (k + xs.length) * sz → elsOb sz xs → fillOb ((xs.zipIdx k).map fun p => (p.2 * sz, sz, p.1)) cs
  | [], k, cs, _, _ => trivial
  | x :: xs, k, cs, hl, hx => by
    obtain ⟨h0, h1, h2, h3⟩ := hx
    simp only [List.zipIdx_cons, List.map_cons, fillOb]
    simp only [List.length_cons] at hl
    have hle : k * sz + sz ≤ cs.length := by
      rw [hl]
      have := Nat.mul_le_mul_right sz (show k + 1 ≤ k + (xs.length + 1) by omega)
      rw [Nat.succ_mul] at this; exact this
    refine ⟨h0, h1, hle, fillOb_rows sz xs (k + 1) _ ?_ h3⟩
    rw [splice_length _ _ _ (by omega), hl]; congr 1; omega
theorem elsOb_mem {sz : Nat} : ∀ {xs : List AV}, elsOb sz xs → ∀ x ∈ xs, x.cells.length = sz ∧ shutAll x.cells = true
  | [], _, x, h => by cases h
  | y :: xs, ⟨h0, h1, h2, h3⟩, x, h => by
    rcases List.mem_cons.1 h with rfl | h
    · exact ⟨h1, h2⟩
    · exact elsOb_mem h3 x h
theorem shutAll_append : ∀ {xs ys : List AV}, shutAll xs = true → shutAll ys = true → shutAll (xs ++ ys) = true
  | [], ys, _, h => h
  | x :: xs, ys, h, k => by
    simp only [shutAll, Bool.and_eq_true] at h
    show shutAll (x :: (xs ++ ys)) = true
    simp only [shutAll, Bool.and_eq_true]
    exact ⟨h.1, shutAll_append h.2 k⟩
theorem shutAll_flatten : ∀ {l : List (List AV)}, (∀ x ∈ l, shutAll x = true) → shutAll l.flatten = true
  | [], _ => rfl
  | x :: l, h => by
    rw [List.flatten_cons]
    exact shutAll_append (h x List.mem_cons_self) (shutAll_flatten fun y hy => h y (List.mem_cons_of_mem _ hy))

theorem snd_bsl (hr : RelM E s a w ρ ok) {ty e : TypeId} {i : TypeInfo} (hd : P.underlying ty = some (.slice e)) (hi : P.info? e = some i) {len : Nat} (hle : len * i.size ≤ 2 ^ 24) (hs : i.size ≠ 0) {zv : Value} (hz : i.zero = some zv)
    {ps : List (Nat × Value)} {xs : List AV} (hlen : xs.length = len) (hp : PartsOk P w ok ρ (fun k => some (k * i.size, i.size)) ps (xs.zipIdx.map fun p => (p.2 * i.size, i.size, p.1))) (hob : elsOb i.size xs) :
    Outc E { s with rg := s.rg ++ [.arr e i.size (xs.map AV.cells)] } (.hnd s.rg.length 0 len len true) a w false true (fun w => (do pure (Next.value (← Instr.buildSlice ty len ps.toArray)) : Sem Next).run P w) := by
  generalize hZ : ((Array.range (len * i.size)).map (fun x => if len * i.size = 0 then (#[] : Array Value)[x % 0]! else zv.cells[x % zv.cells.size]!)) = Z0
  have key : ∀ Z : Array Value, Z.size = len * i.size → ∃ D, Instr.fill (fun k => some (k * i.size, i.size)) Z ps = some D ∧ RList w ok ρ (xs.map AV.cells).flatten D.toList := fun Z hZs => by
    obtain ⟨D, h1, h2⟩ := fill_ok hp Z (Z.toList.map .val) (fillOb_rows _ _ 0 _ (by simp [hZs, hlen]) hob) (vals_ok _)
    refine ⟨D, h1, ?_⟩
    have := fillAV_rows i.size xs 0 [] (Z.toList.map .val) (by simp) (by simp [hZs, hlen]) (fun x hx => (elsOb_mem hob x hx).1)
    simp only [List.nil_append] at this
    rw [this] at h2; exact h2
  have hsh : shutAll (xs.map AV.cells).flatten = true := shutAll_flatten fun y hy => by
    obtain ⟨x, hx, rfl⟩ := List.mem_map.1 hy
    exact (elsOb_mem hob x hx).2
  have hall : ∀ el ∈ xs.map AV.cells, el.length = i.size := fun y hy => by
    obtain ⟨x, hx, rfl⟩ := List.mem_map.1 hy
    exact (elsOb_mem hob x hx).1
  have fin : ∀ Z : Array Value, Z.size = len * i.size → ∀ r : World → Result Next, (∀ D, Instr.fill (fun k => some (k * i.size, i.size)) Z ps = some D → r w = .ok (.value (.slice (some ⟨w.heap.size, 0, none⟩) len len)) { w with heap := w.heap.push (.cells D e) }) →
      Outc E { s with rg := s.rg ++ [.arr e i.size (xs.map AV.cells)] } (.hnd s.rg.length 0 len len true) a w false true r := fun Z hZs r hrr => by
    obtain ⟨D, h1, h2⟩ := key Z hZs
    have hDs : D.size = len * i.size := by
      have := RList_length h2
      rw [flatten_length hall, List.length_map, hlen] at this
      simpa using this
    obtain ⟨ρ', h3, h4⟩ := newarr_ok hr e i.size (xs.map AV.cells) D D.toList [] (Ext.push w _) (heap_push w _) (by simp) hall (RcList_of_R _ _ hsh h2)
    refine Outc.new (ρ' := ρ') (ok' := ok) (.inl (hrr D h1)) h3 ?_ (fun _ => Ext.push w _)
    unfold R
    exact .inl ⟨_, len, _, h4, rfl, .inr (by simp), Nat.le_refl _, Nat.le_refl _, by simp [hDs], fun _ => rfl⟩
  by_cases h0 : len * i.size = 0
  · refine fin ((Array.range (len * i.size)).map (fun x => (#[] : Array Value)[x % 0]!)) (by simp) _ fun D hD => ?_
    have hD' : Instr.fill (fun k => some (k * i.size, i.size)) ((Array.range 0).map (fun x => (#[] : Array Value)[x % 0]!)) ps = some D := by rw [h0] at hD; exact hD
    have hnot : ¬ (len * i.size > 2 ^ 24) := by omega
    simp only [Instr.buildSlice, Sem.run_bind, run_underlying hd, Result.andThen_ok, run_sizeOf hi]
    have hnot0 : ¬ (0 > 2 ^ 24) := by omega
    have hD'' : Instr.fill (fun k => some (k * i.size, i.size)) ((Array.range 0).map (fun x => (#[] : Array Value)[x % (#[] : Array Value).size]!)) ps = some D := hD'
    simp only [h0, if_neg hnot0, if_true, Sem.run_bind, Sem.run_pure, Result.andThen_ok]
    rw [hD'']
    simp [newRow]
  · refine fin ((Array.range (len * i.size)).map (fun x => zv.cells[x % zv.cells.size]!)) (by simp) _ fun D hD => ?_
    have hnot : ¬ (len * i.size > 2 ^ 24) := by omega
    simp only [Instr.buildSlice, Sem.run_bind, run_underlying hd, Result.andThen_ok, run_sizeOf hi]
    simp only [hnot, if_false, h0, Sem.run_bind, Sem.run_pure, Result.andThen_ok, zeroValue, typeInfo, run_program, hi, hz]
    rw [hD]
    simp [newRow]
end
end Go.Proofs.Ytoickofcmngdjaa.Aw

/- A logic of abstract states for walks: what an operation does to a state is what it does. Part 5. -/
set_option linter.unusedVariables false
set_option linter.unusedSimpArgs false
namespace Go.Proofs.Ytoickofcmngdjaa.Aw
open Go.RowKit

section
variable {P : Program} {E : Env} {s s' : St} {a : Act} {w : World} {ρ : Nat → Option (Option Place)} {ok : Nat → Prop} {ev : Opd → AV} {z : AV}

/-! #### make -/
theorem made_rows (zl : Array Value) (k : Nat) (hk : zl.size = k) : ∀ n : Nat, (madeCells zl (n * k)).toList = (List.replicate n zl.toList).flatten
  | 0 => by simp [madeCells]
  | n + 1 => by
    have ih := made_rows zl k hk n
    unfold madeCells at *
    rw [Nat.succ_mul]
    simp only [Array.toList_map, Array.toList_range] at ih ⊢
    rw [List.range_add, List.map_append, ih, List.replicate_succ', List.flatten_append]
    congr 1
    simp only [List.flatten_cons, List.flatten_nil, List.append_nil, List.map_map]
    refine List.ext_getElem (by simp [hk]) fun j h1 h2 => ?_
    simp only [List.getElem_map, List.getElem_range, Function.comp]
    have hj : j < zl.size := by simpa using h2
    have : (n * k + j) % zl.size = j := by
      rw [hk, Nat.mul_comm, Nat.mul_add_mod]
      exact Nat.mod_eq_of_lt (by omega)
    rw [this]
    simp [hj]
theorem rep_ok (vs : List Value) : ∀ n : Nat, RcList w ok (List.replicate n (vs.map .val)).flatten (List.replicate n vs).flatten
  | 0 => by simp [RcList]
  | n + 1 => by
    rw [List.replicate_succ, List.flatten_cons, List.replicate_succ, List.flatten_cons]
    exact RcList_append (cvals_ok vs) (rep_ok vs n)

theorem snd_mksl (hr : RelM E s a w ρ ok) {ty e : TypeId} {i : TypeInfo} {zv : Value} (hd : P.underlying ty = some (.slice e)) (hi : P.info? e = some i) (hz : i.zero = some zv) (hsz : zv.cells.size = i.size) {n : Int}
    (h0 : 0 ≤ n) (hb : n * i.bytes ≤ 281474976710656) (h63 : n ≤ 9223372036854775807) :
    Outc E { s with rg := s.rg ++ [.arr e i.size (List.replicate n.toNat (zv.cells.toList.map .val))] } (.hnd s.rg.length 0 n.toNat n.toNat true) a w false true
      (fun w => (do pure (Next.value (← Instr.makeSlice ty (.int .i64 n) (.int .i64 n))) : Sem Next).run P w) := by
  have hrun := run_make (P := P) w ty e i zv hd hi hz .i64 .i64 n n h0 (Int.le_refl _) (by rw [Int.mul_comm]; exact hb) h63
  have hrows := made_rows zv.cells i.size hsz n.toNat
  obtain ⟨ρ', h1, h2⟩ := newarr_ok hr e i.size (List.replicate n.toNat (zv.cells.toList.map .val)) (madeCells zv.cells (n.toNat * i.size)) _ [] (Ext.push w _) (heap_push w _) (by rw [hrows, List.append_nil]) (fun el hm => by
    rw [List.eq_of_mem_replicate hm]; simp [hsz]) (rep_ok _ _)
  refine Outc.new (ρ' := ρ') (ok' := ok) (.inl (run_value hrun)) h1 ?_ (fun _ => Ext.push w _)
  unfold R
  exact .inl ⟨_, n.toNat, _, h2, rfl, .inr (by simp), Nat.le_refl _, Nat.le_refl _, by simp [size_madeCells], fun _ => rfl⟩

/-! #### Slices of slices -/
/-- An optional bound. -/
inductive Bd : Option Int → Option Value → Prop
  | none : Bd none none
  | some {k n} : Bd (some n) (some (.int k n))

theorem sb {k : IntKind} {i : Int} {y : Nat} {code : BoundsCode} (h0 : 0 ≤ i) (h1 : i ≤ (y : Int)) : (Instr.sliceBound (.int k i) y code).run P w = .ok i.toNat w := run_sliceBound _ _ _ _ _ h0 h1

theorem bounds_ok {isS : Bool} {len cap : Nat} {lo hi : Option Int} {L H : Option Value} (hL : Bd lo L) (hH : Bd hi H) (h0 : 0 ≤ lo.getD 0) (h1 : lo.getD 0 ≤ hi.getD len) (h2 : hi.getD len ≤ cap) :
    (Instr.sliceBounds isS len cap L H none).run P w = .ok ((lo.getD 0).toNat, (hi.getD len).toNat, cap) w := by
  cases hL <;> cases hH <;> simp only [Option.getD_some, Option.getD_none] at * <;> simp only [Instr.sliceBounds, Sem.run_bind, Sem.run_pure, Result.andThen_ok]
  · simp
  · rename_i kh h
    rw [sb (k := kh) (i := h) (y := cap) (by omega) (by omega)]; simp
  · rename_i kl l
    rw [sb (k := kl) (i := l) (y := len) (by omega) (by omega)]; simp
  · rename_i kl l kh h
    rw [sb (k := kh) (i := h) (y := cap) (by omega) (by omega)]
    simp only [Result.andThen_ok]
    rw [sb (k := kl) (i := l) (y := h.toNat) (by omega) (by omega)]; simp
theorem bounds_ok3 {isS : Bool} {len cap : Nat} {lo : Option Int} {L : Option Value} {h m : Int} {kh km : IntKind} (hL : Bd lo L) (h0 : 0 ≤ lo.getD 0) (h1 : lo.getD 0 ≤ h) (h2 : h ≤ m) (h3 : m ≤ cap) :
    (Instr.sliceBounds isS len cap L (some (.int kh h)) (some (.int km m))).run P w = .ok ((lo.getD 0).toNat, h.toNat, m.toNat) w := by
  cases hL <;> simp only [Option.getD_some, Option.getD_none] at * <;> simp only [Instr.sliceBounds, Sem.run_bind, Sem.run_pure, Result.andThen_ok]
  · rw [sb (k := km) (i := m) (y := cap) (by omega) (by omega)]
    simp only [Result.andThen_ok]
    rw [sb (k := kh) (i := h) (y := m.toNat) (by omega) (by omega)]; simp
  · rename_i kl l
    rw [sb (k := km) (i := m) (y := cap) (by omega) (by omega)]
    simp only [Result.andThen_ok]
    rw [sb (k := kh) (i := h) (y := m.toNat) (by omega) (by omega)]
    simp only [Result.andThen_ok]
    rw [sb (k := kl) (i := l) (y := h.toNat) (by omega) (by omega)]; simp

theorem RcEls_take {b sz : Nat} : ∀ {els : List (List AV)} {o : Nat} (n : Nat), RcEls w ok b sz o els → RcEls w ok b sz o (els.take n)
  | els, o, 0, _ => by simp [RcEls]
  | [], o, n + 1, _ => by simp [RcEls]
  | e :: els, o, n + 1, h => by
    unfold RcEls at h
    rw [List.take_succ_cons]
    unfold RcEls
    exact ⟨h.1, h.2.1, RcEls_take n h.2.2⟩
theorem RcEls_drop {b sz : Nat} : ∀ {els : List (List AV)} {o : Nat} (n : Nat), RcEls w ok b sz o els → RcEls w ok b sz (o + n * sz) (els.drop n)
  | els, o, 0, h => by simpa using h
  | [], o, n + 1, _ => by simp [RcEls]
  | e :: els, o, n + 1, h => by
    unfold RcEls at h
    rw [List.drop_succ_cons, Nat.succ_mul, show o + (n * sz + sz) = o + sz + n * sz by omega]
    exact RcEls_drop n h.2.2

theorem imm_slice {nl : Option Bool} {fu : Bool} {sz : Nat} {els : List (List AV)} {v : Value} (hx : R w ok ρ (.imm nl fu sz els) v) :
    ∃ A c, v = .slice A els.length c ∧ els.length ≤ c ∧ ∀ (l h m : Nat), l ≤ h → h ≤ els.length → h ≤ m → m ≤ c → ∀ fu' : Bool, (fu' = true → m = h) →
      R w ok ρ (.imm nl fu' sz ((els.take h).drop l)) (.slice (if m = l then A else A.map (·.add (l * sz))) (h - l) (m - l)) := by
  unfold R Rc at hx
  obtain ⟨A, c, rfl, h2, h3, h4, h5, h6⟩ := hx
  refine ⟨A, c, rfl, h2, fun l h m h7 h8 h9 h10 fu' h11 => ?_⟩
  have hlen : ((els.take h).drop l).length = h - l := by simp; omega
  unfold R Rc
  refine ⟨_, m - l, by rw [hlen], by omega, ?_, ?_, fun hf => by rw [hlen, h11 hf], fun ad had hne => ?_⟩
  · intro q hq
    have := h3 q hq
    split
    · exact this
    · cases A <;> simpa using this
  · intro hA
    split at hA
    · omega
    · cases A with
      | none => have := h4 rfl; omega
      | some a => simp at hA
  · have hne' : l < h := by
      rcases Nat.lt_or_ge l h with h12 | h12
      · exact h12
      · exact absurd (List.eq_nil_of_length_eq_zero (by omega)) hne
    rw [if_neg (by omega)] at had
    cases A with
    | none => simp at had
    | some a1 =>
      have had' : a1.add (l * sz) = ad := by simpa using had
      obtain ⟨h12, h13, h14⟩ := h6 a1 rfl (by intro e; rw [e] at h8; simp at h8; omega)
      obtain ⟨b, o, sp⟩ := a1
      simp only at h12 h13 h14
      subst h12
      rw [add_plain] at had'
      subst had'
      exact ⟨rfl, h13, RcEls_drop l (RcEls_take h h14)⟩

theorem snd_slc_imm (hr : RelM E s a w ρ ok) {ty e : TypeId} {i : TypeInfo} (hd : P.underlying ty = some (.slice e)) (hi : P.info? e = some i) {nl : Option Bool} {fu : Bool} {els : List (List AV)} {v : Value} (hx : R w ok ρ (.imm nl fu i.size els) v)
    {lo hi' : Option Int} {L H M : Option Value} (hL : Bd lo L) (hH : Bd hi' H) (h0 : 0 ≤ lo.getD 0) (h1 : lo.getD 0 ≤ hi'.getD els.length) (h2 : hi'.getD els.length ≤ els.length) {fu' : Bool}
    (hM : (fu' = false ∧ M = none) ∨ (hi'.isSome = true ∧ ∃ km, M = some (.int km (hi'.getD els.length)))) :
    Outc E s (.imm nl fu' i.size ((els.take (hi'.getD els.length).toNat).drop (lo.getD 0).toNat)) a w true true (fun w => (do pure (Next.value (← Instr.sliceAt ty v L H M)) : Sem Next).run P w) := by
  obtain ⟨A, c, rfl, h3, hall⟩ := imm_slice hx
  rcases hM with ⟨rfl, rfl⟩ | ⟨hs, km, rfl⟩
  · have hb := fun w : World => bounds_ok (P := P) (w := w) (isS := true) (len := els.length) (cap := c) hL hH h0 h1 (by omega)
    refine Outc.same hr (fun w he => run_value ?_) (hall (lo.getD 0).toNat (hi'.getD els.length).toNat c (by omega) (by omega) (by omega) (Nat.le_refl _) false (fun h => by cases h))
    simp only [Instr.sliceAt, Sem.run_bind, run_underlying hd, Result.andThen_ok, Instr.slice, hb, run_sizeOf hi, Sem.run_pure]
  · cases hH with
    | none => simp at hs
    | @some kh h =>
      simp only [Option.getD_some] at *
      have hb := fun w : World => bounds_ok3 (P := P) (w := w) (isS := true) (len := els.length) (cap := c) (kh := kh) (km := km) (h := h) (m := h) hL h0 h1 (Int.le_refl _) (by omega)
      refine Outc.same hr (fun w he => run_value ?_) (hall (lo.getD 0).toNat h.toNat h.toNat (by omega) (by omega) (Nat.le_refl _) (by omega) fu' (fun _ => rfl))
      simp only [Instr.sliceAt, Sem.run_bind, run_underlying hd, Result.andThen_ok, Instr.slice, hb, run_sizeOf hi, Sem.run_pure]

theorem snd_slc_hnd (hr : RelM E s a w ρ ok) {ty e : TypeId} {i : TypeInfo} (hd : P.underlying ty = some (.slice e)) (hi : P.info? e = some i) {r off n k : Nat} {ex : Bool} {v : Value} (hx : R w ok ρ (.hnd r off n k ex) v)
    {e' : TypeId} {els : List (List AV)} (hg : s.reg r = .arr e' i.size els)
    {lo hi' : Option Int} {L H M : Option Value} (hL : Bd lo L) (hH : Bd hi' H) (h0 : 0 ≤ lo.getD 0) (h1 : lo.getD 0 ≤ hi'.getD n) (h2 : hi'.getD n ≤ k)
    (hM : (M = none ∧ z = .hnd r (off + (lo.getD 0).toNat) ((hi'.getD n).toNat - (lo.getD 0).toNat) (k - (lo.getD 0).toNat) ex) ∨
      (hi'.isSome = true ∧ ∃ km m, M = some (.int km m) ∧ hi'.getD n ≤ m ∧ m ≤ k ∧ z = .hnd r (off + (lo.getD 0).toNat) ((hi'.getD n).toNat - (lo.getD 0).toNat) (m.toNat - (lo.getD 0).toNat) true)) :
    Outc E s z a w true true (fun w => (do pure (Next.value (← Instr.sliceAt ty v L H M)) : Sem Next).run P w) := by
  unfold R at hx
  rcases hx with ⟨p, cc, ad, h3, rfl, h4, h5, h6, h7, h8⟩ | ⟨h3, rfl, h4, h5, h6⟩
  · have hsz : p.sz = i.size := by
      rcases hr.mem.reg r _ (reg_some hg (by simp)) with ⟨b, d, C, pre, vs, rest, h9, _⟩ | ⟨_, h9⟩
      · rw [h3] at h9; injection h9 with h9; injection h9 with h9; rw [h9]
      · rw [h3] at h9; injection h9 with h9; cases h9
    rcases hM with ⟨rfl, rfl⟩ | ⟨hs, km, m, rfl, hm1, hm2, rfl⟩
    · have hb := fun w : World => bounds_ok (P := P) (w := w) (isS := true) (len := n) (cap := cc) hL hH h0 h1 (by omega)
      refine Outc.same hr (v := .slice (if cc = (lo.getD 0).toNat then some ad else (some ad).map (·.add ((lo.getD 0).toNat * i.size))) ((hi'.getD n).toNat - (lo.getD 0).toNat) (cc - (lo.getD 0).toNat)) (fun w he => run_value ?_) ?_
      · simp only [Instr.sliceAt, Sem.run_bind, run_underlying hd, Result.andThen_ok, Instr.slice, hb, run_sizeOf hi, Sem.run_pure]
      · unfold R
        refine .inl ⟨p, cc - (lo.getD 0).toNat, if cc = (lo.getD 0).toNat then ad else ad.add ((lo.getD 0).toNat * i.size), h3, ?_, ?_, by omega, by omega, ?_, fun hx => by have := h8 hx; omega⟩
        · split <;> rfl
        · by_cases hc : cc = (lo.getD 0).toNat
          · exact .inl (by omega)
          · right
            rw [if_neg hc]
            rcases h4 with h4 | h4
            · omega
            · rw [h4, add_plain, hsz, Nat.add_mul, Nat.add_assoc]
        · rw [show off + (lo.getD 0).toNat + (cc - (lo.getD 0).toNat) = off + cc by omega]; exact h7
    · cases hH with
      | none => simp at hs
      | @some kh h =>
        simp only [Option.getD_some] at *
        have hb := fun w : World => bounds_ok3 (P := P) (w := w) (isS := true) (len := n) (cap := cc) (kh := kh) (km := km) (h := h) (m := m) hL h0 h1 hm1 (by omega)
        refine Outc.same hr (v := .slice (if m.toNat = (lo.getD 0).toNat then some ad else (some ad).map (·.add ((lo.getD 0).toNat * i.size))) (h.toNat - (lo.getD 0).toNat) (m.toNat - (lo.getD 0).toNat)) (fun w he => run_value ?_) ?_
        · simp only [Instr.sliceAt, Sem.run_bind, run_underlying hd, Result.andThen_ok, Instr.slice, hb, run_sizeOf hi, Sem.run_pure]
        · unfold R
          refine .inl ⟨p, m.toNat - (lo.getD 0).toNat, if m.toNat = (lo.getD 0).toNat then ad else ad.add ((lo.getD 0).toNat * i.size), h3, ?_, ?_, by omega, Nat.le_refl _, ?_, fun _ => rfl⟩
          · split <;> rfl
          · by_cases hc : m.toNat = (lo.getD 0).toNat
            · exact .inl (by omega)
            · right
              rw [if_neg hc]
              rcases h4 with h4 | h4
              · omega
              · rw [h4, add_plain, hsz, Nat.add_mul, Nat.add_assoc]
          · refine Nat.le_trans ?_ h7
            exact Nat.add_le_add_left (Nat.mul_le_mul_right _ (by omega)) _
  · rcases hM with ⟨rfl, rfl⟩ | ⟨hs, km, m, rfl, hm1, hm2, rfl⟩
    · have hb := fun w : World => bounds_ok (P := P) (w := w) (isS := true) (len := 0) (cap := 0) hL hH h0 (by rw [h5] at h1; exact h1) (by rw [h5, h6] at h2; simpa using h2)
      have e0 : (lo.getD 0).toNat = 0 := by omega
      have e1 : (hi'.getD n).toNat = 0 := by omega
      refine Outc.same hr (v := .slice none 0 0) (fun w he => run_value ?_) ?_
      · simp only [Instr.sliceAt, Sem.run_bind, run_underlying hd, Result.andThen_ok, Instr.slice, hb, run_sizeOf hi, Sem.run_pure]
        rw [h5] at e1
        simp only [Int.ofNat_eq_natCast, Int.natCast_zero] at e1 ⊢
        simp [e0, e1]
      · unfold R; exact .inr ⟨h3, rfl, by omega, by omega, by omega⟩
    · cases hH with
      | none => simp at hs
      | @some kh h =>
        simp only [Option.getD_some] at *
        have hb := fun w : World => bounds_ok3 (P := P) (w := w) (isS := true) (len := 0) (cap := 0) (kh := kh) (km := km) (h := h) (m := m) hL h0 h1 hm1 (by omega)
        have e0 : (lo.getD 0).toNat = 0 := by omega
        have e1 : h.toNat = 0 := by omega
        have e2 : m.toNat = 0 := by omega
        refine Outc.same hr (v := .slice none 0 0) (fun w he => run_value ?_) ?_
        · simp only [Instr.sliceAt, Sem.run_bind, run_underlying hd, Result.andThen_ok, Instr.slice, hb, run_sizeOf hi, Sem.run_pure]
          simp [e0, e1, e2]
        · unfold R; exact .inr ⟨h3, rfl, by omega, by omega, by omega⟩

theorem snd_slc_nil (hr : RelM E s a w ρ ok) {ty e : TypeId} {i : TypeInfo} (hd : P.underlying ty = some (.slice e)) (hi : P.info? e = some i)
    {lo hi' mx : Option Int} {L H M : Option Value} (hL : Bd lo L) (hH : Bd hi' H) (hM : Bd mx M) (h0 : lo.getD 0 = 0) (h1 : hi'.getD 0 = 0) (h2 : mx.getD 0 = 0) (h3 : mx.isSome = true → hi'.isSome = true) :
    Outc E s (.val (.slice none 0 0)) a w true true (fun w => (do pure (Next.value (← Instr.sliceAt ty (.slice none 0 0) L H M)) : Sem Next).run P w) := by
  refine Outc.same hr (fun w he => run_value ?_) (R_val_mk _)
  cases hM with
  | none =>
    have hb := fun w : World => bounds_ok (P := P) (w := w) (isS := true) (len := 0) (cap := 0) hL hH (by omega) (by rw [h0]; simpa using Int.le_of_eq h1.symm) (by simpa using Int.le_of_eq h1)
    have e0 : (lo.getD 0).toNat = 0 := by omega
    have e1 : (hi'.getD ((0 : Nat) : Int)).toNat = 0 := by simp [h1]
    simp only [Instr.sliceAt, Sem.run_bind, run_underlying hd, Result.andThen_ok, Instr.slice, hb, run_sizeOf hi, Sem.run_pure]
    simp only [e0, e1]
    simp
  | @some km m =>
    cases hH with
    | none => simp at h3
    | @some kh h =>
      simp only [Option.getD_some] at *
      have hb := fun w : World => bounds_ok3 (P := P) (w := w) (isS := true) (len := 0) (cap := 0) (kh := kh) (km := km) (h := h) (m := m) hL (by omega) (by omega) (by omega) (by omega)
      have e0 : (lo.getD 0).toNat = 0 := by omega
      simp only [Instr.sliceAt, Sem.run_bind, run_underlying hd, Result.andThen_ok, Instr.slice, hb, run_sizeOf hi, Sem.run_pure]
      simp [e0, h1, h2]

theorem snd_slcs (hr : RelM E s a w ρ ok) {ty : TypeId} (hd : P.underlying ty = some .string) {b : ByteArray}
    {lo hi' : Option Int} {L H : Option Value} (hL : Bd lo L) (hH : Bd hi' H) (h0 : 0 ≤ lo.getD 0) (h1 : lo.getD 0 ≤ hi'.getD b.size) (h2 : hi'.getD b.size ≤ b.size) :
    Outc E s (.val (.string (b.extract (lo.getD 0).toNat (hi'.getD b.size).toNat))) a w true true (fun w => (do pure (Next.value (← Instr.sliceAt ty (.string b) L H none)) : Sem Next).run P w) := by
  refine Outc.same hr (fun w he => run_value ?_) (R_val_mk _)
  have hb := fun w : World => bounds_ok (P := P) (w := w) (isS := false) (len := b.size) (cap := b.size) hL hH h0 h1 h2
  simp only [Instr.sliceAt, Sem.run_bind, run_underlying hd, Result.andThen_ok, Instr.slice, Option.isSome_none, Bool.false_eq_true, if_false, Sem.run_pure, hb]

/-! #### A string's bytes -/
theorem bytes_cells (b : ByteArray) {w : World} {k : Nat} {C : Array Value} {e : TypeId} {fr : Nat × Nat} (hw : w.heap[k]? = some (.cells C e fr)) (hC : ∃ rest, C.toList = (b.data.toList.map fun x => Value.int .u8 x.toNat) ++ rest) :
    RcEls w ok k 1 0 (b.data.toList.map fun c => [.val (.int .u8 c.toNat)]) := by
  obtain ⟨rest, hC⟩ := hC
  have key : ∀ (l : List UInt8) (o : Nat) (pre : List Value), pre.length = o → C.toList = pre ++ ((l.map fun x => Value.int .u8 x.toNat) ++ rest) → RcEls w ok k 1 o (l.map fun c => [AV.val (.int .u8 c.toNat)]) := by
    intro l
    induction l with
    | nil => intro o pre _ _; simp [RcEls]
    | cons x l ih =>
      intro o pre hp hc
      simp only [List.map_cons]
      unfold RcEls RcCells RcCells
      refine ⟨rfl, ⟨⟨.int .u8 x.toNat, ?_, by unfold Rc; rfl⟩, trivial⟩, ih (o + 1) (pre ++ [.int .u8 x.toNat]) (by simp [hp]) (by rw [hc]; simp)⟩
      rw [cell_of0 hw, ← Array.getElem?_toList, hc, List.getElem?_append_right (by omega), hp]
      simp
  exact key b.data.toList 0 [] rfl (by simpa using hC)

theorem snd_stb (hr : RelM E s a w ρ ok) {src dst e : TypeId} (hs : P.underlying src = some .string) (hd : P.underlying dst = some (.slice e)) (he : P.underlying e = some (.int .u8)) {b : ByteArray} :
    Outc E s (.imm (some false) false 1 (b.data.toList.map fun c => [.val (.int .u8 c.toNat)])) a w false true (fun w => (do pure (Next.value (← convert src dst (.string b))) : Sem Next).run P w) := by
  generalize hcap : (Question.appendCap b.size 0 e).cut (w.tape w.drawn (.appendCap b.size 0 e)) = cap
  have hle : b.size ≤ cap := by rw [← hcap]; exact Nat.le_add_right _ _
  generalize hC : (b.data.map fun x => Value.int .u8 x.toNat) ++ Array.replicate (cap - b.size) (Value.int .u8 0) = C
  have hCs : C.size = cap := by rw [← hC]; simp; omega
  let w1 : World := { w with drawn := w.drawn + 1, heap := w.heap.push (.cells C e) }
  have hrun : ∃ w', (convert src dst (.string b)).run P w = .ok (.slice (some ⟨w.heap.size, 0, none⟩) b.size cap) w' ∧ w' = w1.freeze ⟨w.heap.size, cap, none⟩ 1 := by
    refine ⟨_, ?_, rfl⟩
    simp only [convert, Sem.run_bind, run_underlying hs, run_underlying hd, run_underlying he, Result.andThen_ok, Conv.stringToBytes, run_choose, Question.forced, Bool.false_eq_true, if_false, hcap, newRow, run_newObj, Sem.run_pure, markStringish, run_shape, hC]
    simp only [World.shape?]
    rw [show ({ heap := w.heap.push (Obj.cells C e), tape := w.tape, drawn := w.drawn + 1, os := w.os, output := w.output } : World).heap[w.heap.size]? = some (.cells C e (0, 0)) by simp]
    simp only [Sem.run_bind, run_freeze, Result.andThen_ok, Sem.run_pure, hCs]
    rfl
  obtain ⟨w', hrun, hw'⟩ := hrun
  have hext : Ext w w' := by
    subst hw'
    refine ⟨rfl, rfl, rfl, ?_, fun k hk => ?_⟩
    · simp [World.freeze, w1]
    · simp only [World.freeze, w1]
      simp only [Nat.one_ne_zero, if_false, Array.getElem?_modify, Array.getElem?_push]
      rw [if_neg (by omega), if_neg (by omega)]
  have hsize : w'.heap.size = w.heap.size + 1 := by subst hw'; simp [World.freeze, w1]
  have hblk : ∃ fr, w'.heap[w.heap.size]? = some (.cells C e fr) := by
    subst hw'
    refine ⟨(cap, cap + 1), ?_⟩
    simp only [World.freeze, w1, Nat.one_ne_zero, if_false, Array.getElem?_modify, if_true, Array.getElem?_push]
    simp
  obtain ⟨fr, hblk⟩ := hblk
  have hr' := hr.ext hext
  have hk : ∀ k, ok k → ok k ∨ k = w.heap.size := fun k h => .inl h
  have hrd : Reads ok w' w' := fun _ _ _ _ h => h
  refine Outc.new (w' := w') (ρ' := ρ) (ok' := fun k => ok k ∨ k = w.heap.size) (.inl (run_value hrun)) ?_ ?_ (fun _ => hext)
  · refine ⟨⟨fun k h => ?_, hr'.mem.inj, fun r p hp => ⟨(hr'.mem.own r p hp).1, fun h => ?_⟩, fun r g hg => ?_, hr'.mem.out⟩, fun n => R_frame hrd hk (fun _ _ x => x) _ _ (hr'.tm n), hr'.siz, hr'.dfr, hr'.kps, hr'.bas, hr'.ownr, fun k h => ?_, hr'.pin⟩
    · rcases h with h | h
      · exact hr'.mem.okl k h
      · omega
    · rcases h with h | h
      · exact (hr'.mem.own r p hp).2 h
      · have := (hr.mem.own r p hp).1; omega
    · have h0 := hr'.mem.reg r g hg
      cases g with
      | dead => exact h0
      | box e' cs =>
        obtain ⟨b', C', h1, h2, h3⟩ := h0
        exact ⟨b', C', h1, h2, RList_frame hrd hk (fun _ _ x => x) _ _ h3⟩
      | arr e' sz els =>
        rcases h0 with ⟨b', d, C', pre, vs, rest, h1, h2, h3, h4, h5, h6⟩ | h0
        · exact .inl ⟨b', d, C', pre, vs, rest, h1, h2, h3, h4, h5, RcList_frame hrd hk _ _ h6⟩
        · exact .inr h0
      | tab e' cs =>
        rcases h0 with ⟨b', d, C', pre, vs, rest, h1, h2, h3, h4, h6⟩ | h0
        · exact .inl ⟨b', d, C', pre, vs, rest, h1, h2, h3, h4, RList_frame hrd hk (fun _ _ x => x) _ _ h6⟩
        · exact .inr h0
    · rcases h with h | h
      · exact hr'.okr k h
      · right; left; rw [h]; exact hr.bas
  · unfold R Rc
    refine ⟨some ⟨w.heap.size, 0, none⟩, cap, by simp, by simpa using hle, fun q hq => by (cases hq; rfl), fun h => by (cases h), fun h => by (cases h), fun ad had _ => ?_⟩
    injection had with had
    subst had
    refine ⟨rfl, .inr rfl, bytes_cells b hblk ⟨(Array.replicate (cap - b.size) (Value.int .u8 0)).toList, ?_⟩⟩
    rw [← hC]; simp
end
end Go.Proofs.Ytoickofcmngdjaa.Aw

/- A logic of abstract states for walks: every operation. -/
set_option linter.unusedVariables false
set_option linter.unusedSimpArgs false
namespace Go.Proofs.Ytoickofcmngdjaa.Aw
open Go.RowKit

def AOp.mild : AOp → Bool
  | .store .. => false
  | _ => true
/-- The world stays. -/
def AOp.still : AOp → Bool
  | .store .. => false
  | .alloc .. => false
  | .box .. => false
  | .bsl .. => false
  | .mksl .. => false
  | .stb .. => false
  | _ => true

section
variable {P : Program} {E : Env} {s s' : St} {a : Act} {w : World} {ρ : Nat → Option (Option Place)} {ok : Nat → Prop} {ev : Opd → AV} {z : AV}

theorem mk_int {k : IntKind} {n : Int} {v : Value} (h : R w ok ρ (.val (.int k n)) v) : v = .int k n := R_val h

theorem optInt_ok {x : Option Operand} {l : Option Int} (h : optInt ev (x.map Opd.of) = some l) (hev : ∀ y ∈ x, R w ok ρ (ev (.of y)) (a.eval y)) : Bd l (x.map a.eval) := by
  cases x with
  | none => simp only [Option.map_none, optInt, Option.some.injEq] at h; subst h; exact .none
  | some y =>
    simp only [Option.map_some, optInt] at h
    split at h
    · rename_i k n hy
      simp only [Option.some.injEq] at h
      subst h
      have := hev y rfl
      rw [hy] at this
      rw [Option.map_some, R_val this]; exact .some
    · cases h

theorem caps_ok : ∀ (l : List Operand), (∀ y ∈ l, R w ok ρ (ev (.of y)) (a.eval y)) → RList w ok ρ ((l.map Opd.of).map ev) (l.map a.eval)
  | [], _ => by unfold RList; rfl
  | y :: l, h => by
    simp only [List.map_cons]
    unfold RList
    exact ⟨_, _, rfl, h y List.mem_cons_self, caps_ok l fun x hx => h x (List.mem_cons_of_mem _ hx)⟩

theorem rows_parts {sz : Nat} : ∀ (l : List (Nat × Operand)) (k : Nat), l.map (·.1) = (List.range' k l.length) → (∀ y ∈ l, R w ok ρ (ev (.of y.2)) (a.eval y.2)) →
    PartsOk P w ok ρ (fun i => some (i * sz, sz)) (l.map fun p => (p.1, a.eval p.2)) (((l.map fun p => ev (.of p.2)).zipIdx k).map fun p => (p.2 * sz, sz, p.1))
  | [], k, _, _ => .nil
  | (i, y) :: l, k, h, hev => by
    simp only [List.length_cons, List.map_cons, List.range'_succ] at h
    injection h with h1 h2
    subst h1
    simp only [List.map_cons, List.zipIdx_cons]
    exact .cons rfl (hev _ List.mem_cons_self) (rows_parts l (i + 1) h2 fun x hx => hev x (List.mem_cons_of_mem _ hx))

theorem arr_parts {sz : Nat} : ∀ (l : List (Nat × Operand)), (∀ y ∈ l, R w ok ρ (ev (.of y.2)) (a.eval y.2)) →
    PartsOk P w ok ρ (fun i => some (i * sz, sz)) (l.map fun p => (p.1, a.eval p.2)) (l.map fun p => (p.1 * sz, sz, ev (.of p.2)))
  | [], _ => .nil
  | (i, y) :: l, hev => by
    simp only [List.map_cons]
    exact .cons rfl (hev _ List.mem_cons_self) (arr_parts l fun x hx => hev x (List.mem_cons_of_mem _ hx))

theorem equalIn_bool {ty : TypeId} (hu : P.underlying ty = some .bool) (d : Nat) (b c : Bool) {w : World} : (Op.equalIn (d + 1) ty (.bool b) (.bool c)).run P w = .ok (b == c) w := by
  rw [Op.equalIn]
  simp only [Sem.run_bind, run_underlying hu, Result.andThen_ok]; rfl
theorem equalIn_slice {ty e : TypeId} (hu : P.underlying ty = some (.slice e)) (d : Nat) (A : Option Addr) (p q m n : Nat) {w : World} : (Op.equalIn (d + 1) ty (.slice A p q) (.slice none m n)).run P w = .ok A.isNone w := by
  rw [Op.equalIn]
  cases A <;> (simp only [Sem.run_bind, run_underlying hu, Result.andThen_ok]; rfl)
theorem equalIn_ptr {ty e : TypeId} (hu : P.underlying ty = some (.pointer e)) (d : Nat) (A : Option Addr) {w : World} : (Op.equalIn (d + 1) ty (.pointer A) (.pointer none)).run P w = .ok A.isNone w := by
  rw [Op.equalIn]
  cases A <;> (simp only [Sem.run_bind, run_underlying hu, Result.andThen_ok]; rfl)
theorem run_equal_bool {ty : TypeId} (hu : P.underlying ty = some .bool) (b c : Bool) {w : World} : (Op.equal ty (.bool b) (.bool c)).run P w = .ok (b == c) w := equalIn_bool hu 9999 b c
theorem run_equal_slice {ty e : TypeId} (hu : P.underlying ty = some (.slice e)) (A : Option Addr) (p q m n : Nat) {w : World} : (Op.equal ty (.slice A p q) (.slice none m n)).run P w = .ok A.isNone w := equalIn_slice hu 9999 A p q m n
theorem run_equal_ptr {ty e : TypeId} (hu : P.underlying ty = some (.pointer e)) (A : Option Addr) {w : World} : (Op.equal ty (.pointer A) (.pointer none)).run P w = .ok A.isNone w := equalIn_ptr hu 9999 A
theorem run_nil_iface {ty : TypeId} {ms : Array (String × TypeId)} (hu : P.underlying ty = some (.interface ms)) {ox : Operand} (v : Value) (hv : v = .nilIface ∨ ∃ t x, v = .iface t x) (neg : Bool) {w : World} :
    (do eqGuard (if neg = true then .neq else .eql) ty ox (.const .nilIface) v .nilIface; binOp (if neg = true then .neq else .eql) ty v .nilIface : Sem Value).run P w = .ok (.bool (bif neg then !(v matches .nilIface) else (v matches .nilIface))) w := by
  have h : (Op.equal ty v .nilIface).run P w = .ok (v matches .nilIface) w := by
    show (Op.equalIn 10000 ty v .nilIface).run P w = _
    rw [Op.equalIn]
    rcases hv with rfl | ⟨t, x, rfl⟩ <;> (simp only [Sem.run_bind, run_underlying hu, Result.andThen_ok]; rfl)
  rcases hv with rfl | ⟨t, x, rfl⟩ <;> cases neg <;> simp [eqGuard, binOp, h]
/-- A comparison by == or !=, of values that are neither numbers nor strings. -/
def otherKind : Value → Value → Bool
  | .bool _, .bool _ => true
  | .slice .., .slice .. => true
  | .pointer _, .pointer _ => true
  | _, _ => false
theorem run_eq2 {ty : TypeId} {x y : Value} {ox oy : Operand} {b : Bool} (neg : Bool) {w : World} (h : (Op.equal ty x y).run P w = .ok b w) (hk : otherKind x y = true) :
    (do eqGuard (if neg = true then .neq else .eql) ty ox oy x y; binOp (if neg = true then .neq else .eql) ty x y : Sem Value).run P w = .ok (.bool (bif neg then !b else b)) w := by
  unfold otherKind at hk
  split at hk <;> first | (cases hk; done) | skip
  all_goals cases neg <;> simp [eqGuard, binOp, h]

theorem RList_uncons {x : AV} {xs : List AV} {vs : List Value} (h : RList w ok ρ (x :: xs) vs) : ∃ v vs', vs = v :: vs' ∧ R w ok ρ x v ∧ RList w ok ρ xs vs' := by
  unfold RList at h; exact h
theorem drop_one {vs : Array Value} {o : Nat} {v : Value} {l : List Value} (h : vs.toList.drop o = v :: l) : vs[o]? = some v ∧ vs.toList.drop (o + 1) = l := by
  constructor
  · have : (vs.toList.drop o)[0]? = some v := by rw [h]; rfl
    rw [List.getElem?_drop, Array.getElem?_toList] at this
    simpa using this
  · rw [← List.drop_drop, h]; rfl
theorem run_part1 {ty : TypeId} {d : TypeDesc} (hd : P.underlying ty = some d) (hag : isAg d = false) {vs : Array Value} {o : Nat} {v : Value} (h : vs[o]? = some v) (w : World) : (part ty vs o).run P w = .ok v w := by
  simp [part, run_isAgg hd, hag, h]
theorem eqFields_ok {d : Nat} : ∀ {fs : List Field} {o : Nat} {ks : List EK} {xs ys : List AV} {vs us : Array Value} {b : Bool}, eqKinds P o fs = some ks → RList w ok ρ xs (vs.toList.drop o) → RList w ok ρ ys (us.toList.drop o) → eqCells ks xs ys = some b →
    ∀ w', (Op.eqFields (d + 1) vs us fs).run P w' = .ok b w'
  | [], o, ks, xs, ys, vs, us, b, hk, hx, hy, hb, w' => by
    simp only [eqKinds, Option.some.injEq] at hk
    subst hk
    unfold eqCells at hb
    split at hb <;> first | (cases hb; done) | skip
    simp only [Option.some.injEq] at hb; subst hb; rfl
  | f :: fs, o, ks, xs, ys, vs, us, b, hk, hx, hy, hb, w' => by
    unfold eqKinds at hk
    split at hk <;> first | (cases hk; done) | skip
    rename_i hf
    obtain ⟨hf, rfl⟩ := hf
    unfold Op.eqFields
    rw [if_pos hf]
    split at hk <;> first | (cases hk; done) | skip
    · rename_i k0 hu
      simp only [Option.map_eq_some_iff] at hk
      obtain ⟨ks', hk', rfl⟩ := hk
      unfold eqCells at hb
      split at hb <;> first | (cases hb; done) | skip
      rename_i k a xs' k' b' ys'
      split at hb <;> first | (cases hb; done) | skip
      rename_i hkk
      subst hkk
      simp only [Option.map_eq_some_iff] at hb
      obtain ⟨r, hr, rfl⟩ := hb
      obtain ⟨v, l1, e1, r1, m1⟩ := RList_uncons hx
      obtain ⟨u, l2, e2, r2, m2⟩ := RList_uncons hy
      obtain rfl := R_val r1
      obtain rfl := R_val r2
      obtain ⟨g1, g2⟩ := drop_one e1
      obtain ⟨g3, g4⟩ := drop_one e2
      rw [← g2] at m1; rw [← g4] at m2
      have ih := eqFields_ok (d := d) hk' m1 m2 hr
      simp only [Sem.run_bind, run_part1 hu rfl g1, run_part1 hu rfl g3, Result.andThen_ok, run_equalIn_int _ _ _ _ _ _ _ hu]
      cases hab : (a == b') <;> simp [ih]
    · rename_i hu
      simp only [Option.map_eq_some_iff] at hk
      obtain ⟨ks', hk', rfl⟩ := hk
      unfold eqCells at hb
      split at hb <;> first | (cases hb; done) | skip
      rename_i a xs' b' ys'
      simp only [Option.map_eq_some_iff] at hb
      obtain ⟨r, hr, rfl⟩ := hb
      obtain ⟨v, l1, e1, r1, m1⟩ := RList_uncons hx
      obtain ⟨u, l2, e2, r2, m2⟩ := RList_uncons hy
      obtain rfl := R_val r1
      obtain rfl := R_val r2
      obtain ⟨g1, g2⟩ := drop_one e1
      obtain ⟨g3, g4⟩ := drop_one e2
      rw [← g2] at m1; rw [← g4] at m2
      have ih := eqFields_ok (d := d) hk' m1 m2 hr
      simp only [Sem.run_bind, run_part1 hu rfl g1, run_part1 hu rfl g3, Result.andThen_ok, run_equalIn_string _ _ _ _ _ hu]
      cases hab : (a.toList == b'.toList) <;> simp [ih]
    · rename_i hu
      simp only [Option.map_eq_some_iff] at hk
      obtain ⟨ks', hk', rfl⟩ := hk
      unfold eqCells at hb
      split at hb <;> first | (cases hb; done) | skip
      rename_i a xs' b' ys'
      simp only [Option.map_eq_some_iff] at hb
      obtain ⟨r, hr, rfl⟩ := hb
      obtain ⟨v, l1, e1, r1, m1⟩ := RList_uncons hx
      obtain ⟨u, l2, e2, r2, m2⟩ := RList_uncons hy
      obtain rfl := R_val r1
      obtain rfl := R_val r2
      obtain ⟨g1, g2⟩ := drop_one e1
      obtain ⟨g3, g4⟩ := drop_one e2
      rw [← g2] at m1; rw [← g4] at m2
      have ih := eqFields_ok (d := d) hk' m1 m2 hr
      simp only [Sem.run_bind, run_part1 hu rfl g1, run_part1 hu rfl g3, Result.andThen_ok, run_equalIn_bool' _ _ _ _ _ hu]
      cases hab : (a == b') <;> simp [ih]

set_option maxHeartbeats 1000000 in
theorem aop_sound {o : Oper} {ao : AOp} (hc : comp P o = some ao) {ob : Prop} (h : aop ev s ao = some (z, s', ob)) (hob : ob) (hr : RelM E s a w ρ ok)
    (hev : ∀ x ∈ ao.opds, R w ok ρ (ev x) (x.cv a)) : Outc E s' z a w ao.still ao.mild (fun w => (execOp a.eval o).run P w) := by
  have hbad : ∀ f xs, ao ≠ .bad f xs := by rintro f xs rfl; simp [aop] at h
  replace hc := comp0_of hc hbad
  obtain ⟨dst, op, type, pos, after, guard⟩ := o
  have hof : ∀ {x : Operand}, Opd.of x ∈ ao.opds → R w ok ρ (ev (.of x)) (a.eval x) := fun hx => by
    have := hev _ hx; rwa [Opd.cv_of] at this
  cases op <;> simp only [comp0, Option.some.injEq, reduceCtorEq] at hc
  case move x =>
    subst hc
    simp only [aop, Option.some.injEq, Prod.mk.injEq] at h
    obtain ⟨rfl, rfl, rfl⟩ := h
    exact Outc.same hr (fun _ _ => rfl) (hof (by simp [AOp.opds]))
  case assign x =>
    subst hc
    simp only [aop, Option.some.injEq, Prod.mk.injEq] at h
    obtain ⟨rfl, rfl, rfl⟩ := h
    exact Outc.same hr (fun _ _ => rfl) (hof (by simp [AOp.opds]))
  case pick c x y =>
    subst hc
    simp only [aop] at h
    split at h
    · rename_i b hb
      simp only [Option.some.injEq, Prod.mk.injEq] at h
      obtain ⟨rfl, rfl, rfl⟩ := h
      have h1 : R w ok ρ (ev (.of c)) (a.eval c) := hof (by simp [AOp.opds])
      rw [hb] at h1
      have h2 : R w ok ρ (ev (.of x)) (a.eval x) := hof (by simp [AOp.opds])
      have h3 : R w ok ρ (ev (.of y)) (a.eval y) := hof (by simp [AOp.opds])
      refine Outc.same hr (v := bif b then a.eval x else a.eval y) (fun w he => ?_) (pickAV_ok (fun e => R_strip (hob.1 e) h2) (fun e => R_strip (hob.2 e) h3))
      simp only [execOp, R_val h1, asBool]
      cases b <;> rfl
    · cases h
  case binOp op ty x y ty' =>
    split at hc
    · rename_i hu
      have key : ∀ neg : Bool, ao = .beq neg (.of x) (.of y) → op = (if neg then .neq else .eql) → Outc E s' z a w ao.still ao.mild (fun w => (execOp a.eval { dst := dst, op := .binOp op ty x y ty', type := type, pos := pos, after := after, guard := guard }).run P w) := by
        rintro neg rfl rfl
        have h1 : R w ok ρ (ev (.of x)) (a.eval x) := hof (by simp [AOp.opds])
        have h2 : R w ok ρ (ev (.of y)) (a.eval y) := hof (by simp [AOp.opds])
        simp only [aop] at h
        split at h <;> first | (cases h; done) | skip
        rename_i b c hb hc'
        rw [hb] at h1; rw [hc'] at h2
        simp only [Option.some.injEq, Prod.mk.injEq] at h
        obtain ⟨rfl, rfl, rfl⟩ := h
        refine Outc.same hr (v := .bool (bif neg then !(b == c) else (b == c))) (fun w he => ?_) (R_val_mk _)
        simp only [execOp, R_val h1, R_val h2]
        exact run_value (run_eq2 neg (run_equal_bool hu b c) rfl)
      cases op <;> simp only [reduceCtorEq, Option.some.injEq] at hc
      · exact key false hc.symm rfl
      · exact key true hc.symm rfl
    · rename_i e hu
      split at hc <;> first | (cases hc; done) | skip
      rename_i m n
      have key : ∀ (neg : Bool), ao = .nilS neg (.of x) → op = (if neg then .neq else .eql) → Outc E s' z a w ao.still ao.mild (fun w => (execOp a.eval { dst := dst, op := .binOp op ty x (.const (.slice none m n)) ty', type := type, pos := pos, after := after, guard := guard }).run P w) := by
        rintro neg rfl rfl
        have h1 : R w ok ρ (ev (.of x)) (a.eval x) := hof (by simp [AOp.opds])
        simp only [aop] at h
        split at h <;> first | (cases h; done) | skip
        · rename_i b fu sz els hb
          rw [hb] at h1
          simp only [Option.some.injEq, Prod.mk.injEq] at h
          obtain ⟨rfl, rfl, rfl⟩ := h
          unfold R Rc at h1
          obtain ⟨A, c, h2, _, h3, _⟩ := h1
          refine Outc.same hr (v := .bool (bif neg then !b else b)) (fun w he => ?_) (R_val_mk _)
          simp only [execOp, h2]
          have := run_eq2 (P := P) (ox := x) (oy := .const (.slice none m n)) (w := w) neg (run_equal_slice hu A els.length c m n) rfl
          rw [h3 b rfl] at this
          exact run_value this
        · rename_i p q hb
          rw [hb] at h1
          simp only [Option.some.injEq, Prod.mk.injEq] at h
          obtain ⟨rfl, rfl, rfl⟩ := h
          refine Outc.same hr (v := .bool (!neg)) (fun w he => ?_) (R_val_mk _)
          simp only [execOp, R_val h1]
          have := run_eq2 (P := P) (ox := x) (oy := .const (.slice none m n)) (w := w) neg (run_equal_slice hu none p q m n) rfl
          cases neg <;> exact run_value this
      cases op <;> simp only [reduceCtorEq, Option.some.injEq] at hc
      · exact key false hc.symm rfl
      · exact key true hc.symm rfl
    · rename_i e hu
      split at hc <;> first | (cases hc; done) | skip
      have key : ∀ (neg : Bool), ao = .nilP neg (.of x) → op = (if neg then .neq else .eql) → Outc E s' z a w ao.still ao.mild (fun w => (execOp a.eval { dst := dst, op := .binOp op ty x (.const (.pointer none)) ty', type := type, pos := pos, after := after, guard := guard }).run P w) := by
        rintro neg rfl rfl
        have h1 : R w ok ρ (ev (.of x)) (a.eval x) := hof (by simp [AOp.opds])
        simp only [aop] at h
        split at h <;> first | (cases h; done) | skip
        · rename_i hb
          rw [hb] at h1
          simp only [Option.some.injEq, Prod.mk.injEq] at h
          obtain ⟨rfl, rfl, rfl⟩ := h
          refine Outc.same hr (v := .bool (!neg)) (fun w he => ?_) (R_val_mk _)
          simp only [execOp, R_val h1]
          have := run_eq2 (P := P) (ox := x) (oy := .const (.pointer none)) (w := w) neg (run_equal_ptr hu none) rfl
          cases neg <;> exact run_value this
        · rename_i r i o hb
          rw [hb] at h1
          simp only [Option.some.injEq, Prod.mk.injEq] at h
          obtain ⟨rfl, rfl, rfl⟩ := h
          unfold R at h1
          obtain ⟨p, _, h2⟩ := h1
          refine Outc.same hr (v := .bool neg) (fun w he => ?_) (R_val_mk _)
          simp only [execOp, h2]
          have := run_eq2 (P := P) (ox := x) (oy := .const (.pointer none)) (w := w) neg (run_equal_ptr hu (some ⟨p.b, p.d + i * p.sz + o, none⟩)) rfl
          cases neg <;> exact run_value this
        · rename_i cs hb
          rw [hb] at h1
          simp only [Option.some.injEq, Prod.mk.injEq] at h
          obtain ⟨rfl, rfl, rfl⟩ := h
          unfold R Rc at h1
          obtain ⟨b, o, h2, _⟩ := h1
          refine Outc.same hr (v := .bool neg) (fun w he => ?_) (R_val_mk _)
          simp only [execOp, h2]
          have := run_eq2 (P := P) (ox := x) (oy := .const (.pointer none)) (w := w) neg (run_equal_ptr hu (some ⟨b, o, none⟩)) rfl
          cases neg <;> exact run_value this
      cases op <;> simp only [reduceCtorEq, Option.some.injEq] at hc
      · exact key false hc.symm rfl
      · exact key true hc.symm rfl
    · rename_i e hu
      split at hc <;> first | (cases hc; done) | skip
      have key : ∀ (neg : Bool), ao = .nilI neg (.of x) → op = (if neg then .neq else .eql) → Outc E s' z a w ao.still ao.mild (fun w => (execOp a.eval { dst := dst, op := .binOp op ty x (.const .nilIface) ty', type := type, pos := pos, after := after, guard := guard }).run P w) := by
        rintro neg rfl rfl
        have h1 : R w ok ρ (ev (.of x)) (a.eval x) := hof (by simp [AOp.opds])
        simp only [aop] at h
        split at h <;> first | (cases h; done) | skip
        · rename_i hb
          rw [hb] at h1
          simp only [Option.some.injEq, Prod.mk.injEq] at h
          obtain ⟨rfl, rfl, rfl⟩ := h
          refine Outc.same hr (v := .bool (!neg)) (fun w he => ?_) (R_val_mk _)
          simp only [execOp, R_val h1]
          have := run_nil_iface (P := P) (ox := x) (w := w) hu .nilIface (.inl rfl) neg
          cases neg <;> exact run_value this
        · rename_i t y hb
          rw [hb] at h1
          simp only [Option.some.injEq, Prod.mk.injEq] at h
          obtain ⟨rfl, rfl, rfl⟩ := h
          refine Outc.same hr (v := .bool neg) (fun w he => ?_) (R_val_mk _)
          simp only [execOp, R_val h1]
          have := run_nil_iface (P := P) (ox := x) (w := w) hu (.iface t y) (.inr ⟨t, y, rfl⟩) neg
          cases neg <;> exact run_value this
      cases op <;> simp only [reduceCtorEq, Option.some.injEq] at hc
      · exact key false hc.symm rfl
      · exact key true hc.symm rfl
    · rename_i fs hu
      split at hc <;> first | (cases hc; done) | skip
      rename_i hcond
      split at hc <;> first | (cases hc; done) | skip
      rename_i ks hks
      have hfo : P.underlying ty = some (.struct (P.fieldsOf ty)) := by unfold Program.fieldsOf; rw [hu]
      have hks' : eqKinds P 0 (P.fieldsOf ty).toList = some ks := by unfold Program.fieldsOf; rw [hu]; exact hks
      have key : ∀ (neg : Bool), ao = .aeq neg ks (.of x) (.of y) → op = (if neg then .neq else .eql) → Outc E s' z a w ao.still ao.mild (fun w => (execOp a.eval { dst := dst, op := .binOp op ty x y ty', type := type, pos := pos, after := after, guard := guard }).run P w) := by
        rintro neg rfl rfl
        have h1 : R w ok ρ (ev (.of x)) (a.eval x) := hof (by simp [AOp.opds])
        have h2 : R w ok ρ (ev (.of y)) (a.eval y) := hof (by simp [AOp.opds])
        simp only [aop] at h
        split at h <;> first | (cases h; done) | skip
        rename_i xs ys hxs hys
        rw [hxs] at h1; rw [hys] at h2
        simp only [Option.map_eq_some_iff, Prod.mk.injEq] at h
        obtain ⟨b, hb, rfl, rfl, rfl⟩ := h
        unfold R at h1 h2
        obtain ⟨vs, h3, h4⟩ := h1
        obtain ⟨us, h5, h6⟩ := h2
        refine Outc.same hr (v := .bool (bif neg then !b else b)) (fun w he => ?_) (R_val_mk _)
        simp only [execOp, h3, h5]
        have hrun := eqFields_ok (P := P) (d := 9998) hks' (vs := vs) (us := us) (by simpa using h4) (by simpa using h6) hb w
        cases neg
        · simp only [Bool.false_eq_true, if_false, cond_false]
          refine run_value ?_
          rw [Sem.run_bind, run_eqGuard_agg _ _ _ _ _ _ _ hcond.2, Result.andThen_ok, run_eql_struct, run_equalIn_struct _ 9999 ty vs us hfo hcond.1, hrun]; rfl
        · simp only [if_true, cond_true]
          refine run_value ?_
          rw [Sem.run_bind, run_eqGuard_agg _ _ _ _ _ _ _ hcond.2, Result.andThen_ok, run_neq_struct, run_equalIn_struct _ 9999 ty vs us hfo hcond.1, hrun]; rfl
      cases op <;> simp only [reduceCtorEq, Option.some.injEq] at hc
      · exact key false hc.symm rfl
      · exact key true hc.symm rfl
    · simp only [Option.some.injEq] at hc
      subst hc
      simp only [aop, Option.map_eq_some_iff, Prod.mk.injEq, Prod.exists] at h
      obtain ⟨z', ob', h1, rfl, rfl, rfl⟩ := h
      obtain ⟨v, h2, h3⟩ := binAV_ok (P := P) h1 hob (hof (x := x) (by simp [AOp.opds])) (hof (x := y) (by simp [AOp.opds])) ty x y
      exact Outc.same hr (fun w he => run_value (h2 w)) h3
  case unOp op ty x =>
    subst hc
    simp only [aop] at h
    have h1 : R w ok ρ (ev (.of x)) (a.eval x) := hof (by simp [AOp.opds])
    split at h
    · rename_i b hb
      simp only [Option.some.injEq, Prod.mk.injEq] at h
      obtain ⟨rfl, rfl, rfl⟩ := h
      rw [hb] at h1
      refine Outc.same hr (fun w he => run_value (v := .bool (!b)) ?_) (R_val_mk _)
      rw [R_val h1]; rfl
    · rename_i k n hb
      simp only [Option.some.injEq, Prod.mk.injEq] at h
      obtain ⟨rfl, rfl, rfl⟩ := h
      rw [hb] at h1
      refine Outc.same hr (fun w he => run_value (v := .int k (k.wrap (0 - n))) ?_) (R_val_mk _)
      rw [R_val h1]; rfl
    · cases h
  case load ty p =>
    split at hc
    · rename_i d i hd hi
      simp only [Option.some.injEq] at hc
      subst hc
      simp only [aop, Option.map_eq_some_iff, Prod.mk.injEq, Prod.exists] at h
      obtain ⟨cs, o, ob', h1, rfl, rfl, rfl⟩ := h
      exact snd_load hr hd hi (hof (by simp [AOp.opds])) h1 hob.1 hob.2.1 hob.2.2
    · cases hc
  case store ty p x =>
    split at hc
    · rename_i i hi
      simp only [Option.some.injEq] at hc
      subst hc
      have hp : R w ok ρ (ev (.of p)) (a.eval p) := hof (by simp [AOp.opds])
      have hx : R w ok ρ (ev (.of x)) (a.eval x) := hof (by simp [AOp.opds])
      simp only [aop] at h
      split at h
      · rename_i r j o hpx
        split at h
        · rename_i e cs hg
          simp only [Option.some.injEq, Prod.mk.injEq] at h
          obtain ⟨rfl, rfl, rfl⟩ := h
          exact snd_store hr hi hp hx hpx _ (.inl ⟨e, cs, hg, rfl, hob.1, hob.2.1, hob.2.2.1, hob.2.2.2⟩)
        · rename_i e sz els hg
          simp only [Option.some.injEq, Prod.mk.injEq] at h
          obtain ⟨rfl, rfl, rfl⟩ := h
          exact snd_store hr hi hp hx hpx _ (.inr ⟨e, sz, els, hg, rfl, hob.1, hob.2.1, hob.2.2.1, hob.2.2.2.1, hob.2.2.2.2⟩)
        · rename_i e cs hg
          simp only [Option.some.injEq, Prod.mk.injEq] at h
          obtain ⟨rfl, rfl, rfl⟩ := h
          obtain ⟨g1, g2, g3, rfl, g5⟩ := hob
          rw [hpx] at hp
          exact snd_storeT hr hi hp hx hg g1 g2 g3 g5
        · cases h
      · cases h
    · cases hc
  case nilCheck x =>
    subst hc
    have h1 : R w ok ρ (ev (.of x)) (a.eval x) := hof (by simp [AOp.opds])
    simp only [aop] at h
    split at h <;> first | (cases h; done) | skip
    · rename_i cs hb
      simp only [Option.some.injEq, Prod.mk.injEq] at h
      obtain ⟨rfl, rfl, rfl⟩ := h
      rw [hb] at h1
      refine Outc.same hr (v := a.eval x) (fun w he => ?_) h1
      unfold R Rc at h1
      obtain ⟨b, o, h2, _⟩ := h1
      simp only [execOp, h2]; rfl
    · rename_i r i o hb
      simp only [Option.some.injEq, Prod.mk.injEq] at h
      obtain ⟨rfl, rfl, rfl⟩ := h
      rw [hb] at h1
      refine Outc.same hr (v := a.eval x) (fun w he => ?_) h1
      unfold R at h1
      obtain ⟨p, _, h2⟩ := h1
      simp only [execOp, h2]; rfl
    · rename_i f caps hb
      simp only [Option.some.injEq, Prod.mk.injEq] at h
      obtain ⟨rfl, rfl, rfl⟩ := h
      rw [hb] at h1
      refine Outc.same hr (v := a.eval x) (fun w he => ?_) h1
      unfold R at h1
      obtain ⟨vs, h2, _⟩ := h1
      simp only [execOp, h2]; rfl
    · rename_i g fs cs hb
      simp only [Option.some.injEq, Prod.mk.injEq] at h
      obtain ⟨rfl, rfl, rfl⟩ := h
      rw [hb] at h1
      refine Outc.same hr (v := a.eval x) (fun w he => ?_) h1
      obtain ⟨f, rfl⟩ := hob
      simp only [execOp, R_val h1]; rfl
  case fieldAddr ty p f =>
    split at hc <;> first | (cases hc; done) | skip
    rename_i fs hd
    split at hc <;> first | (cases hc; done) | skip
    rename_i fd hf
    split at hc <;> first | (cases hc; done) | skip
    rename_i i hi
    split at hc <;> first | (cases hc; done) | skip
    rename_i h0
    simp only [Option.some.injEq] at hc
    subst hc
    have h1 : R w ok ρ (ev (.of p)) (a.eval p) := hof (by simp [AOp.opds])
    simp only [aop] at h
    split at h <;> first | (cases h; done) | skip
    · rename_i cs hb
      simp only [Option.some.injEq, Prod.mk.injEq] at h
      obtain ⟨rfl, rfl, rfl⟩ := h
      exact snd_fld hr hd hf hi h0 h1 (.inl ⟨cs, hb, rfl⟩)
    · rename_i r j o hb
      simp only [Option.some.injEq, Prod.mk.injEq] at h
      obtain ⟨rfl, rfl, rfl⟩ := h
      exact snd_fld hr hd hf hi h0 h1 (.inr ⟨r, j, o, hb, rfl⟩)
  case field ty x f =>
    split at hc <;> first | (cases hc; done) | skip
    rename_i fs hd
    split at hc <;> first | (cases hc; done) | skip
    rename_i fd hf
    split at hc <;> first | (cases hc; done) | skip
    rename_i d i hd' hi
    simp only [Option.some.injEq] at hc
    subst hc
    have h1 : R w ok ρ (ev (.of x)) (a.eval x) := hof (by simp [AOp.opds])
    simp only [aop] at h
    split at h <;> first | (cases h; done) | skip
    rename_i cs hb
    simp only [Option.some.injEq, Prod.mk.injEq] at h
    obtain ⟨rfl, rfl, rfl⟩ := h
    rw [hb] at h1
    exact snd_part hr hd hf hd' hi h1 hob.1 hob.2
  case indexAddr ty x ix =>
    split at hc <;> first | (cases hc; done) | skip
    · rename_i e hd
      split at hc <;> first | (cases hc; done) | skip
      rename_i i hi
      simp only [Option.some.injEq] at hc
      subst hc
      have h1 : R w ok ρ (ev (.of x)) (a.eval x) := hof (by simp [AOp.opds])
      have h2 : R w ok ρ (ev (.of ix)) (a.eval ix) := hof (by simp [AOp.opds])
      simp only [aop] at h
      split at h <;> first | (cases h; done) | skip
      rename_i k n hn
      rw [hn] at h2
      simp only [execOp, R_val h2]
      split at h <;> first | (cases h; done) | skip
      · rename_i nl fu sz' els hb
        cases he : (sz' == i.size) <;> simp only [he, cond_true, cond_false, reduceCtorEq] at h
        obtain rfl : sz' = i.size := by simpa using he
        simp only [Option.some.injEq, Prod.mk.injEq] at h
        obtain ⟨rfl, rfl, rfl⟩ := h
        exact snd_idx hr hd hi h1 (.inl ⟨nl, fu, els, hb, rfl, hob.1, hob.2⟩)
      · rename_i r off m c ex hb
        split at h <;> first | (cases h; done) | skip
        · rename_i e' sz' els hg
          cases he : (sz' == i.size) <;> simp only [he, cond_true, cond_false, reduceCtorEq] at h
          obtain rfl : sz' = i.size := by simpa using he
          simp only [Option.some.injEq, Prod.mk.injEq] at h
          obtain ⟨rfl, rfl, rfl⟩ := h
          exact snd_idx hr hd hi h1 (.inr ⟨r, off, m, c, ex, hb, .inl ⟨e', els, hg⟩, rfl, hob.1, hob.2⟩)
        · rename_i e' cs hg
          cases he : (1 == i.size) <;> simp only [he, cond_true, cond_false, reduceCtorEq] at h
          simp only [Option.some.injEq, Prod.mk.injEq] at h
          obtain ⟨rfl, rfl, rfl⟩ := h
          exact snd_idx hr hd hi h1 (.inr ⟨r, off, m, c, ex, hb, .inr ⟨e', cs, hg, (by simpa using he : 1 = i.size).symm⟩, rfl, hob.1, hob.2⟩)
    · rename_i len e hd
      split at hc <;> first | (cases hc; done) | skip
      rename_i i hi
      simp only [Option.some.injEq] at hc
      subst hc
      have h1 : R w ok ρ (ev (.of x)) (a.eval x) := hof (by simp [AOp.opds])
      have h2 : R w ok ρ (ev (.of ix)) (a.eval ix) := hof (by simp [AOp.opds])
      simp only [aop] at h
      split at h <;> first | (cases h; done) | skip
      rename_i k n hn
      rw [hn] at h2
      simp only [execOp, R_val h2]
      split at h <;> first | (cases h; done) | skip
      · rename_i r j o hb
        simp only [Option.some.injEq, Prod.mk.injEq] at h
        obtain ⟨rfl, rfl, rfl⟩ := h
        exact snd_idxa hr hd hi h1 hob.1 hob.2 (.inr ⟨r, j, o, hb, rfl⟩)
      · rename_i cs hb
        simp only [Option.some.injEq, Prod.mk.injEq] at h
        obtain ⟨rfl, rfl, rfl⟩ := h
        exact snd_idxa hr hd hi h1 hob.1 hob.2 (.inl ⟨cs, hb, rfl⟩)
  case index ty x ix =>
    split at hc <;> first | (cases hc; done) | skip
    · rename_i len e hd
      split at hc <;> first | (cases hc; done) | skip
      rename_i d i hd' hi
      simp only [Option.some.injEq] at hc
      subst hc
      have h1 : R w ok ρ (ev (.of x)) (a.eval x) := hof (by simp [AOp.opds])
      have h2 : R w ok ρ (ev (.of ix)) (a.eval ix) := hof (by simp [AOp.opds])
      simp only [aop] at h
      split at h <;> first | (cases h; done) | skip
      rename_i k n hn
      rw [hn] at h2
      simp only [execOp, R_val h2]
      split at h <;> first | (cases h; done) | skip
      rename_i cs hb
      rw [hb] at h1
      simp only [Option.some.injEq, Prod.mk.injEq] at h
      obtain ⟨rfl, rfl, rfl⟩ := h
      exact snd_idxv hr hd hd' hi h1 hob.1 hob.2.1 hob.2.2.1 hob.2.2.2
    · rename_i hd
      simp only [Option.some.injEq] at hc
      subst hc
      have h1 : R w ok ρ (ev (.of x)) (a.eval x) := hof (by simp [AOp.opds])
      have h2 : R w ok ρ (ev (.of ix)) (a.eval ix) := hof (by simp [AOp.opds])
      simp only [aop] at h
      split at h <;> first | (cases h; done) | skip
      rename_i k n hn
      rw [hn] at h2
      split at h <;> first | (cases h; done) | skip
      rename_i b hb
      rw [hb] at h1
      simp only [execOp, R_val h2, R_val h1]
      simp only [Option.some.injEq, Prod.mk.injEq] at h
      obtain ⟨rfl, rfl, rfl⟩ := h
      exact snd_sidx hr hd hob.1 hob.2
  case alloc e =>
    split at hc <;> first | (cases hc; done) | skip
    rename_i i hi
    split at hc <;> first | (cases hc; done) | skip
    rename_i zv hz
    simp only [Option.some.injEq] at hc
    subst hc
    simp only [aop, Option.some.injEq, Prod.mk.injEq] at h
    obtain ⟨rfl, rfl, rfl⟩ := h
    exact snd_alloc hr hi hz
  case box e x =>
    subst hc
    simp only [aop, Option.some.injEq, Prod.mk.injEq] at h
    obtain ⟨rfl, rfl, rfl⟩ := h
    exact snd_box hr (hof (by simp [AOp.opds])) hob
  case build ty parts =>
    split at hc <;> first | (cases hc; done) | skip
    rename_i i hi
    split at hc <;> first | (cases hc; done) | skip
    rename_i zv hz
    split at hc <;> first | (cases hc; done) | skip
    · rename_i fs hd
      split at hc <;> first | (cases hc; done) | skip
      rename_i hall
      simp only [Option.map_eq_some_iff] at hc
      obtain ⟨l, hl, rfl⟩ := hc
      simp only [aop, Option.some.injEq, Prod.mk.injEq] at h
      obtain ⟨rfl, rfl, rfl⟩ := h
      have hmem : ∀ (ps : List (Nat × Operand)) (qs : List (Nat × Nat × Opd)), partsOf P fs ps = some qs → ∀ y ∈ ps.map (·.2), Opd.of y ∈ qs.map (·.2.2) := by
        intro ps
        induction ps with
        | nil => intro qs _ y hy; cases hy
        | cons p ps ih =>
          intro qs hq y hy
          obtain ⟨i1, x1⟩ := p
          unfold partsOf at hq
          split at hq <;> first | (cases hq; done) | skip
          split at hq <;> first | (cases hq; done) | skip
          split at hq <;> first | (cases hq; done) | skip
          rename_i r1 hr1
          simp only [Option.some.injEq] at hq
          subst hq
          simp only [List.map_cons, List.mem_cons] at hy ⊢
          rcases hy with rfl | hy
          · exact .inl rfl
          · exact .inr (ih _ hr1 y hy)
      have hp := partsOf_ok (P := P) (w := w) (ok := ok) (ρ := ρ) (xs := parts.toList.map (·.2)) ev a.eval (fun x hx => hof (by simpa [AOp.opds] using hmem _ _ hl x hx)) parts.toList l (fun p hp => List.mem_map.2 ⟨p, hp, rfl⟩) hl
      have := snd_build hr hi hz hd (fun fd hfd => by simpa using Array.all_eq_true_iff_forall_mem.1 hall fd hfd) hp hob
      have e : (parts.toList.map fun p => (p.1, a.eval p.2)).toArray = parts.map fun (i, x) => (i, a.eval x) := by
        rw [← Array.toList_map]
      rw [e] at this
      exact this
    · rename_i n e hd
      split at hc <;> first | (cases hc; done) | skip
      rename_i j hj
      simp only [Option.some.injEq] at hc
      subst hc
      simp only [aop, Option.some.injEq, Prod.mk.injEq] at h
      obtain ⟨rfl, rfl, rfl⟩ := h
      have hp := arr_parts (P := P) (w := w) (ok := ok) (ρ := ρ) (ev := ev) (a := a) (sz := j.size) parts.toList (fun y hy => hof (by
        simp only [AOp.opds, List.map_map]
        exact List.mem_map.2 ⟨y, hy, rfl⟩))
      simp only [List.map_map] at hob
      have := snd_builda hr hi hz hd hj hp hob
      have e : (parts.toList.map fun p => (p.1, a.eval p.2)).toArray = parts.map fun (i, x) => (i, a.eval x) := by
        rw [← Array.toList_map]
      rw [e] at this
      simp only [List.map_map]
      exact this
  case buildSlice ty len parts =>
    split at hc <;> first | (cases hc; done) | skip
    rename_i e hd
    split at hc <;> first | (cases hc; done) | skip
    rename_i i hi
    split at hc <;> first | (cases hc; done) | skip
    rename_i hcond
    obtain ⟨hrng, hle, hs, hzs⟩ := hcond
    obtain ⟨zv, hz⟩ := Option.isSome_iff_exists.1 hzs
    simp only [Option.some.injEq] at hc
    subst hc
    simp only [aop, Option.some.injEq, Prod.mk.injEq, List.map_map] at h
    obtain ⟨rfl, rfl, rfl⟩ := h
    have hlen : parts.toList.length = len := by have := congrArg List.length hrng; simpa using this
    have hp := rows_parts (P := P) (w := w) (ok := ok) (ρ := ρ) (ev := ev) (a := a) (sz := i.size) parts.toList 0 (by rw [hrng, hlen, List.range_eq_range']) (fun y hy => hof (by
      simp only [AOp.opds, List.map_map]
      exact List.mem_map.2 ⟨y, hy, rfl⟩))
    have := snd_bsl hr hd hi hle hs hz (xs := parts.toList.map fun p => ev (.of p.2)) (by simpa using hlen) hp (show elsOb i.size (parts.toList.map fun p => ev (.of p.2)) from hob)
    have e : (parts.toList.map fun p => (p.1, a.eval p.2)).toArray = parts.map fun (i, x) => (i, a.eval x) := by
      rw [← Array.toList_map]
    rw [e] at this
    simp only [List.map_map] at this
    exact this
  case makeSlice ty l c =>
    split at hc <;> first | (cases hc; done) | skip
    rename_i e hd
    split at hc <;> first | (cases hc; done) | skip
    rename_i i hi
    split at hc <;> first | (cases hc; done) | skip
    rename_i zv hz
    split at hc <;> first | (cases hc; done) | skip
    rename_i hcond
    simp only [Option.some.injEq] at hc
    subst hc
    have h1 : R w ok ρ (ev (.of l)) (a.eval l) := hof (by simp [AOp.opds])
    have h2 : R w ok ρ (ev (.of c)) (a.eval c) := hof (by simp [AOp.opds])
    simp only [aop] at h
    split at h <;> first | (cases h; done) | skip
    rename_i m n hm hn
    rw [hm] at h1; rw [hn] at h2
    simp only [Option.some.injEq, Prod.mk.injEq] at h
    obtain ⟨rfl, rfl, rfl⟩ := h
    simp only [execOp, R_val h1, R_val h2, hob.1]
    exact snd_mksl hr hd hi hz hcond.1 hob.2.1 hob.2.2.1 hob.2.2.2
  case slice ty x lo hi mx =>
    split at hc <;> first | (cases hc; done) | skip
    · rename_i e hd
      split at hc <;> first | (cases hc; done) | skip
      rename_i i hinf
      simp only [Option.some.injEq] at hc
      subst hc
      have h1 : R w ok ρ (ev (.of x)) (a.eval x) := hof (by simp [AOp.opds])
      simp only [aop] at h
      split at h <;> first | (cases h; done) | skip
      rename_i lo' hi' mx' hlo hhi hmx
      have bl := optInt_ok (w := w) (ok := ok) (ρ := ρ) (a := a) hlo (fun y hy => hof (by cases hy; simp [AOp.opds]))
      have bh := optInt_ok (w := w) (ok := ok) (ρ := ρ) (a := a) hhi (fun y hy => hof (by cases hy; simp [AOp.opds]))
      have bm := optInt_ok (w := w) (ok := ok) (ρ := ρ) (a := a) hmx (fun y hy => hof (by cases hy; simp [AOp.opds]))
      simp only [execOp]
      split at h <;> first | (cases h; done) | skip
      · rename_i nl fu sz' els hb
        rw [hb] at h1
        cases he : (sz' == i.size) <;> simp only [he, cond_true, cond_false, reduceCtorEq] at h
        obtain rfl : sz' = i.size := by simpa using he
        split at h
        · simp only [Option.some.injEq, Prod.mk.injEq] at h
          obtain ⟨rfl, rfl, rfl⟩ := h
          generalize mx.map a.eval = M at *
          cases bm
          exact snd_slc_imm hr hd hinf h1 bl bh hob.1 hob.2.1 hob.2.2 (.inl ⟨rfl, rfl⟩)
        · rename_i m
          simp only [Option.some.injEq, Prod.mk.injEq] at h
          obtain ⟨rfl, rfl, rfl⟩ := h
          generalize mx.map a.eval = M at *
          cases bm
          rename_i km
          refine snd_slc_imm hr hd hinf h1 bl bh hob.2.1 hob.2.2.1 hob.2.2.2.1 (.inr ⟨hob.1, km, ?_⟩)
          rw [hob.2.2.2.2]
      · rename_i r off n k ex hb
        rw [hb] at h1
        split at h <;> first | (cases h; done) | skip
        rename_i e' sz' els hg
        cases he : (sz' == i.size) <;> simp only [he, cond_true, cond_false, reduceCtorEq] at h
        obtain rfl : sz' = i.size := by simpa using he
        split at h
        · simp only [Option.some.injEq, Prod.mk.injEq] at h
          obtain ⟨rfl, rfl, rfl⟩ := h
          generalize mx.map a.eval = M at *
          cases bm
          exact snd_slc_hnd hr hd hinf h1 hg bl bh hob.1 hob.2.1 hob.2.2 (.inl ⟨rfl, rfl⟩)
        · rename_i m
          simp only [Option.some.injEq, Prod.mk.injEq] at h
          obtain ⟨rfl, rfl, rfl⟩ := h
          generalize mx.map a.eval = M at *
          cases bm
          rename_i km
          exact snd_slc_hnd hr hd hinf h1 hg bl bh hob.2.1 hob.2.2.1 hob.2.2.2.1 (.inr ⟨hob.1, km, m, rfl, hob.2.2.2.2.1, hob.2.2.2.2.2, rfl⟩)
      · rename_i hb
        rw [hb] at h1
        simp only [Option.some.injEq, Prod.mk.injEq] at h
        obtain ⟨rfl, rfl, rfl⟩ := h
        rw [R_val h1]
        exact snd_slc_nil hr hd hinf bl bh bm hob.1 hob.2.1 hob.2.2.1 hob.2.2.2
    · rename_i hd
      split at hc <;> first | (cases hc; done) | skip
      rename_i hmx
      simp only [Option.some.injEq] at hc
      subst hc
      have h1 : R w ok ρ (ev (.of x)) (a.eval x) := hof (by simp [AOp.opds])
      simp only [aop] at h
      split at h <;> first | (cases h; done) | skip
      rename_i lo' hi' hlo hhi
      have bl := optInt_ok (w := w) (ok := ok) (ρ := ρ) (a := a) hlo (fun y hy => hof (by cases hy; simp [AOp.opds]))
      have bh := optInt_ok (w := w) (ok := ok) (ρ := ρ) (a := a) hhi (fun y hy => hof (by cases hy; simp [AOp.opds]))
      split at h <;> first | (cases h; done) | skip
      rename_i b hb
      rw [hb] at h1
      simp only [Option.some.injEq, Prod.mk.injEq] at h
      obtain ⟨rfl, rfl, rfl⟩ := h
      cases mx with
      | some y => simp at hmx
      | none =>
        simp only [execOp, R_val h1, Option.map_none]
        exact snd_slcs hr hd bl bh hob.1 hob.2.1 hob.2.2
    · (repeat' (split at hc)) <;> first | (cases hc; done) | (simp only [Option.some.injEq] at hc; subst hc; simp [aop] at h)
    · (repeat' (split at hc)) <;> first | (cases hc; done) | (simp only [Option.some.injEq] at hc; subst hc; simp [aop] at h)
  case extract x i =>
    subst hc
    have h1 : R w ok ρ (ev (.of x)) (a.eval x) := hof (by simp [AOp.opds])
    simp only [aop] at h
    split at h <;> first | (cases h; done) | skip
    rename_i cs hb
    rw [hb] at h1
    simp only [Option.some.injEq, Prod.mk.injEq] at h
    obtain ⟨rfl, rfl, rfl⟩ := h
    obtain ⟨vs, h2, h3⟩ := R_tup h1
    obtain ⟨u, h4, h5⟩ := RList_get h3 i (cs.getD i .any) (by rw [List.getD_eq_getElem?_getD, List.getElem?_eq_getElem hob]; rfl)
    refine Outc.same hr (fun w he => run_value (v := u) ?_) h5
    rw [h2]
    rw [Array.getElem?_toList] at h4
    simp [Instr.extract, h4]
  case makeFunc fn first caps =>
    cases fn <;> simp only [reduceCtorEq] at hc
    rename_i f
    split at hc <;> first | (cases hc; done) | skip
    rename_i hemp
    simp only [Option.some.injEq] at hc
    subst hc
    simp only [aop, Option.some.injEq, Prod.mk.injEq] at h
    obtain ⟨rfl, rfl, rfl⟩ := h
    obtain rfl : first = #[] := by simpa using hemp
    refine Outc.same hr (fun w he => run_value (v := .func (.func f) #[] (caps.map a.eval)) ?_) ?_
    · simp [Instr.makeFunc]
    · unfold R
      refine ⟨_, rfl, ?_⟩
      have := caps_ok (w := w) (ok := ok) (ρ := ρ) (ev := ev) (a := a) caps.toList (fun y hy => hof (by simp only [AOp.opds]; exact List.mem_map.2 ⟨y, hy, rfl⟩))
      rwa [Array.toList_map]
  case convert src dst x =>
    split at hc <;> first | (cases hc; done) | skip
    · rename_i k' k hs hd
      simp only [Option.some.injEq] at hc
      subst hc
      have h1 : R w ok ρ (ev (.of x)) (a.eval x) := hof (by simp [AOp.opds])
      simp only [aop] at h
      split at h <;> first | (cases h; done) | skip
      rename_i k'' n hb
      rw [hb] at h1
      simp only [Option.some.injEq, Prod.mk.injEq] at h
      obtain ⟨rfl, rfl, rfl⟩ := h
      refine Outc.same hr (fun w he => run_value (v := .int k (k.wrap n)) ?_) (R_val_mk _)
      simp only [R_val h1, convert, Sem.run_bind, run_underlying hs, run_underlying hd, Result.andThen_ok, Conv.intToInt]
      rfl
    · rename_i e hs hd
      split at hc <;> first | (cases hc; done) | skip
      rename_i he
      simp only [Option.some.injEq] at hc
      subst hc
      have h1 : R w ok ρ (ev (.of x)) (a.eval x) := hof (by simp [AOp.opds])
      simp only [aop] at h
      split at h <;> first | (cases h; done) | skip
      rename_i b hb
      rw [hb] at h1
      simp only [Option.some.injEq, Prod.mk.injEq] at h
      obtain ⟨rfl, rfl, rfl⟩ := h
      simp only [execOp, R_val h1]
      exact snd_stb hr hs hd he
    · (repeat' (split at hc)) <;> first | (cases hc; done) | (simp only [Option.some.injEq] at hc; subst hc; simp [aop] at h)
  case call c =>
    obtain ⟨callee, args, argTypes⟩ := c
    dsimp only at hc
    cases callee with
    | invoke r m => simp only [reduceCtorEq] at hc
    | value f =>
      cases f with
      | func f =>
        dsimp only at hc
        split at hc <;> first | (cases hc; done) | skip
        split at hc <;> first | (cases hc; done) | skip
        simp only [Option.some.injEq] at hc
        subst hc
        simp only [aop, reduceCtorEq] at h
      | _ =>
        simp only [Option.some.injEq] at hc
        subst hc
        simp only [aop, reduceCtorEq] at h
    | builtin b =>
      cases b <;> simp only [reduceCtorEq] at hc
      case append =>
        (repeat' (split at hc)) <;> first | (cases hc; done) | skip
        all_goals
          simp only [Option.some.injEq] at hc
          subst hc
          simp only [aop, reduceCtorEq] at h
      case clear =>
        (repeat' (split at hc)) <;> first | (cases hc; done) | skip
        all_goals
          simp only [Option.some.injEq] at hc
          subst hc
          simp only [aop, reduceCtorEq] at h
      case cap =>
        split at hc <;> first | (cases hc; done) | skip
        rename_i x ty ha ht
        obtain ⟨args⟩ := args
        obtain ⟨argTypes⟩ := argTypes
        simp only at ha ht
        subst ha ht
        have hexec : ∀ (v : Value) (w : World), (Builtin.cap_ #[ty] type #[a.eval x]).run P w = .ok v w → (execOp a.eval { dst := dst, op := .call { callee := .builtin .cap, args := #[x], argTypes := #[ty] }, type := type, pos := pos, after := after, guard := guard }).run P w = .ok (.value v) w := fun v w hv => by
          simp only [execOp, resolve, Sem.run_bind, Sem.run_pure, Result.andThen_ok, invoke, builtin]
          have : (#[x] : Array Operand).map a.eval = #[a.eval x] := by simp
          rw [this]
          simp [hv]
        split at hc <;> first | (cases hc; done) | skip
        rename_i e hu
        simp only [Option.some.injEq] at hc
        subst hc
        have h1 : R w ok ρ (ev (.of x)) (a.eval x) := hof (by simp [AOp.opds])
        simp only [aop] at h
        split at h <;> first | (cases h; done) | skip
        · rename_i nl sz els hb
          rw [hb] at h1
          simp only [Option.some.injEq, Prod.mk.injEq] at h
          obtain ⟨rfl, rfl, rfl⟩ := h
          refine Outc.same hr (fun w he => hexec _ w ?_) (R_val_mk _)
          unfold R Rc at h1
          obtain ⟨A, c, h2, _, _, _, h3, _⟩ := h1
          rw [h2, h3 rfl]
          simp [Builtin.cap_, run_underlying hu, goInt]
        · rename_i r off n k hb
          rw [hb] at h1
          simp only [Option.some.injEq, Prod.mk.injEq] at h
          obtain ⟨rfl, rfl, rfl⟩ := h
          refine Outc.same hr (fun w he => hexec _ w ?_) (R_val_mk _)
          unfold R at h1
          rcases h1 with ⟨p, cc, ad, _, h2, _, _, _, _, h3⟩ | ⟨_, h2, _, _, h3⟩
          · rw [h2, h3 rfl]; simp [Builtin.cap_, run_underlying hu, goInt]
          · rw [h2, h3]; simp [Builtin.cap_, run_underlying hu, goInt]
        · rename_i hb
          rw [hb] at h1
          simp only [Option.some.injEq, Prod.mk.injEq] at h
          obtain ⟨rfl, rfl, rfl⟩ := h
          refine Outc.same hr (fun w he => hexec _ w ?_) (R_val_mk _)
          rw [R_val h1]; simp [Builtin.cap_, run_underlying hu, goInt]
      case copy =>
        split at hc <;> first | (cases hc; done) | skip
        split at hc <;> first | (cases hc; done) | skip
        split at hc <;> first | (cases hc; done) | skip
        simp only [Option.some.injEq] at hc
        subst hc
        simp only [aop, reduceCtorEq] at h
      case len =>
        split at hc <;> first | (cases hc; done) | skip
        rename_i x ty ha ht
        obtain ⟨args⟩ := args
        obtain ⟨argTypes⟩ := argTypes
        simp only at ha ht
        subst ha ht
        have hexec : ∀ (v : Value) (w : World), (Builtin.len_ #[ty] type #[a.eval x]).run P w = .ok v w → (execOp a.eval { dst := dst, op := .call { callee := .builtin .len, args := #[x], argTypes := #[ty] }, type := type, pos := pos, after := after, guard := guard }).run P w = .ok (.value v) w := fun v w hv => by
          simp only [execOp, resolve, Sem.run_bind, Sem.run_pure, Result.andThen_ok, invoke, builtin]
          have : (#[x] : Array Operand).map a.eval = #[a.eval x] := by simp
          rw [this]
          simp [hv]
        split at hc <;> first | (cases hc; done) | skip
        · rename_i hu
          simp only [Option.some.injEq] at hc
          subst hc
          have h1 : R w ok ρ (ev (.of x)) (a.eval x) := hof (by simp [AOp.opds])
          simp only [aop] at h
          split at h <;> first | (cases h; done) | skip
          rename_i b hb
          rw [hb] at h1
          simp only [Option.some.injEq, Prod.mk.injEq] at h
          obtain ⟨rfl, rfl, rfl⟩ := h
          refine Outc.same hr (fun w he => hexec _ w ?_) (R_val_mk _)
          rw [R_val h1]
          simp [Builtin.len_, run_underlying hu, goInt]
        · rename_i e hu
          simp only [Option.some.injEq] at hc
          subst hc
          have h1 : R w ok ρ (ev (.of x)) (a.eval x) := hof (by simp [AOp.opds])
          simp only [aop] at h
          split at h <;> first | (cases h; done) | skip
          · rename_i nl fu sz els hb
            rw [hb] at h1
            simp only [Option.some.injEq, Prod.mk.injEq] at h
            obtain ⟨rfl, rfl, rfl⟩ := h
            refine Outc.same hr (fun w he => hexec _ w ?_) (R_val_mk _)
            unfold R Rc at h1
            obtain ⟨A, c, h2, _⟩ := h1
            rw [h2]
            simp [Builtin.len_, run_underlying hu, goInt]
          · rename_i r off n k ex hb
            rw [hb] at h1
            simp only [Option.some.injEq, Prod.mk.injEq] at h
            obtain ⟨rfl, rfl, rfl⟩ := h
            refine Outc.same hr (fun w he => hexec _ w ?_) (R_val_mk _)
            unfold R at h1
            rcases h1 with ⟨p, cc, ad, _, h2, _⟩ | ⟨_, h2, _, h3, _⟩
            · rw [h2]; simp [Builtin.len_, run_underlying hu, goInt]
            · rw [h2, h3]; simp [Builtin.len_, run_underlying hu, goInt]
          · rename_i A n c hb
            rw [hb] at h1
            simp only [Option.some.injEq, Prod.mk.injEq] at h
            obtain ⟨rfl, rfl, rfl⟩ := h
            refine Outc.same hr (fun w he => hexec _ w ?_) (R_val_mk _)
            rw [R_val h1]; simp [Builtin.len_, run_underlying hu, goInt]
      case max =>
        split at hc <;> first | (cases hc; done) | skip
        rename_i x y ha
        obtain ⟨args⟩ := args
        simp only at ha
        subst ha
        simp only [Option.some.injEq] at hc
        subst hc
        have h1 : R w ok ρ (ev (.of x)) (a.eval x) := hof (by simp [AOp.opds])
        have h2 : R w ok ρ (ev (.of y)) (a.eval y) := hof (by simp [AOp.opds])
        simp only [aop] at h
        split at h <;> first | (cases h; done) | skip
        rename_i k m k' n hm hn
        rw [hm] at h1; rw [hn] at h2
        simp only [Option.some.injEq, Prod.mk.injEq] at h
        obtain ⟨rfl, rfl, rfl⟩ := h
        refine Outc.same hr (v := .int k (max m n)) (fun w he => ?_) (R_val_mk _)
        simp only [execOp, resolve, Sem.run_bind, Sem.run_pure, Result.andThen_ok, invoke, builtin]
        have : (#[x, y] : Array Operand).map a.eval = #[a.eval x, a.eval y] := by simp
        rw [this, R_val h1, R_val h2]
        have hmx : (if n > m then n else m) = max m n := by split <;> omega
        simp [Builtin.max_, Builtin.max2, ← hmx]
      case min =>
        split at hc <;> first | (cases hc; done) | skip
        rename_i x y ha
        obtain ⟨args⟩ := args
        simp only at ha
        subst ha
        simp only [Option.some.injEq] at hc
        subst hc
        have h1 : R w ok ρ (ev (.of x)) (a.eval x) := hof (by simp [AOp.opds])
        have h2 : R w ok ρ (ev (.of y)) (a.eval y) := hof (by simp [AOp.opds])
        simp only [aop] at h
        split at h <;> first | (cases h; done) | skip
        rename_i k m k' n hm hn
        rw [hm] at h1; rw [hn] at h2
        simp only [Option.some.injEq, Prod.mk.injEq] at h
        obtain ⟨rfl, rfl, rfl⟩ := h
        refine Outc.same hr (v := .int k (min m n)) (fun w he => ?_) (R_val_mk _)
        simp only [execOp, resolve, Sem.run_bind, Sem.run_pure, Result.andThen_ok, invoke, builtin]
        have : (#[x, y] : Array Operand).map a.eval = #[a.eval x, a.eval y] := by simp
        rw [this, R_val h1, R_val h2]
        have hmn : (if n < m then n else m) = min m n := by split <;> omega
        simp [Builtin.min_, Builtin.min2, ← hmn]
end
end Go.Proofs.Ytoickofcmngdjaa.Aw
