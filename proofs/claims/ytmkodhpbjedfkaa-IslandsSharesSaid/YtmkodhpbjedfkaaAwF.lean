/- A logic of abstract states for walks: what an operation does to a state is what it does. Part 3. -/
import Derived.Test.YtmkodhpbjedfkaaAwE
import Derived.Laws.Slices
import Derived.Laws.MakeOwn
set_option linter.unusedVariables false
set_option linter.unusedSimpArgs false
namespace Go.Proofs.Ytmkodhpbjedfkaa.Aw
open Go.RowKit

section
variable {P : Program} {E : Env} {s s' : St} {a : Act} {w : World} {ρ : Nat → Option (Option Place)} {ok : Nat → Prop} {ev : Opd → AV} {z : AV}

theorem snd_fld (hr : RelM E s a w ρ ok) {ty : TypeId} {fs : Array Field} {f : Nat} {fd : Field} {i : TypeInfo} (hd : P.underlying ty = some (.struct fs)) (hf : fs[f]? = some fd) (hi : P.info? fd.type = some i) (h0 : i.size ≠ 0)
    {x : AV} {v : Value} (hx : R w ok ρ x v) (hz : (∃ cs, x = .pim cs ∧ z = .pim (cs.drop fd.offset)) ∨ (∃ r j o, x = .ptr r j o ∧ z = .ptr r j (o + fd.offset))) :
    Outc E s z a w true true (fun w => (do pure (Next.value (← Instr.fieldAt ty v f)) : Sem Next).run P w) := by
  rcases hz with ⟨cs, rfl, rfl⟩ | ⟨r, j, o, rfl, rfl⟩
  · unfold R Rc at hx
    obtain ⟨b, o, rfl, h1, h2⟩ := hx
    refine Outc.same hr (v := .pointer (some ⟨b, o + fd.offset, none⟩)) (fun w he => run_value ?_) ?_
    · simp [Instr.fieldAt, run_underlying hd, hf, Instr.sureAddr, fieldPlace, run_sizeOf hi, h0, add_plain]
    · unfold R Rc; exact ⟨b, _, rfl, h1, RcCells_drop _ h2⟩
  · unfold R at hx
    obtain ⟨p, h1, rfl⟩ := hx
    refine Outc.same hr (v := .pointer (some ⟨p.b, p.d + j * p.sz + o + fd.offset, none⟩)) (fun w he => run_value ?_) ?_
    · simp [Instr.fieldAt, run_underlying hd, hf, Instr.sureAddr, fieldPlace, run_sizeOf hi, h0, add_plain]
    · unfold R; exact ⟨p, h1, by rw [Nat.add_assoc]⟩

theorem snd_idx (hr : RelM E s a w ρ ok) {ty e : TypeId} {i : TypeInfo} (hd : P.underlying ty = some (.slice e)) (hi : P.info? e = some i) {k : IntKind} {n : Int}
    {x : AV} {v : Value} (hx : R w ok ρ x v) (hz : (∃ nl fu els, x = .imm nl fu i.size els ∧ z = .pim (els.getD n.toNat []) ∧ 0 ≤ n ∧ n < els.length) ∨
      (∃ r off m c ex e' els, x = .hnd r off m c ex ∧ s.reg r = .arr e' i.size els ∧ z = .ptr r (off + n.toNat) 0 ∧ 0 ≤ n ∧ n < m)) :
    Outc E s z a w true true (fun w => (do pure (Next.value (← Instr.indexAt ty v (.int k n))) : Sem Next).run P w) := by
  rcases hz with ⟨nl, fu, els, rfl, rfl, h0, h1⟩ | ⟨r, off, m, c, ex, e', els, rfl, hg, rfl, h0, h1⟩
  · unfold R Rc at hx
    obtain ⟨A, c, rfl, h2, h3, h4, h5, h6⟩ := hx
    cases A with
    | none => have := h4 rfl; omega
    | some ad =>
      obtain ⟨h7, h8, h9⟩ := h6 ad rfl (by intro e; rw [e] at h1; simp at h1; omega)
      obtain ⟨b, o, sp⟩ := ad
      simp only at h7 h8 h9
      subst h7
      have hel : els[n.toNat]? = some (els.getD n.toNat []) := by
        rw [List.getD_eq_getElem?_getD, List.getElem?_eq_getElem (by omega)]; rfl
      refine Outc.same hr (v := .pointer (some ⟨b, o + n.toNat * i.size, none⟩)) (fun w he => run_value ?_) ?_
      · simp [Instr.indexAt, asIntOf, run_underlying hd, h0, h1, run_sizeOf hi, add_plain]
      · unfold R Rc
        exact ⟨b, _, rfl, h8, (RcEls_get h9 _ _ hel).2⟩
  · unfold R at hx
    rcases hx with ⟨p, cc, ad, h2, rfl, h3, h4, h5, h6, h7⟩ | ⟨h2, rfl, h3, h4, h5⟩
    · have hsz : p.sz = i.size := by
        rcases hr.mem.reg r _ (reg_some hg (by simp)) with ⟨b, d, C, pre, vs, rest, h8, _⟩ | ⟨_, h8⟩
        · rw [h2] at h8; injection h8 with h8; injection h8 with h8; rw [h8]
        · rw [h2] at h8; injection h8 with h8; cases h8
      have had : ad = ⟨p.b, p.d + off * p.sz, none⟩ := by
        rcases h3 with h3 | h3
        · omega
        · exact h3
      subst had
      refine Outc.same hr (v := .pointer (some ⟨p.b, p.d + off * p.sz + n.toNat * i.size, none⟩)) (fun w he => run_value ?_) ?_
      · simp [Instr.indexAt, asIntOf, run_underlying hd, h0, h1, run_sizeOf hi, add_plain]
      · unfold R; refine ⟨p, h2, ?_⟩
        rw [hsz, Nat.add_mul]; simp only [Nat.add_zero, Nat.add_assoc]
    · omega

theorem snd_idxa (hr : RelM E s a w ρ ok) {ty e : TypeId} {len : Nat} {i : TypeInfo} (hd : P.underlying ty = some (.array len e)) (hi : P.info? e = some i) {k : IntKind} {n : Int}
    {x : AV} {v : Value} (hx : R w ok ρ x v) (h0 : 0 ≤ n) (h1 : n < len) (hz : (∃ cs, x = .pim cs ∧ z = .pim (cs.drop (n.toNat * i.size))) ∨ (∃ r j o, x = .ptr r j o ∧ z = .ptr r j (o + n.toNat * i.size))) :
    Outc E s z a w true true (fun w => (do pure (Next.value (← Instr.indexAt ty v (.int k n))) : Sem Next).run P w) := by
  rcases hz with ⟨cs, rfl, rfl⟩ | ⟨r, j, o, rfl, rfl⟩
  · unfold R Rc at hx
    obtain ⟨b, o, rfl, h2, h3⟩ := hx
    refine Outc.same hr (v := .pointer (some ⟨b, o + n.toNat * i.size, none⟩)) (fun w he => run_value ?_) ?_
    · simp [Instr.indexAt, asIntOf, run_underlying hd, Instr.sureAddr, h0, h1, run_sizeOf hi, add_plain]
    · unfold R Rc; exact ⟨b, _, rfl, h2, RcCells_drop _ h3⟩
  · unfold R at hx
    obtain ⟨p, h2, rfl⟩ := hx
    refine Outc.same hr (v := .pointer (some ⟨p.b, p.d + j * p.sz + o + n.toNat * i.size, none⟩)) (fun w he => run_value ?_) ?_
    · simp [Instr.indexAt, asIntOf, run_underlying hd, Instr.sureAddr, h0, h1, run_sizeOf hi, add_plain]
    · unfold R; exact ⟨p, h2, by rw [Nat.add_assoc]⟩

/-- A part of a struct's value. -/
theorem part_ok {d : TypeDesc} {i : TypeInfo} {ty : TypeId} (hd : P.underlying ty = some d) (hi : P.info? ty = some i) {cs : List AV} {vs : Array Value} (h : RList w ok ρ cs vs.toList) {off : Nat} (hn : off + i.size ≤ cs.length) (h1 : isAg d = false → i.size = 1) :
    ∃ v, (∀ w, (part ty vs off).run P w = .ok v w) ∧ R w ok ρ (bif isAg d then .agg ((cs.drop off).take i.size) else cs.getD off .any) v := by
  have hl := RList_length h
  cases hag : isAg d with
  | true =>
    refine ⟨.agg (vs.extract off (off + i.size)), fun w => ?_, ?_⟩
    · simp [part, run_isAgg hd, hag, run_sizeOf hi]
    · refine R_agg_mk ?_
      have e1 : cs = cs.take off ++ cs.drop off := (List.take_append_drop off cs).symm
      rw [e1] at h
      obtain ⟨v1, v2, e2, h3, h4⟩ := RList_split h
      have hl1 : v1.length = off := by rw [RList_length h3]; simp; omega
      have e3 : cs.drop off = (cs.drop off).take i.size ++ (cs.drop off).drop i.size := (List.take_append_drop _ _).symm
      rw [e3] at h4
      obtain ⟨v3, v4, rfl, h5, h6⟩ := RList_split h4
      have hl3 : v3.length = i.size := by rw [RList_length h5]; simp; omega
      have : (vs.extract off (off + i.size)).toList = v3 := by
        rw [Array.toList_extract, e2]
        simp [List.extract_eq_take_drop, ← hl1, ← hl3]
      rw [this]; exact h5
  | false =>
    have hs := h1 hag
    obtain ⟨y, hy⟩ : ∃ y, cs[off]? = some y := ⟨_, List.getElem?_eq_getElem (by omega)⟩
    obtain ⟨u, h4, h5⟩ := RList_get h off y hy
    refine ⟨u, fun w => ?_, ?_⟩
    · rw [Array.getElem?_toList] at h4
      simp [part, run_isAgg hd, hag, h4]
    · simp only [cond_false, List.getD_eq_getElem?_getD, hy]; exact h5

theorem snd_part (hr : RelM E s a w ρ ok) {ty : TypeId} {fs : Array Field} {f : Nat} {fd : Field} {d : TypeDesc} {i : TypeInfo} (hd : P.underlying ty = some (.struct fs)) (hf : fs[f]? = some fd) (hd' : P.underlying fd.type = some d) (hi : P.info? fd.type = some i)
    {cs : List AV} {v : Value} (hx : R w ok ρ (.agg cs) v) (hn : fd.offset + i.size ≤ cs.length) (h1 : isAg d = false → i.size = 1) :
    Outc E s (bif isAg d then .agg ((cs.drop fd.offset).take i.size) else cs.getD fd.offset .any) a w true true (fun w => (do pure (Next.value (← Instr.field ty v f)) : Sem Next).run P w) := by
  obtain ⟨vs, rfl, h⟩ := R_agg hx
  obtain ⟨u, h2, h3⟩ := part_ok (P := P) hd' hi h hn h1
  refine Outc.same hr (fun w he => run_value ?_) h3
  simp [Instr.field, run_underlying hd, hf, asAgg, h2]

theorem snd_idxv (hr : RelM E s a w ρ ok) {ty e : TypeId} {len : Nat} {d : TypeDesc} {i : TypeInfo} (hd : P.underlying ty = some (.array len e)) (hd' : P.underlying e = some d) (hi : P.info? e = some i) {k : IntKind} {n : Int}
    {cs : List AV} {v : Value} (hx : R w ok ρ (.agg cs) v) (h0 : 0 ≤ n) (hlt : n < len) (hn : n.toNat * i.size + i.size ≤ cs.length) (h1 : isAg d = false → i.size = 1) :
    Outc E s (bif isAg d then .agg ((cs.drop (n.toNat * i.size)).take i.size) else cs.getD (n.toNat * i.size) .any) a w true true (fun w => (do pure (Next.value (← Instr.index ty v (.int k n))) : Sem Next).run P w) := by
  obtain ⟨vs, rfl, h⟩ := R_agg hx
  obtain ⟨u, h2, h3⟩ := part_ok (P := P) hd' hi h hn h1
  refine Outc.same hr (fun w he => run_value ?_) h3
  simp [Instr.index, run_underlying hd, asIntOf, h0, hlt, run_sizeOf hi, h2]

theorem snd_sidx (hr : RelM E s a w ρ ok) {ty : TypeId} (hd : P.underlying ty = some .string) {k : IntKind} {n : Int} {b : ByteArray} (h0 : 0 ≤ n) (h1 : n < b.size) :
    Outc E s (.val (.int .u8 (b.data.toList.getD n.toNat 0).toNat)) a w true true (fun w => (do pure (Next.value (← Instr.index ty (.string b) (.int k n))) : Sem Next).run P w) := by
  refine Outc.same hr (fun w he => run_value ?_) (R_val_mk _)
  have hn : n.toNat < b.size := by omega
  have hb : b[n.toNat]? = some (b[n.toNat]'hn) := by rw [getElem?_pos]
  have hl : b.data.toList.getD n.toNat 0 = b[n.toNat]'hn := by
    have hlen : b.data.toList.length = b.size := by simp
    rw [List.getD_eq_getElem?_getD, List.getElem?_eq_getElem (by omega)]
    rfl
  rw [hl]
  simp only [Instr.index, asIntOf, Sem.run_bind, Sem.run_pure, Result.andThen_ok, run_underlying hd]
  simp only [h0, if_true, hb]
  rfl

/-! #### New blocks -/
theorem vals_ok : ∀ (vs : List Value), RList w ok ρ (vs.map .val) vs
  | [] => by unfold RList; rfl
  | v :: vs => by
    show RList w ok ρ (.val v :: vs.map .val) (v :: vs)
    unfold RList; exact ⟨v, vs, rfl, R_val_mk v, vals_ok vs⟩
theorem cvals_ok : ∀ (vs : List Value), RcList w ok (vs.map .val) vs
  | [] => by unfold RcList; rfl
  | v :: vs => by
    show RcList w ok (.val v :: vs.map .val) (v :: vs)
    unfold RcList; exact ⟨v, vs, rfl, by unfold Rc; rfl, cvals_ok vs⟩

theorem heap_push (w : World) (o : Obj) : ({ w with heap := w.heap.push o } : World).heap[w.heap.size]? = some o := by simp

/-- A new variable. -/
theorem newbox_ok (hr : RelM E s a w ρ ok) (e : TypeId) (cs : List AV) (C : Array Value) (h : RList w ok ρ cs C.toList) :
    ∃ ρ', RelM E { s with rg := s.rg ++ [.box e cs] } a { w with heap := w.heap.push (.cells C e) } ρ' ok ∧ ρ' s.rg.length = some (some ⟨w.heap.size, 0, cs.length, cs.length⟩) := by
  have hx := Ext.push w (.cells C e)
  have hn := hr.mem.out s.rg.length (Nat.le_refl _)
  refine ⟨_, hr.alloc hx (p := ⟨w.heap.size, 0, cs.length, cs.length⟩) rfl (by simp) ⟨w.heap.size, C, ?_, heap_push w _, ?_⟩, ?_⟩
  · unfold addPl; rw [if_pos rfl]
  · exact RList_frame (hx.reads hr.mem.okl) (fun _ x => x) (addPl_old hn _) _ _ h
  · unfold addPl; rw [if_pos rfl]

/-- A new array. -/
theorem newarr_ok (hr : RelM E s a w ρ ok) {w' : World} (e : TypeId) (sz : Nat) (els : List (List AV)) (C : Array Value) (vs rest : List Value) (hx : Ext w w') (hh : w'.heap[w.heap.size]? = some (.cells C e (0, 0))) (hC : C.toList = vs ++ rest)
    (hl : ∀ el ∈ els, el.length = sz) (h : RcList w ok els.flatten vs) :
    ∃ ρ', RelM E { s with rg := s.rg ++ [.arr e sz els] } a w' ρ' ok ∧ ρ' s.rg.length = some (some ⟨w.heap.size, 0, sz, C.size⟩) := by
  have hn := hr.mem.out s.rg.length (Nat.le_refl _)
  have hlt : w.heap.size < w'.heap.size := (Array.getElem?_eq_some_iff.1 hh).1
  refine ⟨_, hr.alloc hx (p := ⟨w.heap.size, 0, sz, C.size⟩) rfl hlt (.inl ⟨w.heap.size, 0, C, [], vs, rest, ?_, hh, by simpa using hC, rfl, hl, ?_⟩), ?_⟩
  · unfold addPl; rw [if_pos rfl]
  · exact RcList_frame (hx.reads hr.mem.okl) (fun _ x => x) _ _ h
  · unfold addPl; rw [if_pos rfl]

theorem snd_alloc (hr : RelM E s a w ρ ok) {e : TypeId} {i : TypeInfo} {zv : Value} (hi : P.info? e = some i) (hz : i.zero = some zv) :
    Outc E { s with rg := s.rg ++ [.box e (zv.cells.toList.map .val)] } (.ptr s.rg.length 0 0) a w false true (fun w => (do pure (Next.value (← Instr.alloc e true (.tuple #[]))) : Sem Next).run P w) := by
  obtain ⟨ρ', h1, h2⟩ := newbox_ok hr e (zv.cells.toList.map .val) zv.cells (vals_ok _)
  refine Outc.new (v := .pointer (some ⟨w.heap.size, 0, none⟩)) (ρ' := ρ') (ok' := ok) (.inl (run_value ?_)) h1 ?_ (fun _ => Ext.push w _)
  · simp [Instr.alloc, zeroValue, typeInfo, hi, hz, newVar, newRow]
  · unfold R; exact ⟨_, h2, by simp⟩

theorem snd_box (hr : RelM E s a w ρ ok) {e : TypeId} {x : AV} {v : Value} (hx : R w ok ρ x v) (hf : firm x) :
    Outc E { s with rg := s.rg ++ [.box e x.cells] } (.ptr s.rg.length 0 0) a w false true (fun w => (do pure (Next.value (← Instr.box e v)) : Sem Next).run P w) := by
  obtain ⟨ρ', h1, h2⟩ := newbox_ok hr e x.cells v.cells (cells_ok hf hx)
  refine Outc.new (v := .pointer (some ⟨w.heap.size, 0, none⟩)) (ρ' := ρ') (ok' := ok) (.inl (run_value ?_)) h1 ?_ (fun _ => Ext.push w _)
  · simp [Instr.box, newVar, newRow]
  · unfold R; exact ⟨_, h2, by simp⟩

end
end Go.Proofs.Ytmkodhpbjedfkaa.Aw
