/- A logic of abstract states for walks: what an operation does to a state is what it does. Part 4. -/
import Derived.Test.YtmkodhpbjedfkaaAwF
set_option linter.unusedVariables false
set_option linter.unusedSimpArgs false
namespace Go.Proofs.Ytmkodhpbjedfkaa.Aw
open Go.RowKit

section
variable {P : Program} {E : Env} {s s' : St} {a : Act} {w : World} {ρ : Nat → Option (Option Place)} {ok : Nat → Prop} {ev : Opd → AV} {z : AV}

/-! #### Parts put into cells -/
theorem fold_cells : ∀ (us : List Value) (k off : Nat) (C : Array Value), off + k + us.length ≤ C.size →
    ((us.zipIdx k).foldl (fun (cs : Array Value) (p : Value × Nat) => cs.setIfInBounds (off + p.2) p.1) C).toList = C.toList.take (off + k) ++ (us ++ C.toList.drop (off + k + us.length))
  | [], k, off, C, _ => by simp
  | u :: us, k, off, C, h => by
    simp only [List.length_cons] at h
    have ih := fold_cells us (k + 1) off (C.setIfInBounds (off + k) u) (by rw [Array.size_setIfInBounds]; omega)
    simp only [List.zipIdx_cons, List.foldl_cons]
    rw [ih]
    simp only [Array.toList_setIfInBounds, List.length_cons]
    rw [show off + (k + 1) = off + k + 1 by omega, List.take_add_one, show off + k + (us.length + 1) = off + k + 1 + us.length by omega]
    rw [List.take_set_of_le (by omega), List.drop_set_of_lt (by omega)]
    simp [show off + k < C.size by omega]

inductive PartsOk (P : Program) (w : World) (ok : Nat → Prop) (ρ : Nat → Option (Option Place)) (place : Nat → Option (Nat × Nat)) : List (Nat × Value) → List (Nat × Nat × AV) → Prop
  | nil : PartsOk P w ok ρ place [] []
  | cons {i v o n x ps qs} : place i = some (o, n) → R w ok ρ x v → PartsOk P w ok ρ place ps qs → PartsOk P w ok ρ place ((i, v) :: ps) ((o, n, x) :: qs)

theorem fill_ok {place : Nat → Option (Nat × Nat)} : ∀ {ps : List (Nat × Value)} {qs : List (Nat × Nat × AV)}, PartsOk P w ok ρ place ps qs → ∀ (C : Array Value) (cs : List AV), fillOb qs cs → RList w ok ρ cs C.toList →
    ∃ D, Instr.fill place C ps = some D ∧ RList w ok ρ (fillAV qs cs) D.toList := by
  intro ps qs h
  induction h with
  | nil => intro C cs _ h; exact ⟨C, rfl, h⟩
  | @cons i v o n x ps qs hp hx _ ih =>
    intro C cs hob h
    obtain ⟨hf, hl, ho, hob⟩ := hob
    have hcells := cells_ok hf hx
    have hlen := RList_length hcells
    have hC := RList_length h
    simp only [Array.length_toList] at hlen hC
    have hfold : (v.cells.zipIdx.foldl (fun (cs : Array Value) (p : Value × Nat) => cs.setIfInBounds (o + p.2) p.1) C).toList = C.toList.take o ++ (v.cells.toList ++ C.toList.drop (o + v.cells.toList.length)) := by
      rw [← Array.foldl_toList, Array.toList_zipIdx]
      have := fold_cells v.cells.toList 0 o C (by simp; omega)
      simpa using this
    have hsp := RList_splice h hcells o (by omega)
    rw [← hfold] at hsp
    obtain ⟨D, h1, h2⟩ := ih _ _ hob hsp
    refine ⟨D, ?_, h2⟩
    unfold Instr.fill
    rw [hp]
    dsimp only
    rw [if_neg (by simp; omega)]
    exact h1

theorem run_mapM_list {α β : Type} (g : α → Sem β) (h : α → β) : ∀ (l : List α), (∀ x ∈ l, (g x).run P w = .ok (h x) w) → (l.mapM g).run P w = .ok (l.map h) w
  | [], _ => by simp
  | x :: l, hl => by
    simp only [List.mapM_cons, Sem.run_bind, hl x List.mem_cons_self, Result.andThen_ok, run_mapM_list g h l (fun y hy => hl y (List.mem_cons_of_mem _ hy))]
    simp
theorem run_mapM_array {α β : Type} (g : α → Sem β) (h : α → β) (l : Array α) (hl : ∀ x ∈ l, (g x).run P w = .ok (h x) w) : (l.mapM g).run P w = .ok (l.map h) w := by
  rw [Array.mapM_eq_mapM_toList]
  simp only [Sem.run_map]
  rw [run_mapM_list g h l.toList (fun x hx => hl x (by simpa using hx))]
  simp only [Result.andThen_ok]
  rw [← Array.toList_map]

theorem partsOf_ok {fs : Array Field} {xs : List Operand} (ev : Opd → AV) (cv : Operand → Value) (hev : ∀ x, x ∈ xs → R w ok ρ (ev (.of x)) (cv x)) :
    ∀ (ps : List (Nat × Operand)) (qs : List (Nat × Nat × Opd)), (∀ p ∈ ps, p.2 ∈ xs) → partsOf P fs ps = some qs →
    PartsOk P w ok ρ (fun i => (fs.map fun f => (f.offset, ((P.info? f.type).map (·.size)).getD 0))[i]?) (ps.map fun p => (p.1, cv p.2)) (qs.map fun q => (q.1, q.2.1, ev q.2.2))
  | [], qs, _, h => by
    simp only [partsOf, Option.some.injEq] at h
    subst h; exact .nil
  | (i, x) :: ps, qs, hm, h => by
    unfold partsOf at h
    split at h
    · rename_i fd hf
      split at h
      · rename_i j hj
        split at h
        · rename_i r hr
          simp only [Option.some.injEq] at h
          subst h
          refine .cons ?_ (hev x (hm _ List.mem_cons_self)) (partsOf_ok ev cv hev ps r (fun p hp => hm p (List.mem_cons_of_mem _ hp)) hr)
          simp [hf, hj]
        · cases h
      · cases h
    · cases h

theorem snd_build (hr : RelM E s a w ρ ok) {ty : TypeId} {fs : Array Field} {i : TypeInfo} {zv : Value} (hi : P.info? ty = some i) (hz : i.zero = some zv) (hd : P.underlying ty = some (.struct fs)) (hall : ∀ fd ∈ fs, (P.info? fd.type).isSome = true)
    {ps : List (Nat × Value)} {qs : List (Nat × Nat × AV)} (hp : PartsOk P w ok ρ (fun i => (fs.map fun f => (f.offset, ((P.info? f.type).map (·.size)).getD 0))[i]?) ps qs) (hob : fillOb qs (zv.cells.toList.map .val)) :
    Outc E s (.agg (fillAV qs (zv.cells.toList.map .val))) a w true true (fun w => (do pure (Next.value (← Instr.build ty ps.toArray)) : Sem Next).run P w) := by
  obtain ⟨D, h1, h2⟩ := fill_ok hp zv.cells _ hob (vals_ok _)
  refine Outc.same hr (v := .agg D) (fun w he => run_value ?_) (R_agg_mk h2)
  have hm := run_mapM_array (P := P) (w := w) (fun (f : Field) => do pure (f.offset, ← sizeOf f.type)) (fun f => (f.offset, ((P.info? f.type).map (·.size)).getD 0)) fs (fun f hf => by
    obtain ⟨j, hj⟩ := Option.isSome_iff_exists.1 (hall f hf)
    simp [run_sizeOf hj, hj])
  simp only [Instr.build, zeroValue, typeInfo, Sem.run_bind, run_program, Result.andThen_ok, hi, hz, Sem.run_pure, run_underlying hd]
  rw [hm]
  simp only [Result.andThen_ok, h1]
  simp

theorem snd_builda (hr : RelM E s a w ρ ok) {ty e : TypeId} {n : Nat} {i j : TypeInfo} {zv : Value} (hi : P.info? ty = some i) (hz : i.zero = some zv) (hd : P.underlying ty = some (.array n e)) (hj : P.info? e = some j)
    {ps : List (Nat × Value)} {qs : List (Nat × Nat × AV)} (hp : PartsOk P w ok ρ (fun k => some (k * j.size, j.size)) ps qs) (hob : fillOb qs (zv.cells.toList.map .val)) :
    Outc E s (.agg (fillAV qs (zv.cells.toList.map .val))) a w true true (fun w => (do pure (Next.value (← Instr.build ty ps.toArray)) : Sem Next).run P w) := by
  obtain ⟨D, h1, h2⟩ := fill_ok hp zv.cells _ hob (vals_ok _)
  refine Outc.same hr (v := .agg D) (fun w he => run_value ?_) (R_agg_mk h2)
  simp only [Instr.build, zeroValue, typeInfo, Sem.run_bind, run_program, Result.andThen_ok, hi, hz, Sem.run_pure, run_underlying hd, run_sizeOf hj, h1]

/-! #### Literals of slices -/
theorem fillAV_rows (sz : Nat) : ∀ (xs : List AV) (k : Nat) (pre rest : List AV), pre.length = k * sz → rest.length = xs.length * sz → (∀ x ∈ xs, x.cells.length = sz) →
    fillAV ((xs.zipIdx k).map fun p => (p.2 * sz, sz, p.1)) (pre ++ rest) = pre ++ (xs.map AV.cells).flatten
  | [], k, pre, rest, _, hr, _ => by
    have : rest = [] := List.eq_nil_of_length_eq_zero (by simpa using hr)
    simp [fillAV, this]
  | x :: xs, k, pre, rest, hp, hr, hx => by
    simp only [List.zipIdx_cons, List.map_cons, fillAV]
    have hc := hx x List.mem_cons_self
    rw [List.length_cons, Nat.succ_mul] at hr
    have e : splice (pre ++ rest) (k * sz) x.cells = (pre ++ x.cells) ++ rest.drop sz := by
      unfold splice
      rw [← hp, List.take_left, hc, List.drop_length_add_append]
      simp
    rw [e, fillAV_rows sz xs (k + 1) (pre ++ x.cells) (rest.drop sz) (by simp [hp, hc, Nat.succ_mul]) (by simp; omega) (fun y hy => hx y (List.mem_cons_of_mem _ hy))]
    simp
theorem fillOb_rows (sz : Nat) : ∀ (xs : List AV) (k : Nat) (cs : List AV), cs.length = (k + xs.length) * sz → elsOb sz xs → fillOb ((xs.zipIdx k).map fun p => (p.2 * sz, sz, p.1)) cs
  | [], k, cs, _, _ => trivial
  | x :: xs, k, cs, hl, hx => by
    obtain ⟨h0, h1, h2, h3⟩ := hx
    simp only [List.zipIdx_cons, List.map_cons, fillOb]
    simp only [List.length_cons] at hl
    have hle : k * sz + sz ≤ cs.length := by
      rw [hl]
      have := Nat.mul_le_mul_right sz (show k + 1 ≤ k + (xs.length + 1) by omega)
      rw [Nat.succ_mul] at this; exact this
    refine ⟨h0, h1, hle, fillOb_rows sz xs (k + 1) _ ?_ h3⟩
    rw [splice_length _ _ _ (by omega), hl]; congr 1; omega
theorem elsOb_mem {sz : Nat} : ∀ {xs : List AV}, elsOb sz xs → ∀ x ∈ xs, x.cells.length = sz ∧ shutAll x.cells = true
  | [], _, x, h => by cases h
  | y :: xs, ⟨h0, h1, h2, h3⟩, x, h => by
    rcases List.mem_cons.1 h with rfl | h
    · exact ⟨h1, h2⟩
    · exact elsOb_mem h3 x h
theorem shutAll_append : ∀ {xs ys : List AV}, shutAll xs = true → shutAll ys = true → shutAll (xs ++ ys) = true
  | [], ys, _, h => h
  | x :: xs, ys, h, k => by
    simp only [shutAll, Bool.and_eq_true] at h
    show shutAll (x :: (xs ++ ys)) = true
    simp only [shutAll, Bool.and_eq_true]
    exact ⟨h.1, shutAll_append h.2 k⟩
theorem shutAll_flatten : ∀ {l : List (List AV)}, (∀ x ∈ l, shutAll x = true) → shutAll l.flatten = true
  | [], _ => rfl
  | x :: l, h => by
    rw [List.flatten_cons]
    exact shutAll_append (h x List.mem_cons_self) (shutAll_flatten fun y hy => h y (List.mem_cons_of_mem _ hy))

theorem snd_bsl (hr : RelM E s a w ρ ok) {ty e : TypeId} {i : TypeInfo} (hd : P.underlying ty = some (.slice e)) (hi : P.info? e = some i) {len : Nat} (hle : len * i.size ≤ 2 ^ 24) (hs : i.size ≠ 0) {zv : Value} (hz : i.zero = some zv)
    {ps : List (Nat × Value)} {xs : List AV} (hlen : xs.length = len) (hp : PartsOk P w ok ρ (fun k => some (k * i.size, i.size)) ps (xs.zipIdx.map fun p => (p.2 * i.size, i.size, p.1))) (hob : elsOb i.size xs) :
    Outc E { s with rg := s.rg ++ [.arr e i.size (xs.map AV.cells)] } (.hnd s.rg.length 0 len len true) a w false true (fun w => (do pure (Next.value (← Instr.buildSlice ty len ps.toArray)) : Sem Next).run P w) := by
  generalize hZ : ((Array.range (len * i.size)).map (fun x => if len * i.size = 0 then (#[] : Array Value)[x % 0]! else zv.cells[x % zv.cells.size]!)) = Z0
  have key : ∀ Z : Array Value, Z.size = len * i.size → ∃ D, Instr.fill (fun k => some (k * i.size, i.size)) Z ps = some D ∧ RList w ok ρ (xs.map AV.cells).flatten D.toList := fun Z hZs => by
    obtain ⟨D, h1, h2⟩ := fill_ok hp Z (Z.toList.map .val) (fillOb_rows _ _ 0 _ (by simp [hZs, hlen]) hob) (vals_ok _)
    refine ⟨D, h1, ?_⟩
    have := fillAV_rows i.size xs 0 [] (Z.toList.map .val) (by simp) (by simp [hZs, hlen]) (fun x hx => (elsOb_mem hob x hx).1)
    simp only [List.nil_append] at this
    rw [this] at h2; exact h2
  have hsh : shutAll (xs.map AV.cells).flatten = true := shutAll_flatten fun y hy => by
    obtain ⟨x, hx, rfl⟩ := List.mem_map.1 hy
    exact (elsOb_mem hob x hx).2
  have hall : ∀ el ∈ xs.map AV.cells, el.length = i.size := fun y hy => by
    obtain ⟨x, hx, rfl⟩ := List.mem_map.1 hy
    exact (elsOb_mem hob x hx).1
  have fin : ∀ Z : Array Value, Z.size = len * i.size → ∀ r : World → Result Next, (∀ D, Instr.fill (fun k => some (k * i.size, i.size)) Z ps = some D → r w = .ok (.value (.slice (some ⟨w.heap.size, 0, none⟩) len len)) { w with heap := w.heap.push (.cells D e) }) →
      Outc E { s with rg := s.rg ++ [.arr e i.size (xs.map AV.cells)] } (.hnd s.rg.length 0 len len true) a w false true r := fun Z hZs r hrr => by
    obtain ⟨D, h1, h2⟩ := key Z hZs
    have hDs : D.size = len * i.size := by
      have := RList_length h2
      rw [flatten_length hall, List.length_map, hlen] at this
      simpa using this
    obtain ⟨ρ', h3, h4⟩ := newarr_ok hr e i.size (xs.map AV.cells) D D.toList [] (Ext.push w _) (heap_push w _) (by simp) hall (RcList_of_R _ _ hsh h2)
    refine Outc.new (ρ' := ρ') (ok' := ok) (.inl (hrr D h1)) h3 ?_ (fun _ => Ext.push w _)
    unfold R
    exact .inl ⟨_, len, _, h4, rfl, .inr (by simp), Nat.le_refl _, Nat.le_refl _, by simp [hDs], fun _ => rfl⟩
  by_cases h0 : len * i.size = 0
  · refine fin ((Array.range (len * i.size)).map (fun x => (#[] : Array Value)[x % 0]!)) (by simp) _ fun D hD => ?_
    have hD' : Instr.fill (fun k => some (k * i.size, i.size)) ((Array.range 0).map (fun x => (#[] : Array Value)[x % 0]!)) ps = some D := by rw [h0] at hD; exact hD
    have hnot : ¬ (len * i.size > 2 ^ 24) := by omega
    simp only [Instr.buildSlice, Sem.run_bind, run_underlying hd, Result.andThen_ok, run_sizeOf hi]
    have hnot0 : ¬ (0 > 2 ^ 24) := by omega
    have hD'' : Instr.fill (fun k => some (k * i.size, i.size)) ((Array.range 0).map (fun x => (#[] : Array Value)[x % (#[] : Array Value).size]!)) ps = some D := hD'
    simp only [h0, if_neg hnot0, if_true, Sem.run_bind, Sem.run_pure, Result.andThen_ok]
    rw [hD'']
    simp [newRow]
  · refine fin ((Array.range (len * i.size)).map (fun x => zv.cells[x % zv.cells.size]!)) (by simp) _ fun D hD => ?_
    have hnot : ¬ (len * i.size > 2 ^ 24) := by omega
    simp only [Instr.buildSlice, Sem.run_bind, run_underlying hd, Result.andThen_ok, run_sizeOf hi]
    simp only [hnot, if_false, h0, Sem.run_bind, Sem.run_pure, Result.andThen_ok, zeroValue, typeInfo, run_program, hi, hz]
    rw [hD]
    simp [newRow]
end
end Go.Proofs.Ytmkodhpbjedfkaa.Aw
