/- A logic of abstract states for walks: what an operation does to a state is what it does. Part 5. -/
import Derived.Test.YtmkodhpbjedfkaaAwG
set_option linter.unusedVariables false
set_option linter.unusedSimpArgs false
namespace Go.Proofs.Ytmkodhpbjedfkaa.Aw
open Go.RowKit

section
variable {P : Program} {E : Env} {s s' : St} {a : Act} {w : World} {ρ : Nat → Option (Option Place)} {ok : Nat → Prop} {ev : Opd → AV} {z : AV}

/-! #### make -/
theorem made_rows (zl : Array Value) (k : Nat) (hk : zl.size = k) : ∀ n : Nat, (madeCells zl (n * k)).toList = (List.replicate n zl.toList).flatten
  | 0 => by simp [madeCells]
  | n + 1 => by
    have ih := made_rows zl k hk n
    unfold madeCells at *
    rw [Nat.succ_mul]
    simp only [Array.toList_map, Array.toList_range] at ih ⊢
    rw [List.range_add, List.map_append, ih, List.replicate_succ', List.flatten_append]
    congr 1
    simp only [List.flatten_cons, List.flatten_nil, List.append_nil, List.map_map]
    refine List.ext_getElem (by simp [hk]) fun j h1 h2 => ?_
    simp only [List.getElem_map, List.getElem_range, Function.comp]
    have hj : j < zl.size := by simpa using h2
    have : (n * k + j) % zl.size = j := by
      rw [hk, Nat.mul_comm, Nat.mul_add_mod]
      exact Nat.mod_eq_of_lt (by omega)
    rw [this]
    simp [hj]
theorem rep_ok (vs : List Value) : ∀ n : Nat, RcList w ok (List.replicate n (vs.map .val)).flatten (List.replicate n vs).flatten
  | 0 => by simp [RcList]
  | n + 1 => by
    rw [List.replicate_succ, List.flatten_cons, List.replicate_succ, List.flatten_cons]
    exact RcList_append (cvals_ok vs) (rep_ok vs n)

theorem snd_mksl (hr : RelM E s a w ρ ok) {ty e : TypeId} {i : TypeInfo} {zv : Value} (hd : P.underlying ty = some (.slice e)) (hi : P.info? e = some i) (hz : i.zero = some zv) (hsz : zv.cells.size = i.size) {n : Int}
    (h0 : 0 ≤ n) (hb : n * i.bytes ≤ 281474976710656) (h63 : n ≤ 9223372036854775807) :
    Outc E { s with rg := s.rg ++ [.arr e i.size (List.replicate n.toNat (zv.cells.toList.map .val))] } (.hnd s.rg.length 0 n.toNat n.toNat true) a w false true
      (fun w => (do pure (Next.value (← Instr.makeSlice ty (.int .i64 n) (.int .i64 n))) : Sem Next).run P w) := by
  have hrun := run_make (P := P) w ty e i zv hd hi hz .i64 .i64 n n h0 (Int.le_refl _) (by rw [Int.mul_comm]; exact hb) h63
  have hrows := made_rows zv.cells i.size hsz n.toNat
  obtain ⟨ρ', h1, h2⟩ := newarr_ok hr e i.size (List.replicate n.toNat (zv.cells.toList.map .val)) (madeCells zv.cells (n.toNat * i.size)) _ [] (Ext.push w _) (heap_push w _) (by rw [hrows, List.append_nil]) (fun el hm => by
    rw [List.eq_of_mem_replicate hm]; simp [hsz]) (rep_ok _ _)
  refine Outc.new (ρ' := ρ') (ok' := ok) (.inl (run_value hrun)) h1 ?_ (fun _ => Ext.push w _)
  unfold R
  exact .inl ⟨_, n.toNat, _, h2, rfl, .inr (by simp), Nat.le_refl _, Nat.le_refl _, by simp [size_madeCells], fun _ => rfl⟩

/-! #### Slices of slices -/
/-- An optional bound. -/
inductive Bd : Option Int → Option Value → Prop
  | none : Bd none none
  | some {k n} : Bd (some n) (some (.int k n))

theorem sb {k : IntKind} {i : Int} {y : Nat} {code : BoundsCode} (h0 : 0 ≤ i) (h1 : i ≤ (y : Int)) : (Instr.sliceBound (.int k i) y code).run P w = .ok i.toNat w := run_sliceBound _ _ _ _ _ h0 h1

theorem bounds_ok {isS : Bool} {len cap : Nat} {lo hi : Option Int} {L H : Option Value} (hL : Bd lo L) (hH : Bd hi H) (h0 : 0 ≤ lo.getD 0) (h1 : lo.getD 0 ≤ hi.getD len) (h2 : hi.getD len ≤ cap) :
    (Instr.sliceBounds isS len cap L H none).run P w = .ok ((lo.getD 0).toNat, (hi.getD len).toNat, cap) w := by
  cases hL <;> cases hH <;> simp only [Option.getD_some, Option.getD_none] at * <;> simp only [Instr.sliceBounds, Sem.run_bind, Sem.run_pure, Result.andThen_ok]
  · simp
  · rename_i kh h
    rw [sb (k := kh) (i := h) (y := cap) (by omega) (by omega)]; simp
  · rename_i kl l
    rw [sb (k := kl) (i := l) (y := len) (by omega) (by omega)]; simp
  · rename_i kl l kh h
    rw [sb (k := kh) (i := h) (y := cap) (by omega) (by omega)]
    simp only [Result.andThen_ok]
    rw [sb (k := kl) (i := l) (y := h.toNat) (by omega) (by omega)]; simp
theorem bounds_ok3 {isS : Bool} {len cap : Nat} {lo : Option Int} {L : Option Value} {h m : Int} {kh km : IntKind} (hL : Bd lo L) (h0 : 0 ≤ lo.getD 0) (h1 : lo.getD 0 ≤ h) (h2 : h ≤ m) (h3 : m ≤ cap) :
    (Instr.sliceBounds isS len cap L (some (.int kh h)) (some (.int km m))).run P w = .ok ((lo.getD 0).toNat, h.toNat, m.toNat) w := by
  cases hL <;> simp only [Option.getD_some, Option.getD_none] at * <;> simp only [Instr.sliceBounds, Sem.run_bind, Sem.run_pure, Result.andThen_ok]
  · rw [sb (k := km) (i := m) (y := cap) (by omega) (by omega)]
    simp only [Result.andThen_ok]
    rw [sb (k := kh) (i := h) (y := m.toNat) (by omega) (by omega)]; simp
  · rename_i kl l
    rw [sb (k := km) (i := m) (y := cap) (by omega) (by omega)]
    simp only [Result.andThen_ok]
    rw [sb (k := kh) (i := h) (y := m.toNat) (by omega) (by omega)]
    simp only [Result.andThen_ok]
    rw [sb (k := kl) (i := l) (y := h.toNat) (by omega) (by omega)]; simp

theorem RcEls_take {b sz : Nat} : ∀ {els : List (List AV)} {o : Nat} (n : Nat), RcEls w ok b sz o els → RcEls w ok b sz o (els.take n)
  | els, o, 0, _ => by simp [RcEls]
  | [], o, n + 1, _ => by simp [RcEls]
  | e :: els, o, n + 1, h => by
    unfold RcEls at h
    rw [List.take_succ_cons]
    unfold RcEls
    exact ⟨h.1, h.2.1, RcEls_take n h.2.2⟩
theorem RcEls_drop {b sz : Nat} : ∀ {els : List (List AV)} {o : Nat} (n : Nat), RcEls w ok b sz o els → RcEls w ok b sz (o + n * sz) (els.drop n)
  | els, o, 0, h => by simpa using h
  | [], o, n + 1, _ => by simp [RcEls]
  | e :: els, o, n + 1, h => by
    unfold RcEls at h
    rw [List.drop_succ_cons, Nat.succ_mul, show o + (n * sz + sz) = o + sz + n * sz by omega]
    exact RcEls_drop n h.2.2

theorem imm_slice {nl : Option Bool} {fu : Bool} {sz : Nat} {els : List (List AV)} {v : Value} (hx : R w ok ρ (.imm nl fu sz els) v) :
    ∃ A c, v = .slice A els.length c ∧ els.length ≤ c ∧ ∀ (l h m : Nat), l ≤ h → h ≤ els.length → h ≤ m → m ≤ c → ∀ fu' : Bool, (fu' = true → m = h) →
      R w ok ρ (.imm nl fu' sz ((els.take h).drop l)) (.slice (if m = l then A else A.map (·.add (l * sz))) (h - l) (m - l)) := by
  unfold R Rc at hx
  obtain ⟨A, c, rfl, h2, h3, h4, h5, h6⟩ := hx
  refine ⟨A, c, rfl, h2, fun l h m h7 h8 h9 h10 fu' h11 => ?_⟩
  have hlen : ((els.take h).drop l).length = h - l := by simp; omega
  unfold R Rc
  refine ⟨_, m - l, by rw [hlen], by omega, ?_, ?_, fun hf => by rw [hlen, h11 hf], fun ad had hne => ?_⟩
  · intro q hq
    have := h3 q hq
    split
    · exact this
    · cases A <;> simpa using this
  · intro hA
    split at hA
    · omega
    · cases A with
      | none => have := h4 rfl; omega
      | some a => simp at hA
  · have hne' : l < h := by
      rcases Nat.lt_or_ge l h with h12 | h12
      · exact h12
      · exact absurd (List.eq_nil_of_length_eq_zero (by omega)) hne
    rw [if_neg (by omega)] at had
    cases A with
    | none => simp at had
    | some a1 =>
      have had' : a1.add (l * sz) = ad := by simpa using had
      obtain ⟨h12, h13, h14⟩ := h6 a1 rfl (by intro e; rw [e] at h8; simp at h8; omega)
      obtain ⟨b, o, sp⟩ := a1
      simp only at h12 h13 h14
      subst h12
      rw [add_plain] at had'
      subst had'
      exact ⟨rfl, h13, RcEls_drop l (RcEls_take h h14)⟩

theorem snd_slc_imm (hr : RelM E s a w ρ ok) {ty e : TypeId} {i : TypeInfo} (hd : P.underlying ty = some (.slice e)) (hi : P.info? e = some i) {nl : Option Bool} {fu : Bool} {els : List (List AV)} {v : Value} (hx : R w ok ρ (.imm nl fu i.size els) v)
    {lo hi' : Option Int} {L H M : Option Value} (hL : Bd lo L) (hH : Bd hi' H) (h0 : 0 ≤ lo.getD 0) (h1 : lo.getD 0 ≤ hi'.getD els.length) (h2 : hi'.getD els.length ≤ els.length) {fu' : Bool}
    (hM : (fu' = false ∧ M = none) ∨ (hi'.isSome = true ∧ ∃ km, M = some (.int km (hi'.getD els.length)))) :
    Outc E s (.imm nl fu' i.size ((els.take (hi'.getD els.length).toNat).drop (lo.getD 0).toNat)) a w true true (fun w => (do pure (Next.value (← Instr.sliceAt ty v L H M)) : Sem Next).run P w) := by
  obtain ⟨A, c, rfl, h3, hall⟩ := imm_slice hx
  rcases hM with ⟨rfl, rfl⟩ | ⟨hs, km, rfl⟩
  · have hb := fun w : World => bounds_ok (P := P) (w := w) (isS := true) (len := els.length) (cap := c) hL hH h0 h1 (by omega)
    refine Outc.same hr (fun w he => run_value ?_) (hall (lo.getD 0).toNat (hi'.getD els.length).toNat c (by omega) (by omega) (by omega) (Nat.le_refl _) false (fun h => by cases h))
    simp only [Instr.sliceAt, Sem.run_bind, run_underlying hd, Result.andThen_ok, Instr.slice, hb, run_sizeOf hi, Sem.run_pure]
  · cases hH with
    | none => simp at hs
    | @some kh h =>
      simp only [Option.getD_some] at *
      have hb := fun w : World => bounds_ok3 (P := P) (w := w) (isS := true) (len := els.length) (cap := c) (kh := kh) (km := km) (h := h) (m := h) hL h0 h1 (Int.le_refl _) (by omega)
      refine Outc.same hr (fun w he => run_value ?_) (hall (lo.getD 0).toNat h.toNat h.toNat (by omega) (by omega) (Nat.le_refl _) (by omega) fu' (fun _ => rfl))
      simp only [Instr.sliceAt, Sem.run_bind, run_underlying hd, Result.andThen_ok, Instr.slice, hb, run_sizeOf hi, Sem.run_pure]

theorem snd_slc_hnd (hr : RelM E s a w ρ ok) {ty e : TypeId} {i : TypeInfo} (hd : P.underlying ty = some (.slice e)) (hi : P.info? e = some i) {r off n k : Nat} {ex : Bool} {v : Value} (hx : R w ok ρ (.hnd r off n k ex) v)
    {e' : TypeId} {els : List (List AV)} (hg : s.reg r = .arr e' i.size els)
    {lo hi' : Option Int} {L H M : Option Value} (hL : Bd lo L) (hH : Bd hi' H) (h0 : 0 ≤ lo.getD 0) (h1 : lo.getD 0 ≤ hi'.getD n) (h2 : hi'.getD n ≤ k)
    (hM : (M = none ∧ z = .hnd r (off + (lo.getD 0).toNat) ((hi'.getD n).toNat - (lo.getD 0).toNat) (k - (lo.getD 0).toNat) ex) ∨
      (hi'.isSome = true ∧ ∃ km m, M = some (.int km m) ∧ hi'.getD n ≤ m ∧ m ≤ k ∧ z = .hnd r (off + (lo.getD 0).toNat) ((hi'.getD n).toNat - (lo.getD 0).toNat) (m.toNat - (lo.getD 0).toNat) true)) :
    Outc E s z a w true true (fun w => (do pure (Next.value (← Instr.sliceAt ty v L H M)) : Sem Next).run P w) := by
  unfold R at hx
  rcases hx with ⟨p, cc, ad, h3, rfl, h4, h5, h6, h7, h8⟩ | ⟨h3, rfl, h4, h5, h6⟩
  · have hsz : p.sz = i.size := by
      rcases hr.mem.reg r _ (reg_some hg (by simp)) with ⟨b, d, C, pre, vs, rest, h9, _⟩ | ⟨_, h9⟩
      · rw [h3] at h9; injection h9 with h9; injection h9 with h9; rw [h9]
      · rw [h3] at h9; injection h9 with h9; cases h9
    rcases hM with ⟨rfl, rfl⟩ | ⟨hs, km, m, rfl, hm1, hm2, rfl⟩
    · have hb := fun w : World => bounds_ok (P := P) (w := w) (isS := true) (len := n) (cap := cc) hL hH h0 h1 (by omega)
      refine Outc.same hr (v := .slice (if cc = (lo.getD 0).toNat then some ad else (some ad).map (·.add ((lo.getD 0).toNat * i.size))) ((hi'.getD n).toNat - (lo.getD 0).toNat) (cc - (lo.getD 0).toNat)) (fun w he => run_value ?_) ?_
      · simp only [Instr.sliceAt, Sem.run_bind, run_underlying hd, Result.andThen_ok, Instr.slice, hb, run_sizeOf hi, Sem.run_pure]
      · unfold R
        refine .inl ⟨p, cc - (lo.getD 0).toNat, if cc = (lo.getD 0).toNat then ad else ad.add ((lo.getD 0).toNat * i.size), h3, ?_, ?_, by omega, by omega, ?_, fun hx => by have := h8 hx; omega⟩
        · split <;> rfl
        · by_cases hc : cc = (lo.getD 0).toNat
          · exact .inl (by omega)
          · right
            rw [if_neg hc]
            rcases h4 with h4 | h4
            · omega
            · rw [h4, add_plain, hsz, Nat.add_mul, Nat.add_assoc]
        · rw [show off + (lo.getD 0).toNat + (cc - (lo.getD 0).toNat) = off + cc by omega]; exact h7
    · cases hH with
      | none => simp at hs
      | @some kh h =>
        simp only [Option.getD_some] at *
        have hb := fun w : World => bounds_ok3 (P := P) (w := w) (isS := true) (len := n) (cap := cc) (kh := kh) (km := km) (h := h) (m := m) hL h0 h1 hm1 (by omega)
        refine Outc.same hr (v := .slice (if m.toNat = (lo.getD 0).toNat then some ad else (some ad).map (·.add ((lo.getD 0).toNat * i.size))) (h.toNat - (lo.getD 0).toNat) (m.toNat - (lo.getD 0).toNat)) (fun w he => run_value ?_) ?_
        · simp only [Instr.sliceAt, Sem.run_bind, run_underlying hd, Result.andThen_ok, Instr.slice, hb, run_sizeOf hi, Sem.run_pure]
        · unfold R
          refine .inl ⟨p, m.toNat - (lo.getD 0).toNat, if m.toNat = (lo.getD 0).toNat then ad else ad.add ((lo.getD 0).toNat * i.size), h3, ?_, ?_, by omega, Nat.le_refl _, ?_, fun _ => rfl⟩
          · split <;> rfl
          · by_cases hc : m.toNat = (lo.getD 0).toNat
            · exact .inl (by omega)
            · right
              rw [if_neg hc]
              rcases h4 with h4 | h4
              · omega
              · rw [h4, add_plain, hsz, Nat.add_mul, Nat.add_assoc]
          · refine Nat.le_trans ?_ h7
            exact Nat.add_le_add_left (Nat.mul_le_mul_right _ (by omega)) _
  · rcases hM with ⟨rfl, rfl⟩ | ⟨hs, km, m, rfl, hm1, hm2, rfl⟩
    · have hb := fun w : World => bounds_ok (P := P) (w := w) (isS := true) (len := 0) (cap := 0) hL hH h0 (by rw [h5] at h1; exact h1) (by rw [h5, h6] at h2; simpa using h2)
      have e0 : (lo.getD 0).toNat = 0 := by omega
      have e1 : (hi'.getD n).toNat = 0 := by omega
      refine Outc.same hr (v := .slice none 0 0) (fun w he => run_value ?_) ?_
      · simp only [Instr.sliceAt, Sem.run_bind, run_underlying hd, Result.andThen_ok, Instr.slice, hb, run_sizeOf hi, Sem.run_pure]
        rw [h5] at e1
        simp only [Int.ofNat_eq_natCast, Int.natCast_zero] at e1 ⊢
        simp [e0, e1]
      · unfold R; exact .inr ⟨h3, rfl, by omega, by omega, by omega⟩
    · cases hH with
      | none => simp at hs
      | @some kh h =>
        simp only [Option.getD_some] at *
        have hb := fun w : World => bounds_ok3 (P := P) (w := w) (isS := true) (len := 0) (cap := 0) (kh := kh) (km := km) (h := h) (m := m) hL h0 h1 hm1 (by omega)
        have e0 : (lo.getD 0).toNat = 0 := by omega
        have e1 : h.toNat = 0 := by omega
        have e2 : m.toNat = 0 := by omega
        refine Outc.same hr (v := .slice none 0 0) (fun w he => run_value ?_) ?_
        · simp only [Instr.sliceAt, Sem.run_bind, run_underlying hd, Result.andThen_ok, Instr.slice, hb, run_sizeOf hi, Sem.run_pure]
          simp [e0, e1, e2]
        · unfold R; exact .inr ⟨h3, rfl, by omega, by omega, by omega⟩

theorem snd_slc_nil (hr : RelM E s a w ρ ok) {ty e : TypeId} {i : TypeInfo} (hd : P.underlying ty = some (.slice e)) (hi : P.info? e = some i)
    {lo hi' mx : Option Int} {L H M : Option Value} (hL : Bd lo L) (hH : Bd hi' H) (hM : Bd mx M) (h0 : lo.getD 0 = 0) (h1 : hi'.getD 0 = 0) (h2 : mx.getD 0 = 0) (h3 : mx.isSome = true → hi'.isSome = true) :
    Outc E s (.val (.slice none 0 0)) a w true true (fun w => (do pure (Next.value (← Instr.sliceAt ty (.slice none 0 0) L H M)) : Sem Next).run P w) := by
  refine Outc.same hr (fun w he => run_value ?_) (R_val_mk _)
  cases hM with
  | none =>
    have hb := fun w : World => bounds_ok (P := P) (w := w) (isS := true) (len := 0) (cap := 0) hL hH (by omega) (by rw [h0]; simpa using Int.le_of_eq h1.symm) (by simpa using Int.le_of_eq h1)
    have e0 : (lo.getD 0).toNat = 0 := by omega
    have e1 : (hi'.getD ((0 : Nat) : Int)).toNat = 0 := by simp [h1]
    simp only [Instr.sliceAt, Sem.run_bind, run_underlying hd, Result.andThen_ok, Instr.slice, hb, run_sizeOf hi, Sem.run_pure]
    simp only [e0, e1]
    simp
  | @some km m =>
    cases hH with
    | none => simp at h3
    | @some kh h =>
      simp only [Option.getD_some] at *
      have hb := fun w : World => bounds_ok3 (P := P) (w := w) (isS := true) (len := 0) (cap := 0) (kh := kh) (km := km) (h := h) (m := m) hL (by omega) (by omega) (by omega) (by omega)
      have e0 : (lo.getD 0).toNat = 0 := by omega
      simp only [Instr.sliceAt, Sem.run_bind, run_underlying hd, Result.andThen_ok, Instr.slice, hb, run_sizeOf hi, Sem.run_pure]
      simp [e0, h1, h2]

theorem snd_slcs (hr : RelM E s a w ρ ok) {ty : TypeId} (hd : P.underlying ty = some .string) {b : ByteArray}
    {lo hi' : Option Int} {L H : Option Value} (hL : Bd lo L) (hH : Bd hi' H) (h0 : 0 ≤ lo.getD 0) (h1 : lo.getD 0 ≤ hi'.getD b.size) (h2 : hi'.getD b.size ≤ b.size) :
    Outc E s (.val (.string (b.extract (lo.getD 0).toNat (hi'.getD b.size).toNat))) a w true true (fun w => (do pure (Next.value (← Instr.sliceAt ty (.string b) L H none)) : Sem Next).run P w) := by
  refine Outc.same hr (fun w he => run_value ?_) (R_val_mk _)
  have hb := fun w : World => bounds_ok (P := P) (w := w) (isS := false) (len := b.size) (cap := b.size) hL hH h0 h1 h2
  simp only [Instr.sliceAt, Sem.run_bind, run_underlying hd, Result.andThen_ok, Instr.slice, Option.isSome_none, Bool.false_eq_true, if_false, Sem.run_pure, hb]

/-! #### A string's bytes -/
theorem bytes_cells (b : ByteArray) {w : World} {k : Nat} {C : Array Value} {e : TypeId} {fr : Nat × Nat} (hw : w.heap[k]? = some (.cells C e fr)) (hC : ∃ rest, C.toList = (b.data.toList.map fun x => Value.int .u8 x.toNat) ++ rest) :
    RcEls w ok k 1 0 (b.data.toList.map fun c => [.val (.int .u8 c.toNat)]) := by
  obtain ⟨rest, hC⟩ := hC
  have key : ∀ (l : List UInt8) (o : Nat) (pre : List Value), pre.length = o → C.toList = pre ++ ((l.map fun x => Value.int .u8 x.toNat) ++ rest) → RcEls w ok k 1 o (l.map fun c => [AV.val (.int .u8 c.toNat)]) := by
    intro l
    induction l with
    | nil => intro o pre _ _; simp [RcEls]
    | cons x l ih =>
      intro o pre hp hc
      simp only [List.map_cons]
      unfold RcEls RcCells RcCells
      refine ⟨rfl, ⟨⟨.int .u8 x.toNat, ?_, by unfold Rc; rfl⟩, trivial⟩, ih (o + 1) (pre ++ [.int .u8 x.toNat]) (by simp [hp]) (by rw [hc]; simp)⟩
      rw [cell_of hw, ← Array.getElem?_toList, hc, List.getElem?_append_right (by omega), hp]
      simp
  exact key b.data.toList 0 [] rfl (by simpa using hC)

theorem snd_stb (hr : RelM E s a w ρ ok) {src dst e : TypeId} (hs : P.underlying src = some .string) (hd : P.underlying dst = some (.slice e)) (he : P.underlying e = some (.int .u8)) {b : ByteArray} :
    Outc E s (.imm (some false) false 1 (b.data.toList.map fun c => [.val (.int .u8 c.toNat)])) a w false true (fun w => (do pure (Next.value (← convert src dst (.string b))) : Sem Next).run P w) := by
  generalize hcap : (Question.appendCap b.size 0 e).cut (w.tape w.drawn (.appendCap b.size 0 e)) = cap
  have hle : b.size ≤ cap := by rw [← hcap]; exact Nat.le_add_right _ _
  generalize hC : (b.data.map fun x => Value.int .u8 x.toNat) ++ Array.replicate (cap - b.size) (Value.int .u8 0) = C
  have hCs : C.size = cap := by rw [← hC]; simp; omega
  let w1 : World := { w with drawn := w.drawn + 1, heap := w.heap.push (.cells C e) }
  have hrun : ∃ w', (convert src dst (.string b)).run P w = .ok (.slice (some ⟨w.heap.size, 0, none⟩) b.size cap) w' ∧ w' = w1.freeze ⟨w.heap.size, cap, none⟩ 1 := by
    refine ⟨_, ?_, rfl⟩
    simp only [convert, Sem.run_bind, run_underlying hs, run_underlying hd, run_underlying he, Result.andThen_ok, Conv.stringToBytes, run_choose, Question.forced, Bool.false_eq_true, if_false, hcap, newRow, run_newObj, Sem.run_pure, markStringish, run_shape, hC]
    simp only [World.shape?]
    rw [show ({ heap := w.heap.push (Obj.cells C e), tape := w.tape, drawn := w.drawn + 1, os := w.os, output := w.output } : World).heap[w.heap.size]? = some (.cells C e (0, 0)) by simp]
    simp only [Sem.run_bind, run_freeze, Result.andThen_ok, Sem.run_pure, hCs]
    rfl
  obtain ⟨w', hrun, hw'⟩ := hrun
  have hext : Ext w w' := by
    subst hw'
    refine ⟨rfl, rfl, rfl, ?_, fun k hk => ?_⟩
    · simp [World.freeze, w1]
    · simp only [World.freeze, w1]
      simp only [Nat.one_ne_zero, if_false, Array.getElem?_modify, Array.getElem?_push]
      rw [if_neg (by omega), if_neg (by omega)]
  have hsize : w'.heap.size = w.heap.size + 1 := by subst hw'; simp [World.freeze, w1]
  have hblk : ∃ fr, w'.heap[w.heap.size]? = some (.cells C e fr) := by
    subst hw'
    refine ⟨(cap, cap + 1), ?_⟩
    simp only [World.freeze, w1, Nat.one_ne_zero, if_false, Array.getElem?_modify, if_true, Array.getElem?_push]
    simp
  obtain ⟨fr, hblk⟩ := hblk
  have hr' := hr.ext hext
  have hk : ∀ k, ok k → ok k ∨ k = w.heap.size := fun k h => .inl h
  have hrd : Reads ok w' w' := fun _ _ _ _ h => h
  refine Outc.new (w' := w') (ρ' := ρ) (ok' := fun k => ok k ∨ k = w.heap.size) (.inl (run_value hrun)) ?_ ?_ (fun _ => hext)
  · refine ⟨⟨fun k h => ?_, hr'.mem.inj, fun r p hp => ⟨(hr'.mem.own r p hp).1, fun h => ?_⟩, fun r g hg => ?_, hr'.mem.out⟩, fun n => R_frame hrd hk (fun _ _ x => x) _ _ (hr'.tm n), hr'.siz, hr'.dfr, hr'.kps, hr'.bas, hr'.ownr, fun k h => ?_, hr'.pin⟩
    · rcases h with h | h
      · exact hr'.mem.okl k h
      · omega
    · rcases h with h | h
      · exact (hr'.mem.own r p hp).2 h
      · have := (hr.mem.own r p hp).1; omega
    · have h0 := hr'.mem.reg r g hg
      cases g with
      | dead => exact h0
      | box e' cs =>
        obtain ⟨b', C', h1, h2, h3⟩ := h0
        exact ⟨b', C', h1, h2, RList_frame hrd hk (fun _ _ x => x) _ _ h3⟩
      | arr e' sz els =>
        rcases h0 with ⟨b', d, C', pre, vs, rest, h1, h2, h3, h4, h5, h6⟩ | h0
        · exact .inl ⟨b', d, C', pre, vs, rest, h1, h2, h3, h4, h5, RcList_frame hrd hk _ _ h6⟩
        · exact .inr h0
    · rcases h with h | h
      · exact hr'.okr k h
      · right; left; rw [h]; exact hr.bas
  · unfold R Rc
    refine ⟨some ⟨w.heap.size, 0, none⟩, cap, by simp, by simpa using hle, fun q hq => by (cases hq; rfl), fun h => by (cases h), fun h => by (cases h), fun ad had _ => ?_⟩
    injection had with had
    subst had
    refine ⟨rfl, .inr rfl, bytes_cells b hblk ⟨(Array.replicate (cap - b.size) (Value.int .u8 0)).toList, ?_⟩⟩
    rw [← hC]; simp
end
end Go.Proofs.Ytmkodhpbjedfkaa.Aw
