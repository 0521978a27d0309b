/- Graphs: what happens without an edge. -/
import Derived.Test.YtmkodhpbjedfkaaAwZh
import Derived.Test.YtmkodhpbjedfkaaGraP
set_option linter.unusedVariables false
set_option linter.unusedSimpArgs false
namespace Go.Proofs.Ytmkodhpbjedfkaa
open Go.Proofs.Ytmkodhpbjedfkaa.Aw
attribute [local go_sem] Int.natCast_zero Int.natCast_one bne_self_eq_false beq_self_eq_true Bool.not_true Bool.not_false Option.isSome_none Option.isSome_some Aw.bkM_nil Option.getD_some Option.getD_none Nat.sub_zero Int.toNat_zero Aw.frzS Aw.frzT Aw.frzA Aw.frzL Aw.frzR Aw.frzO Aw.frzOL Aw.frzOT Aw.frzOR Aw.killS Aw.mapT Aw.mapR Aw.killM Aw.resAVs Aw.resAV Aw.quietOps Aw.wpP Aw.wpT Aw.wpS Aw.AOp.mild List.getElem?_cons_zero List.getElem?_cons_succ Bool.and_false Bool.and_self Bool.false_and Aw.opOb Aw.gdB Aw.Rnd Aw.subTm List.length_map Int.toNat_natCast and_self Aw.SeqC Aw.stops Aw.Ends Aw.looks Aw.renA Aw.renL Aw.renT Aw.renS Aw.wpO Aw.aop Aw.putTm Aw.St.ev Aw.St.put Aw.St.putO Aw.binAV Aw.intBin Aw.strBin Aw.pickAV Aw.optInt Aw.AV.strip Aw.AV.guard Aw.AV.cells Aw.gdOb Aw.AOp.opds Aw.AOp.still Aw.ptrCells Aw.St.reg Aw.fillAV Aw.fillOb Aw.elsOb Aw.splice Aw.firm Aw.cellish Aw.AV.shut Aw.shutAll Aw.Seq Aw.Blk Aw.retS_nil Aw.mapA Aw.mapL Aw.borA Aw.borOb Aw.allOb Aw.tupOf Aw.params Aw.Opd.of Array.toList Value.cells List.map_cons List.map_nil List.getD_cons_zero List.getD_cons_succ List.getD_nil List.length_cons List.length_nil List.take_succ_cons List.take_zero List.take_nil List.drop_zero List.drop_succ_cons List.drop_nil List.set_cons_zero List.set_cons_succ List.append_nil List.nil_append List.cons_append List.all_cons List.all_nil cond_false cond_true if_true if_false true_and and_true Bool.and_true Bool.true_and Option.map_some Option.map_none false_implies forall_const implies_true forall_eq imp_self Bool.cond_false_right Bool.cond_true_left beq_true beq_false Bool.not_eq_true' Bool.false_eq_true Nat.zero_add Nat.add_zero Aw.eqCells Aw.stopDraw Aw.skipS Aw.exactCap Aw.revealS Aw.srcEls Aw.srcSz
attribute [local go_sem ↓] Aw.look_nil Aw.look_ite Aw.wpL_nil Aw.wpL_op Aw.wpL_gd Aw.wpQ_nil Aw.wpQ_op Aw.wpQ_gd Aw.wpC_draw Aw.wpC_reg Aw.wpC_skip Aw.wpC_ret Aw.wpC_exit Aw.wpC_seq Aw.wpC_block Aw.wpC_loop Aw.wpC_cond Aw.stopAt_nil Aw.stopAt_cons Aw.wpD_skip Aw.wpD_ret Aw.wpD_exit Aw.wpD_region Aw.wpD_draw Aw.wpM_nil Aw.wpM_op Aw.wpM_gd Aw.wpD_seq Aw.wpD_block Aw.wpD_loop Aw.wpD_cond
theorem nodup_len : ∀ (m : Nat) (l : List Nat), l.Nodup → (∀ x ∈ l, x < m) → l.length ≤ m
  | 0, [], _, _ => Nat.le_refl _
  | 0, x :: l, _, h => absurd (h x List.mem_cons_self) (Nat.not_lt_zero _)
  | m + 1, l, hn, h => by
    have h1 := nodup_len m (l.erase m) (hn.erase m) fun x hx => by
      obtain ⟨h2, h3⟩ := (List.Nodup.mem_erase_iff hn).1 hx
      have := h x h3
      omega
    have h2 := List.length_erase (a := m) (l := l)
    split at h2 <;> omega
/-- A relation that is total and never meets twice. -/
theorem php {m m' : Nat} (R : Nat → Nat → Prop) (ht : ∀ j, j < m → ∃ i, i < m' ∧ R j i) (hi : ∀ j1 j2 i, j1 < m → j2 < m → R j1 i → R j2 i → j1 = j2) : m ≤ m' := by
  have hc : ∀ j, ∃ i, j < m → i < m' ∧ R j i := fun j => by
    by_cases h : j < m
    · obtain ⟨i, h1⟩ := ht j h
      exact ⟨i, fun _ => h1⟩
    · exact ⟨0, fun h2 => absurd h2 h⟩
  obtain ⟨f, hf⟩ := Classical.axiomOfChoice hc
  have h1 := nodup_len m' ((List.range m).map f) (by
    rw [List.nodup_iff_pairwise_ne, List.pairwise_map]
    refine List.Pairwise.imp_of_mem (fun {a b} ha hb hab he => hab ?_) (List.nodup_iff_pairwise_ne.1 List.nodup_range)
    have ha := List.mem_range.1 ha
    have hb := List.mem_range.1 hb
    exact hi a b (f a) ha hb (hf a ha).2 (by rw [he]; exact (hf b hb).2)) fun x hx => by
      obtain ⟨j, hj, rfl⟩ := List.mem_map.1 hx
      exact (hf j (List.mem_range.1 hj)).1
  simpa using h1
theorem erase_get {l : List (Nat × Nat)} {k i : Nat} : (l.eraseIdx k).getD i (0, 0) = if i < k then l.getD i (0, 0) else l.getD (i + 1) (0, 0) := by
  rw [List.getD_eq_getElem?_getD, List.getElem?_eraseIdx, List.getD_eq_getElem?_getD, List.getD_eq_getElem?_getD]
  split <;> rfl
abbrev every : Nat → Bool := fun _ => true
theorem Even.erase {l : List (Nat × Nat)} {k : Nat} {g : Nat → Int} (hk : k < l.length) (h : Even l every g) : Even (l.eraseIdx k) every g := fun i hi _ => by
  rw [List.length_eraseIdx, if_pos hk] at hi
  rw [erase_get]
  split
  · exact h i (by omega) rfl
  · exact h (i + 1) (by omega) rfl
theorem Even.back {l : List (Nat × Nat)} {k : Nat} {g : Nat → Int} (hk : k < l.length) (h : Even (l.eraseIdx k) every g) (he : g (l.getD k (0, 0)).1 = g (l.getD k (0, 0)).2) : Even l every g := fun i hi _ => by
  rcases Nat.lt_trichotomy i k with h1 | rfl | h1
  · have := h i (by rw [List.length_eraseIdx, if_pos hk]; omega) rfl
    rwa [erase_get, if_pos h1] at this
  · exact he
  · have := h (i - 1) (by rw [List.length_eraseIdx, if_pos hk]; omega) rfl
    rwa [erase_get, if_neg (by omega), show i - 1 + 1 = i by omega] at this
/-- A component falls apart without an edge if the ends of the edge are in different components then. -/
theorem splits {N : Nat} {l : List (Nat × Nat)} {k : Nat} {out out' : List Int} {many many' : Int} (hl : EdgesIn N l) (hk : k < l.length) (h : PartsO N l every out many) (h' : PartsO N (l.eraseIdx k) every out' many') :
    decide (many' > many) = (out'.getD (l.getD k (0, 0)).1 0 != out'.getD (l.getD k (0, 0)).2 0) := by
  have h1 : ∀ x y, x < N → y < N → out'.getD x 0 = out'.getD y 0 → out.getD x 0 = out.getD y 0 := h'.fine (fun x => out.getD x 0) (h.edge.erase hk)
  obtain ⟨ha, hb⟩ := hl k hk
  have he := h.edge k hk rfl
  have hb2 : Even l every (fun x => out'.getD x 0) ∨ out'.getD (l.getD k (0, 0)).1 0 ≠ out'.getD (l.getD k (0, 0)).2 0 := by
    by_cases e : out'.getD (l.getD k (0, 0)).1 0 = out'.getD (l.getD k (0, 0)).2 0
    · exact .inl (h'.edge.back hk e)
    · exact .inr e
  dsimp only at he
  generalize (l.getD k (0, 0)).1 = a at *
  generalize (l.getD k (0, 0)).2 = b at *
  obtain ⟨m, hm⟩ : ∃ m : Nat, many = m := ⟨many.toNat, by have := h.le.1; omega⟩
  obtain ⟨m', hm'⟩ : ∃ m : Nat, many' = m := ⟨many'.toNat, by have := h'.le.1; omega⟩
  subst hm hm'
  by_cases e : out'.getD a 0 = out'.getD b 0
  · rcases hb2 with hE | hE
    · have h2 := h.fine _ hE
      have hle : m' ≤ m := php (fun j i => ∃ x, x < N ∧ out'.getD x 0 = (j : Int) ∧ out.getD x 0 = (i : Int)) (fun j hj => by
        obtain ⟨x, hx, hxj⟩ := h'.sur j (by omega) (by omega)
        have hr := h.rng x hx
        exact ⟨(out.getD x 0).toNat, by omega, x, hx, hxj, by omega⟩) fun j1 j2 i _ _ ⟨x, hx, g1, g2⟩ ⟨y, hy, g3, g4⟩ => by
          have := h2 x y hx hy (by rw [g2, g4])
          (try dsimp only at this)
          omega
      rw [e, show (out'.getD b 0 != out'.getD b 0) = false by simp]
      exact decide_eq_false (by omega)
    · exact absurd e hE
  · have hne : (out'.getD a 0 != out'.getD b 0) = true := by simpa using e
    rw [hne]
    refine decide_eq_true ?_
    have hrb := h'.rng b hb
    have hle : m + 1 ≤ m' := php (fun j i => (j < m ∧ (i : Int) ≠ out'.getD b 0 ∧ ∃ x, x < N ∧ out.getD x 0 = (j : Int) ∧ out'.getD x 0 = (i : Int)) ∨ (j = m ∧ (i : Int) = out'.getD b 0)) (fun j hj => by
      rcases Nat.lt_or_eq_of_le (Nat.le_of_lt_succ hj) with hj | rfl
      · obtain ⟨x, hx, hxj⟩ := h.sur j (by omega) (by omega)
        by_cases e2 : out'.getD x 0 = out'.getD b 0
        · have hr := h'.rng a ha
          have := h1 x b hx hb e2
          exact ⟨(out'.getD a 0).toNat, by omega, .inl ⟨hj, by omega, a, ha, by rw [he, ← this]; exact hxj, by omega⟩⟩
        · have hr := h'.rng x hx
          exact ⟨(out'.getD x 0).toNat, by omega, .inl ⟨hj, by omega, x, hx, hxj, by omega⟩⟩
      · exact ⟨(out'.getD b 0).toNat, by omega, .inr ⟨rfl, by omega⟩⟩) fun j1 j2 i _ _ g1 g2 => by
        rcases g1 with ⟨k1, k2, x, hx, k3, k4⟩ | ⟨k1, k2⟩ <;> rcases g2 with ⟨q1, q2, y, hy, q3, q4⟩ | ⟨q1, q2⟩
        · have := h1 x y hx hy (by rw [k4, q4])
          omega
        · exact absurd q2 k2
        · exact absurd k2 q2
        · omega
    omega
end Go.Proofs.Ytmkodhpbjedfkaa
