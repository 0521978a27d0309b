/- Ways between islands (plain). -/
import Derived.Test.YtmginfhlohenhaaAwZk
import Derived.Test.YtmginfhlohenhaaBlaE
set_option linter.unusedVariables false
set_option linter.unusedSimpArgs false
namespace Go.Proofs.Ytmginfhlohenhaa
open Go.Proofs.Ytmginfhlohenhaa.Aw
attribute [local go_sem] Int.natCast_zero Int.natCast_one bne_self_eq_false beq_self_eq_true Bool.not_true Bool.not_false Option.isSome_none Option.isSome_some Aw.bkM_nil Option.getD_some Option.getD_none Nat.sub_zero Int.toNat_zero Aw.frzS Aw.frzT Aw.frzA Aw.frzL Aw.frzR Aw.frzO Aw.frzOL Aw.frzOT Aw.frzOR Aw.killS Aw.mapT Aw.mapR Aw.killM Aw.resAVs Aw.resAV Aw.quietOps Aw.wpP Aw.wpT Aw.wpS Aw.AOp.mild List.getElem?_cons_zero List.getElem?_cons_succ Bool.and_false Bool.and_self Bool.false_and Aw.opOb Aw.gdB Aw.Rnd Aw.subTm List.length_map Int.toNat_natCast and_self Aw.SeqC Aw.stops Aw.Ends Aw.looks Aw.renA Aw.renL Aw.renT Aw.renS Aw.wpO Aw.aop Aw.putTm Aw.St.ev Aw.St.put Aw.St.putO Aw.binAV Aw.intBin Aw.strBin Aw.pickAV Aw.optInt Aw.AV.strip Aw.AV.guard Aw.AV.cells Aw.gdOb Aw.AOp.opds Aw.AOp.still Aw.ptrCells Aw.St.reg Aw.fillAV Aw.fillOb Aw.elsOb Aw.splice Aw.firm Aw.cellish Aw.AV.shut Aw.shutAll Aw.Seq Aw.Blk Aw.retS_nil Aw.mapA Aw.mapL Aw.borA Aw.borOb Aw.allOb Aw.tupOf Aw.params Aw.Opd.of Array.toList Value.cells List.map_cons List.map_nil List.getD_cons_zero List.getD_cons_succ List.getD_nil List.length_cons List.length_nil List.take_succ_cons List.take_zero List.take_nil List.drop_zero List.drop_succ_cons List.drop_nil List.set_cons_zero List.set_cons_succ List.append_nil List.nil_append List.cons_append List.all_cons List.all_nil cond_false cond_true if_true if_false true_and and_true Bool.and_true Bool.true_and Option.map_some Option.map_none false_implies forall_const implies_true forall_eq imp_self Bool.cond_false_right Bool.cond_true_left beq_true beq_false Bool.not_eq_true' Bool.false_eq_true Nat.zero_add Nat.add_zero Aw.eqCells Aw.stopDraw Aw.skipS Aw.exactCap Aw.revealS Aw.srcEls Aw.srcSz
attribute [local go_sem ↓] Aw.look_nil Aw.look_ite Aw.wpL_nil Aw.wpL_op Aw.wpL_gd Aw.wpQ_nil Aw.wpQ_op Aw.wpQ_gd Aw.wpC_draw Aw.wpC_reg Aw.wpC_skip Aw.wpC_ret Aw.wpC_exit Aw.wpC_seq Aw.wpC_block Aw.wpC_loop Aw.wpC_cond Aw.stopAt_nil Aw.stopAt_cons Aw.wpD_skip Aw.wpD_ret Aw.wpD_exit Aw.wpD_region Aw.wpD_draw Aw.wpM_nil Aw.wpM_op Aw.wpM_gd Aw.wpD_seq Aw.wpD_block Aw.wpD_loop Aw.wpD_cond
theorem getE0 {l : List (Nat × Nat)} {i : Nat} (h : i < l.length) : edg l i = l[i] := by
  unfold edg
  rw [List.getD_eq_getElem?_getD, List.getElem?_eq_getElem h]; rfl
theorem oed_get {n : Net} {i : Nat} (h : i < (oedF n).length) : ∃ x ∈ n.sws.l, x.opn = true ∧ edg (oedF n) i = (atI n x.a, atI n x.b) ∧ (onmF n).getD i default = x.name := by
  have hi : i < (openS n).length := by unfold oedF at h; simpa using h
  have hm := List.mem_filter.1 (show (openS n)[i] ∈ openS n from List.getElem_mem hi)
  refine ⟨(openS n)[i], hm.1, hm.2, ?_, ?_⟩
  · show ((openS n).map fun s => (atI n s.a, atI n s.b)).getD i (0, 0) = _
    rw [List.getD_eq_getElem?_getD, List.getElem?_eq_getElem (by simpa using hi), List.getElem_map]; rfl
  · unfold onmF
    rw [List.getD_eq_getElem?_getD, List.getElem?_eq_getElem (by simpa using hi), List.getElem_map]; rfl
abbrev nameP (n : Net) (p : List Nat) : List ByteArray := p.map fun i => (onmF n).getD i default
theorem name_sw {n : Net} {p : List Nat} (hp : ∀ i ∈ p, i < (oedF n).length) : ∀ s ∈ nameP n p, SwName n s := fun s hs => by
  obtain ⟨i, hi, rfl⟩ := List.mem_map.1 hs
  obtain ⟨x, hx, _, _, e⟩ := oed_get (hp i hi)
  exact ⟨x, hx, e.symm⟩
theorem sw_uniq {n : Net} (hv : NetV n) {x y : Swi} (hx : x ∈ n.sws.l) (hy : y ∈ n.sws.l) (e : x.name = y.name) : x = y := by
  obtain ⟨i, hi, rfl⟩ := List.mem_iff_getElem.1 hx
  obtain ⟨j, hj, rfl⟩ := List.mem_iff_getElem.1 hy
  have : i = j := nodup_idx (sw_names hv) (by simpa using hi) (by simpa using hj) (by rw [List.getElem_map, List.getElem_map]; exact e)
  subst this; rfl
/-- Closing a way's switches joins. -/
theorem path_joins {n : Net} (hv : NetV n) {g : Nat → Int} {L : List ByteArray} (hg : Ev n g) (hL : ∀ x ∈ n.sws.l, x.name ∈ L → g (idx n x.a) = g (idx n x.b)) {far : List Int} {to : Nat} :
    ∀ {p : List Nat} {v : Nat}, PathP (oedF n) far to v p → (∀ s ∈ nameP n p, s ∈ L) → ∀ i j, i < n.nodes.l.length → j < n.nodes.l.length → plc n i = v → plc n j = to → g i = g j
  | [], v, hp, _, i, j, hi, hj, e1, e2 => place_min hv hg hi hj (by rw [e1, e2, show v = to from hp])
  | e :: r, v, hp, hm, i, j, hi, hj, e1, e2 => by
    obtain ⟨he, u, h1, _, h2⟩ := hp
    obtain ⟨x, hx, _, hxe, hxn⟩ := oed_get he
    have hxL : x.name ∈ L := hm _ (List.mem_map.2 ⟨e, List.mem_cons_self, hxn⟩)
    have hsw := hL x hx hxL
    have hmem := hv.sw x hx
    have ia := (idx_int hmem.1).2.1
    have ib := (idx_int hmem.2.1).2.1
    have pa : plc n (idx n x.a) = (atI n x.a : Int) := (atI_int hv hmem.1).1
    have pb : plc n (idx n x.b) = (atI n x.b : Int) := (atI_int hv hmem.2.1).1
    have ih := path_joins hv hg hL (p := r) (v := u) h2 fun s hs => hm s (by
      obtain ⟨k, hk, rfl⟩ := List.mem_map.1 hs
      exact List.mem_map.2 ⟨k, List.mem_cons_of_mem _ hk, rfl⟩)
    rw [hxe] at h1
    rcases h1 with h1 | h1
    · obtain ⟨a1, a2⟩ := Prod.mk.inj h1
      rw [place_min hv hg hi ia (by rw [e1, pa, a1]), hsw]
      exact ih _ _ ib hj (by rw [pb, a2]) e2
    · obtain ⟨a1, a2⟩ := Prod.mk.inj h1
      rw [place_min hv hg hi ib (by rw [e1, pb, a2]), ← hsw]
      exact ih _ _ ia hj (by rw [pa, a1]) e2
theorem PathP_get {l : List (Nat × Nat)} {far : List Int} {to : Nat} : ∀ {p : List Nat} {v : Nat}, PathP l far to v p → ∀ j (hj : j < p.length), ∃ x y, (edg l p[j] = (x, y) ∨ edg l p[j] = (y, x)) ∧ lab far x = lab far v - j ∧ lab far y = lab far v - j - 1
  | [], v, _, j, hj => by simp at hj
  | e :: r, v, ⟨he, u, h1, h3, h2⟩, j, hj => by
    cases j with
    | zero => exact ⟨v, u, h1, by simp, by rw [h3]; simp⟩
    | succ j =>
      obtain ⟨x, y, g1, g2, g3⟩ := PathP_get h2 j (by simpa using hj)
      exact ⟨x, y, g1, by rw [g2, h3]; omega, by rw [g3, h3]; omega⟩
theorem PathP_end {l : List (Nat × Nat)} {far : List Int} {to : Nat} : ∀ {p : List Nat} {v : Nat}, PathP l far to v p → lab far to = lab far v - p.length
  | [], v, h => by rw [show v = to from h]; simp
  | e :: r, v, ⟨he, u, h1, h3, h2⟩ => by rw [PathP_end h2, h3, List.length_cons]; omega
/-- Without one of its switches it does not. -/
theorem path_cut {n : Net} (hv : NetV n) {N : Nat} {to v : Nat} {d : Int} {far : List Int} {p : List Nat} (hp : PathP (oedF n) far to v p) {k : Nat} (hk : k < p.length) {i j : Nat} (hi : i < n.nodes.l.length) (hj : j < n.nodes.l.length)
    (e1 : plc n i = v) (e2 : plc n j = to) (hk0 : NetOk n) : plc (closeL n (nameP n (p.eraseIdx k))) i ≠ plc (closeL n (nameP n (p.eraseIdx k))) j := by
  have hlt := PathP_lt hp
  have hsn : ∀ s ∈ nameP n (p.eraseIdx k), SwName n s := name_sw fun i hi => hlt i (List.mem_of_mem_eraseIdx hi)
  obtain ⟨_, hv2, _⟩ := close_ok hk0 hv hsn
  let g : Nat → Int := fun i => if lab far v - k ≤ lab far (plc n i).toNat then 1 else 0
  have hE : Ev n g := by
    have h := place_ev hv
    exact ⟨fun x hx ho => by show (if _ then _ else _) = (if _ then _ else _); rw [h.1 x hx ho], fun b hb => by show (if _ then _ else _) = (if _ then _ else _); rw [h.2 b hb]⟩
  have hEc : Ev (closeL n (nameP n (p.eraseIdx k))) g := (ev_close hv hsn).2 ⟨hE, fun x hx hm => by
    obtain ⟨e, he, hen⟩ := List.mem_map.1 hm
    obtain ⟨m, hml, hm2⟩ := List.mem_eraseIdx_iff_getElem.1 he
    obtain ⟨y, hy, _, hye, hyn⟩ := oed_get (hlt e (List.mem_of_mem_eraseIdx he))
    have hxy := sw_uniq hv hx hy (by rw [← hen, ← hyn])
    subst hxy
    obtain ⟨s, t, h1, h2, h3⟩ := PathP_get hp m hml
    rw [hm2.2, hye] at h1
    have hmem := hv.sw x hx
    have pa : plc n (idx n x.a) = (atI n x.a : Int) := (atI_int hv hmem.1).1
    have pb : plc n (idx n x.b) = (atI n x.b : Int) := (atI_int hv hmem.2.1).1
    show (if lab far v - k ≤ lab far (plc n (idx n x.a)).toNat then (1 : Int) else 0) = (if lab far v - k ≤ lab far (plc n (idx n x.b)).toNat then 1 else 0)
    rw [pa, pb, Int.toNat_natCast, Int.toNat_natCast]
    have hne : m ≠ k := hm2.1
    rcases h1 with h1 | h1
    · obtain ⟨a1, a2⟩ := Prod.mk.inj h1
      rw [a1, a2, h2, h3]
      rcases Nat.lt_or_gt_of_ne hne with h | h
      · rw [if_pos (by omega), if_pos (by omega)]
      · rw [if_neg (by omega), if_neg (by omega)]
    · obtain ⟨a1, a2⟩ := Prod.mk.inj h1
      rw [a1, a2, h2, h3]
      rcases Nat.lt_or_gt_of_ne hne with h | h
      · rw [if_pos (by omega), if_pos (by omega)]
      · rw [if_neg (by omega), if_neg (by omega)]⟩
  intro hpl
  have := place_min hv2 hEc (i := i) (j := j) (by rw [close_nodes]; exact hi) (by rw [close_nodes]; exact hj) hpl
  have hend := PathP_end hp
  have g1 : g i = 1 := by
    show (if lab far v - k ≤ lab far (plc n i).toNat then (1 : Int) else 0) = 1
    rw [e1, Int.toNat_natCast, if_pos (by omega)]
  have g2 : g j = 0 := by
    show (if lab far v - k ≤ lab far (plc n j).toNat then (1 : Int) else 0) = 0
    rw [e2, Int.toNat_natCast, if_neg (by omega)]
  rw [g1, g2] at this
  cases this
/-- The way back is as long. -/
theorem walk_le {N : Nat} {l : List (Nat × Nat)} {v to : Nat} {d : Int} {far far' : List Int} (hl : EdgesIn N l) (h : LabI N l v d far') : ∀ {p : List Nat} {u : Nat} (t : Int), PathP l far to u p → u < N → 0 ≤ lab far' u → lab far' u ≤ t → t + p.length ≤ d → 0 ≤ lab far' to ∧ lab far' to ≤ t + p.length
  | [], u, t, hp, hu, h0, h1, h2 => by rw [← show u = to from hp, List.length_nil]; omega
  | e :: r, u, t, ⟨he, w, h3, _, h4⟩, hu, h0, h1, h2 => by
    rw [List.length_cons] at h2 ⊢
    obtain ⟨n1, n2⟩ := h.nbr e he
    have hb := hl e he
    have hb : (edg l e).1 < N ∧ (edg l e).2 < N := hb
    have key : w < N ∧ 0 ≤ lab far' w ∧ lab far' w ≤ t + 1 := by
      rcases h3 with h3 | h3 <;> rw [h3] at n1 n2 hb
      · have := n1 h0 (by dsimp only; omega)
        dsimp only at this
        exact ⟨hb.2, by omega, by omega⟩
      · have := n2 h0 (by dsimp only; omega)
        dsimp only at this
        exact ⟨hb.1, by omega, by omega⟩
    have := walk_le hl h (t + 1) h4 key.1 key.2.1 key.2.2 (by omega)
    omega
theorem walk_closed {N : Nat} {l : List (Nat × Nat)} {v to : Nat} {far far' : List Int} (h : Closed N l v to far') : ∀ {p : List Nat} {u : Nat}, PathP l far to u p → 0 ≤ lab far' u → 0 ≤ lab far' to
  | [], u, hp, h0 => by rw [← show u = to from hp]; exact h0
  | e :: r, u, ⟨he, w, h3, _, h4⟩, h0 => by
    have := h.all e he
    refine walk_closed h h4 ?_
    rcases h3 with h3 | h3 <;> rw [h3] at this
    · exact this.1 h0
    · exact this.2 h0
theorem way_back {N : Nat} {l : List (Nat × Nat)} {v to : Nat} (hl : EdgesIn N l) (hv : v < N) (hto : to < N) {p : List Nat} (h : wayF N l v to = some p) : ∃ q, wayF N l to v = some q ∧ q.length ≤ p.length := by
  have h1 := wayF_ok hl hv hto
  rw [h] at h1
  obtain ⟨far, d, hL, hP, hPl, _⟩ := h1
  have h2 := wayF_ok hl hto hv
  cases hq : wayF N l to v with
  | none =>
    rw [hq] at h2
    obtain ⟨far', hc⟩ := h2
    have := walk_closed hc hP hc.to
    have := hc.not
    omega
  | some q =>
    rw [hq] at h2
    obtain ⟨far', d', hL', hP', hPl', _⟩ := h2
    refine ⟨q, rfl, ?_⟩
    rcases Nat.lt_or_ge p.length q.length with h3 | h3
    · exfalso
      have h0 : lab far' v = 0 := (hL'.zero v hv).2 rfl
      have hr := hL'.rng to hto
      have := walk_le hl hL' 0 hP hv (by omega) (by omega) (by omega)
      omega
    · exact h3
theorem way_sym {N : Nat} {l : List (Nat × Nat)} {v to : Nat} (hl : EdgesIn N l) (hv : v < N) (hto : to < N) : (wayF N l v to).map (·.length) = (wayF N l to v).map (·.length) := by
  cases h : wayF N l v to with
  | some p =>
    obtain ⟨q, hq, h1⟩ := way_back hl hv hto h
    obtain ⟨p', hp', h2⟩ := way_back hl hto hv hq
    rw [h] at hp'
    cases hp'
    rw [hq]
    have h1 : q.length ≤ p.length := h1
    have h2 : p.length ≤ q.length := h2
    show some p.length = some q.length
    rw [Nat.le_antisymm h2 h1]
  | none =>
    cases h2 : wayF N l to v with
    | none => rfl
    | some q =>
      obtain ⟨p, hp, _⟩ := way_back hl hto hv h2
      rw [h] at hp; cases hp
end Go.Proofs.Ytmginfhlohenhaa
