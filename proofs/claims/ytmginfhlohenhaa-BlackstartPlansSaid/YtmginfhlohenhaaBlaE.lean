/- Ways join islands (plain). -/
import Derived.Test.YtmginfhlohenhaaAwZk
import Derived.Test.YtmginfhlohenhaaBlaD
set_option linter.unusedVariables false
set_option linter.unusedSimpArgs false
namespace Go.Proofs.Ytmginfhlohenhaa
open Go.Proofs.Ytmginfhlohenhaa.Aw
attribute [local go_sem] Int.natCast_zero Int.natCast_one bne_self_eq_false beq_self_eq_true Bool.not_true Bool.not_false Option.isSome_none Option.isSome_some Aw.bkM_nil Option.getD_some Option.getD_none Nat.sub_zero Int.toNat_zero Aw.frzS Aw.frzT Aw.frzA Aw.frzL Aw.frzR Aw.frzO Aw.frzOL Aw.frzOT Aw.frzOR Aw.killS Aw.mapT Aw.mapR Aw.killM Aw.resAVs Aw.resAV Aw.quietOps Aw.wpP Aw.wpT Aw.wpS Aw.AOp.mild List.getElem?_cons_zero List.getElem?_cons_succ Bool.and_false Bool.and_self Bool.false_and Aw.opOb Aw.gdB Aw.Rnd Aw.subTm List.length_map Int.toNat_natCast and_self Aw.SeqC Aw.stops Aw.Ends Aw.looks Aw.renA Aw.renL Aw.renT Aw.renS Aw.wpO Aw.aop Aw.putTm Aw.St.ev Aw.St.put Aw.St.putO Aw.binAV Aw.intBin Aw.strBin Aw.pickAV Aw.optInt Aw.AV.strip Aw.AV.guard Aw.AV.cells Aw.gdOb Aw.AOp.opds Aw.AOp.still Aw.ptrCells Aw.St.reg Aw.fillAV Aw.fillOb Aw.elsOb Aw.splice Aw.firm Aw.cellish Aw.AV.shut Aw.shutAll Aw.Seq Aw.Blk Aw.retS_nil Aw.mapA Aw.mapL Aw.borA Aw.borOb Aw.allOb Aw.tupOf Aw.params Aw.Opd.of Array.toList Value.cells List.map_cons List.map_nil List.getD_cons_zero List.getD_cons_succ List.getD_nil List.length_cons List.length_nil List.take_succ_cons List.take_zero List.take_nil List.drop_zero List.drop_succ_cons List.drop_nil List.set_cons_zero List.set_cons_succ List.append_nil List.nil_append List.cons_append List.all_cons List.all_nil cond_false cond_true if_true if_false true_and and_true Bool.and_true Bool.true_and Option.map_some Option.map_none false_implies forall_const implies_true forall_eq imp_self Bool.cond_false_right Bool.cond_true_left beq_true beq_false Bool.not_eq_true' Bool.false_eq_true Nat.zero_add Nat.add_zero Aw.eqCells Aw.stopDraw Aw.skipS Aw.exactCap Aw.revealS Aw.srcEls Aw.srcSz
attribute [local go_sem ↓] Aw.look_nil Aw.look_ite Aw.wpL_nil Aw.wpL_op Aw.wpL_gd Aw.wpQ_nil Aw.wpQ_op Aw.wpQ_gd Aw.wpC_draw Aw.wpC_reg Aw.wpC_skip Aw.wpC_ret Aw.wpC_exit Aw.wpC_seq Aw.wpC_block Aw.wpC_loop Aw.wpC_cond Aw.stopAt_nil Aw.stopAt_cons Aw.wpD_skip Aw.wpD_ret Aw.wpD_exit Aw.wpD_region Aw.wpD_draw Aw.wpM_nil Aw.wpM_op Aw.wpM_gd Aw.wpD_seq Aw.wpD_block Aw.wpD_loop Aw.wpD_cond
theorem place_isl {n : Net} (hv : NetV n) {x : ByteArray} (hx : x ∈ n.nodes.l) : (placesF n).getD (idx n x) 0 = (islF n).getD (busI n x) 0 := by
  have h1 := (idx_int hx).2.1
  unfold placesF busI
  rw [List.getD_eq_getElem?_getD, List.getElem?_map, List.getElem?_eq_getElem (by rw [bus_len hv]; exact h1), List.getD_eq_getElem?_getD (l := busF n), List.getElem?_eq_getElem (by rw [bus_len hv]; exact h1)]
  rfl
/-- The same at both ends of each closed switch and each branch. -/
def Ev (n : Net) (g : Nat → Int) : Prop := (∀ x ∈ n.sws.l, x.opn = false → g (idx n x.a) = g (idx n x.b)) ∧ ∀ b ∈ n.brs.l, g (idx n b.a) = g (idx n b.b)
abbrev plc (n : Net) (i : Nat) : Int := (placesF n).getD i 0
theorem edges_even {n : Net} {g : Nat → Int} : Even (edgesF n) (upF n) g ↔ ∀ x ∈ n.sws.l, x.opn = false → g (idx n x.a) = g (idx n x.b) := by
  have hget : ∀ i (hi : i < n.sws.l.length), (edgesF n).getD i (0, 0) = (idx n n.sws.l[i].a, idx n n.sws.l[i].b) ∧ upF n i = !n.sws.l[i].opn := fun i hi => by
    unfold edgesF upF
    rw [List.getD_eq_getElem?_getD, List.getElem?_eq_getElem (by simpa using hi), List.getElem_map, List.getD_eq_getElem?_getD, List.getElem?_eq_getElem hi]
    exact ⟨rfl, rfl⟩
  constructor
  · intro h x hx ho
    obtain ⟨i, hi, rfl⟩ := List.mem_iff_getElem.1 hx
    have h2 := h i (by unfold edgesF; simpa using hi)
    rw [(hget i hi).1, (hget i hi).2, ho] at h2
    exact h2 rfl
  · intro h i hi hu
    have hi' : i < n.sws.l.length := by unfold edgesF at hi; simpa using hi
    rw [(hget i hi').2] at hu
    rw [(hget i hi').1]
    exact h _ (List.getElem_mem hi') (by simpa using hu)
theorem wires_even {n : Net} {h : Nat → Int} : Even (wiresF n) (fun _ => true) h ↔ ∀ b ∈ n.brs.l, h (busI n b.a) = h (busI n b.b) := by
  have hget : ∀ i (hi : i < n.brs.l.length), (wiresF n).getD i (0, 0) = (busI n n.brs.l[i].a, busI n n.brs.l[i].b) := fun i hi => by
    unfold wiresF
    rw [List.getD_eq_getElem?_getD, List.getElem?_eq_getElem (by simpa using hi), List.getElem_map]; rfl
  constructor
  · intro k x hx
    obtain ⟨i, hi, rfl⟩ := List.mem_iff_getElem.1 hx
    have h2 := k i (by unfold wiresF; simpa using hi) rfl
    rw [hget i hi] at h2
    exact h2
  · intro k i hi _
    have hi' : i < n.brs.l.length := by unfold wiresF at hi; simpa using hi
    rw [hget i hi']
    exact k _ (List.getElem_mem hi')
theorem isl_okE {n : Net} (hv : NetV n) : PartsO (nbus n) (wiresF n) (fun _ => true) (islF n) (partsN (nbus n) (wiresF n) (fun _ => true) (nbus n)).2 := partsF_ok (wires_in hv)
theorem plc_bus {n : Net} (hv : NetV n) {i : Nat} (hi : i < n.nodes.l.length) : plc n i = (islF n).getD ((busF n).getD i 0).toNat 0 := by
  unfold plc placesF
  rw [List.getD_eq_getElem?_getD, List.getElem?_map, List.getElem?_eq_getElem (by rw [bus_len hv]; exact hi), List.getD_eq_getElem?_getD (l := busF n), List.getElem?_eq_getElem (by rw [bus_len hv]; exact hi)]
  rfl
theorem place_ev {n : Net} (hv : NetV n) : Ev n (plc n) := by
  constructor
  · intro x hx ho
    have h1 := (edges_even (n := n)).1 (bus_ok hv).edge x hx ho
    have hm := hv.sw x hx
    rw [plc_bus hv (idx_int hm.1).2.1, plc_bus hv (idx_int hm.2.1).2.1]
    have h1 : (busF n).getD (idx n x.a) 0 = (busF n).getD (idx n x.b) 0 := h1
    rw [h1]
  · intro b hb
    have h1 := (wires_even (n := n)).1 (isl_okE hv).edge b hb
    have hm := hv.br b hb
    rw [plc_bus hv (idx_int hm.1).2.1, plc_bus hv (idx_int hm.2.1).2.1]
    exact h1
theorem place_min {n : Net} (hv : NetV n) {g : Nat → Int} (hg : Ev n g) {i j : Nat} (hi : i < n.nodes.l.length) (hj : j < n.nodes.l.length) (h : plc n i = plc n j) : g i = g j := by
  have hB := (bus_ok hv).fine g (edges_even.2 hg.1)
  let h' : Nat → Int := fun u => match (List.range n.nodes.l.length).find? fun i => (busF n).getD i 0 == (u : Int) with
    | some i => g i
    | none => 0
  have hh : ∀ i, i < n.nodes.l.length → h' ((busF n).getD i 0).toNat = g i := fun i hi => by
    have hb := bus_rng hv hi
    show (match (List.range n.nodes.l.length).find? fun k => (busF n).getD k 0 == ((((busF n).getD i 0).toNat : Nat) : Int) with
      | some i => g i
      | none => 0) = g i
    rw [Int.toNat_of_nonneg hb.1]
    cases hf : (List.range n.nodes.l.length).find? fun k => (busF n).getD k 0 == (busF n).getD i 0 with
    | none =>
      have := List.find?_eq_none.1 hf i (List.mem_range.2 hi)
      simp at this
    | some k =>
      have h1 := List.find?_some hf
      have h2 := List.mem_range.1 (List.mem_of_find?_eq_some hf)
      exact hB k i h2 hi (by simpa using h1)
  have hE : Even (wiresF n) (fun _ => true) h' := wires_even.2 fun b hb => by
    have hm := hv.br b hb
    have ha := (idx_int hm.1).2.1
    have hb' := (idx_int hm.2.1).2.1
    unfold busI
    rw [hh _ ha, hh _ hb']
    exact hg.2 b hb
  have hI := (isl_okE hv).fine h' hE
  rw [plc_bus hv hi, plc_bus hv hj] at h
  have b1 := bus_rng hv hi
  have b2 := bus_rng hv hj
  have := hI _ _ (by omega) (by omega) h
  rwa [hh i hi, hh j hj] at this
theorem ev_set {n : Net} (hv : NetV n) {s : ByteArray} (h : SwName n s) {g : Nat → Int} : Ev (setS n s) g ↔ Ev n g ∧ ∀ x ∈ n.sws.l, x.name = s → g (idx n x.a) = g (idx n x.b) := by
  obtain ⟨f1, f2, f3⟩ := find_sw hv h
  have hd : n.sws.l.getD (swK n s) default = n.sws.l[swK n s] := by rw [List.getD_eq_getElem?_getD, List.getElem?_eq_getElem f1]; rfl
  have hmem : ({ n.sws.l.getD (swK n s) default with opn := false } : Swi) ∈ (setS n s).sws.l := by
    show _ ∈ n.sws.l.set (swK n s) _
    exact List.mem_set f1 _
  have hw : ∀ x ∈ n.sws.l, x.name = s → x = n.sws.l[swK n s] := fun x hx hn => by
    obtain ⟨i, hi, rfl⟩ := List.mem_iff_getElem.1 hx
    have : i = swK n s := nodup_idx (sw_names hv) (by simpa using hi) (by simpa using f1) (by rw [List.getElem_map, List.getElem_map, hn, ← hd, f3])
    subst this; rfl
  have hold : ∀ x ∈ n.sws.l, x.name ≠ s → x ∈ (setS n s).sws.l := fun x hx hn => by
    obtain ⟨i, hi, rfl⟩ := List.mem_iff_getElem.1 hx
    have hne : swK n s ≠ i := fun e => hn (by subst e; rw [← hd, f3])
    show _ ∈ n.sws.l.set (swK n s) _
    exact List.mem_iff_getElem.2 ⟨i, by simpa using hi, by rw [List.getElem_set_ne hne]⟩
  constructor
  · rintro ⟨h1, h2⟩
    have hk : ∀ x ∈ n.sws.l, x.name = s → g (idx n x.a) = g (idx n x.b) := fun x hx hn => by
      have := h1 _ hmem rfl
      rw [hd] at this
      rw [hw x hx hn]; exact this
    refine ⟨⟨fun x hx ho => ?_, h2⟩, hk⟩
    by_cases hn : x.name = s
    · exact hk x hx hn
    · exact h1 x (hold x hx hn) ho
  · rintro ⟨⟨h1, h2⟩, h3⟩
    refine ⟨fun x hx ho => ?_, h2⟩
    have hx : x ∈ n.sws.l.set (swK n s) { n.sws.l.getD (swK n s) default with opn := false } := hx
    rcases List.mem_or_eq_of_mem_set hx with hx | rfl
    · exact h1 x hx ho
    · have := h3 _ (List.getElem_mem f1) (by rw [← hd, f3])
      rw [← hd] at this
      exact this
theorem close_nodes : ∀ {L : List ByteArray} {n : Net}, (closeL n L).nodes.l = n.nodes.l
  | [], _ => rfl
  | s :: r, n => close_nodes (L := r) (n := setS n s)
theorem close_ok : ∀ {L : List ByteArray} {n : Net}, NetOk n → NetV n → (∀ s ∈ L, SwName n s) → NetOk (closeL n L) ∧ NetV (closeL n L) ∧ ∀ t, SwName n t → SwName (closeL n L) t
  | [], n, hk, hv, _ => ⟨hk, hv, fun _ h => h⟩
  | s :: r, n, hk, hv, h => by
    have hs := h s List.mem_cons_self
    obtain ⟨f1, _⟩ := find_sw hv hs
    have h1 : ∀ t ∈ r, SwName (setS n s) t := fun t ht => hs.set hv (h t (List.mem_cons_of_mem _ ht))
    obtain ⟨g1, g2, g3⟩ := close_ok (L := r) (n := setS n s) (set_ok hk f1) (set_v hv f1) h1
    exact ⟨g1, g2, fun t ht => g3 t (hs.set hv ht)⟩
theorem set_pair {n : Net} {s : ByteArray} {x : Swi} (hv : NetV n) (h : SwName n s) : (∃ y ∈ (setS n s).sws.l, y.name = x.name ∧ y.a = x.a ∧ y.b = x.b) ↔ ∃ y ∈ n.sws.l, y.name = x.name ∧ y.a = x.a ∧ y.b = x.b := by
  obtain ⟨f1, f2, f3⟩ := find_sw hv h
  have hd : n.sws.l.getD (swK n s) default = n.sws.l[swK n s] := by rw [List.getD_eq_getElem?_getD, List.getElem?_eq_getElem f1]; rfl
  constructor
  · rintro ⟨y, hy, h1⟩
    have hy : y ∈ n.sws.l.set (swK n s) { n.sws.l.getD (swK n s) default with opn := false } := hy
    rcases List.mem_or_eq_of_mem_set hy with hy | rfl
    · exact ⟨y, hy, h1⟩
    · exact ⟨n.sws.l[swK n s], List.getElem_mem f1, by rw [← hd]; exact h1⟩
  · rintro ⟨y, hy, h1⟩
    obtain ⟨i, hi, rfl⟩ := List.mem_iff_getElem.1 hy
    by_cases e : swK n s = i
    · subst e
      refine ⟨{ n.sws.l.getD (swK n s) default with opn := false }, List.mem_set f1 _, ?_⟩
      rw [hd]; exact h1
    · refine ⟨n.sws.l[i], ?_, h1⟩
      show _ ∈ n.sws.l.set (swK n s) _
      exact List.mem_iff_getElem.2 ⟨i, by simpa using hi, by rw [List.getElem_set_ne e]⟩
/-- What is even when switches are closed. -/
theorem ev_close {g : Nat → Int} : ∀ {L : List ByteArray} {n : Net}, NetV n → (∀ s ∈ L, SwName n s) → (Ev (closeL n L) g ↔ Ev n g ∧ ∀ x ∈ n.sws.l, x.name ∈ L → g (idx n x.a) = g (idx n x.b))
  | [], n, hv, _ => ⟨fun h => ⟨h, fun _ _ h => by cases h⟩, fun h => h.1⟩
  | s :: r, n, hv, h => by
    have hs := h s List.mem_cons_self
    obtain ⟨f1, _⟩ := find_sw hv hs
    have ih := ev_close (g := g) (L := r) (n := setS n s) (set_v hv f1) fun t ht => hs.set hv (h t (List.mem_cons_of_mem _ ht))
    show Ev (closeL (setS n s) r) g ↔ _
    rw [ih, ev_set hv hs]
    have hidx : idx (setS n s) = idx n := rfl
    constructor
    · rintro ⟨⟨h1, h2⟩, h3⟩
      refine ⟨h1, fun x hx hm => ?_⟩
      rcases List.mem_cons.1 hm with hm | hm
      · exact h2 x hx hm
      · obtain ⟨y, hy, e1, e2, e3⟩ := (set_pair (x := x) hv hs).2 ⟨x, hx, rfl, rfl, rfl⟩
        have := h3 y hy (by rw [e1]; exact hm)
        rw [hidx, e2, e3] at this
        exact this
    · rintro ⟨h1, h2⟩
      refine ⟨⟨h1, fun x hx hm => h2 x hx (by rw [hm]; exact List.mem_cons_self)⟩, fun y hy hm => ?_⟩
      obtain ⟨x, hx, e1, e2, e3⟩ := (set_pair (x := y) hv hs).1 ⟨y, hy, rfl, rfl, rfl⟩
      have := h2 x hx (List.mem_cons_of_mem _ (by rw [e1]; exact hm))
      rw [hidx, ← e2, ← e3]
      exact this
end Go.Proofs.Ytmginfhlohenhaa
