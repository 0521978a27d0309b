/- Black starts: plans are accepted (plain). -/
import Derived.Test.YtmginfhlohenhaaAwZk
import Derived.Test.YtmginfhlohenhaaBlaM
import Derived.Test.YtmginfhlohenhaaBlaJ
set_option linter.unusedVariables false
set_option linter.unusedSimpArgs false
namespace Go.Proofs.Ytmginfhlohenhaa
open Go.Proofs.Ytmginfhlohenhaa.Aw
attribute [local go_sem] Int.natCast_zero Int.natCast_one bne_self_eq_false beq_self_eq_true Bool.not_true Bool.not_false Option.isSome_none Option.isSome_some Aw.bkM_nil Option.getD_some Option.getD_none Nat.sub_zero Int.toNat_zero Aw.frzS Aw.frzT Aw.frzA Aw.frzL Aw.frzR Aw.frzO Aw.frzOL Aw.frzOT Aw.frzOR Aw.killS Aw.mapT Aw.mapR Aw.killM Aw.resAVs Aw.resAV Aw.quietOps Aw.wpP Aw.wpT Aw.wpS Aw.AOp.mild List.getElem?_cons_zero List.getElem?_cons_succ Bool.and_false Bool.and_self Bool.false_and Aw.opOb Aw.gdB Aw.Rnd Aw.subTm List.length_map Int.toNat_natCast and_self Aw.SeqC Aw.stops Aw.Ends Aw.looks Aw.renA Aw.renL Aw.renT Aw.renS Aw.wpO Aw.aop Aw.putTm Aw.St.ev Aw.St.put Aw.St.putO Aw.binAV Aw.intBin Aw.strBin Aw.pickAV Aw.optInt Aw.AV.strip Aw.AV.guard Aw.AV.cells Aw.gdOb Aw.AOp.opds Aw.AOp.still Aw.ptrCells Aw.St.reg Aw.fillAV Aw.fillOb Aw.elsOb Aw.splice Aw.firm Aw.cellish Aw.AV.shut Aw.shutAll Aw.Seq Aw.Blk Aw.retS_nil Aw.mapA Aw.mapL Aw.borA Aw.borOb Aw.allOb Aw.tupOf Aw.params Aw.Opd.of Array.toList Value.cells List.map_cons List.map_nil List.getD_cons_zero List.getD_cons_succ List.getD_nil List.length_cons List.length_nil List.take_succ_cons List.take_zero List.take_nil List.drop_zero List.drop_succ_cons List.drop_nil List.set_cons_zero List.set_cons_succ List.append_nil List.nil_append List.cons_append List.all_cons List.all_nil cond_false cond_true if_true if_false true_and and_true Bool.and_true Bool.true_and Option.map_some Option.map_none false_implies forall_const implies_true forall_eq imp_self Bool.cond_false_right Bool.cond_true_left beq_true beq_false Bool.not_eq_true' Bool.false_eq_true Nat.zero_add Nat.add_zero Aw.eqCells Aw.stopDraw Aw.skipS Aw.exactCap Aw.revealS Aw.srcEls Aw.srcSz
attribute [local go_sem ↓] Aw.look_nil Aw.look_ite Aw.wpL_nil Aw.wpL_op Aw.wpL_gd Aw.wpQ_nil Aw.wpQ_op Aw.wpQ_gd Aw.wpC_draw Aw.wpC_reg Aw.wpC_skip Aw.wpC_ret Aw.wpC_exit Aw.wpC_seq Aw.wpC_block Aw.wpC_loop Aw.wpC_cond Aw.stopAt_nil Aw.stopAt_cons Aw.wpD_skip Aw.wpD_ret Aw.wpD_exit Aw.wpD_region Aw.wpD_draw Aw.wpM_nil Aw.wpM_op Aw.wpM_gd Aw.wpD_seq Aw.wpD_block Aw.wpD_loop Aw.wpD_cond
def VPre : Net → List ByteArray → List Stp → Prop
  | _, _, [] => True
  | m, run, s :: r => GenName m s.1 ∧ run.any (seq s.1) = false ∧ OpenL m s.2 ∧ s.2.length ≤ 32 ∧ run ≠ [] ∧ (run.any (fun r => joinR (closeL m s.2) r s.1) = true → VPre (closeL m s.2) (run ++ [s.1]) r)
def verF : Nat → Net → List ByteArray → List Stp → Option Net × Int × Int
  | _, m, _, [] => (some m, 0, 0)
  | k, m, run, s :: r => if run.any (fun r => joinR (closeL m s.2) r s.1) = true then verF (k + 1) (closeL m s.2) (run ++ [s.1]) r else (none, k, 15)
def finalN (m : Net) (l : List Stp) : Net := l.foldl (fun m s => closeL m s.2) m
theorem fIndex_names {α : Type} (nmf : α → ByteArray) (t : ByteArray) : ∀ (l l' : List α) (k : Nat), l.map nmf = l'.map nmf → fIndex (fun x => seq (nmf x) t) k l = fIndex (fun x => seq (nmf x) t) k l'
  | [], [], _, _ => rfl
  | [], _ :: _, _, h => by cases h
  | _ :: _, [], _, h => by cases h
  | x :: l, y :: l', k, h => by
    rw [List.map_cons, List.map_cons] at h
    obtain ⟨h1, h2⟩ := List.cons.inj h
    unfold fIndex
    rw [h1, fIndex_names nmf t l l' (k + 1) h2]
theorem swK_set {n : Net} {k : Nat} (hk : k < n.sws.l.length) (t : ByteArray) : swK (setN n k) t = swK n t := by
  exact congrArg Int.toNat (fIndex_names (fun x : Swi => x.name) t _ _ 0 (set_names hk))
theorem swK_inj {n : Net} (hv : NetV n) {s t : ByteArray} (hs : SwName n s) (ht : SwName n t) (e : swK n s = swK n t) : s = t := by
  obtain ⟨_, _, h1⟩ := find_sw hv hs
  obtain ⟨_, _, h2⟩ := find_sw hv ht
  rw [← h1, e, h2]
theorem OpenL_of : ∀ {L : List ByteArray} {m : Net}, NetV m → L.Nodup → (∀ s ∈ L, SwName m s ∧ (m.sws.l.getD (swK m s) default).opn = true) → OpenL m L
  | [], _, _, _, _ => trivial
  | s :: r, m, hv, hnd, h => by
    obtain ⟨h1, h2⟩ := h s List.mem_cons_self
    obtain ⟨f1, _⟩ := find_sw hv h1
    rw [List.nodup_cons] at hnd
    refine ⟨h1, h2, OpenL_of (set_v hv f1) hnd.2 fun t ht => ?_⟩
    obtain ⟨g1, g2⟩ := h t (List.mem_cons_of_mem _ ht)
    refine ⟨h1.set hv g1, ?_⟩
    have hne : swK m s ≠ swK m t := fun e => hnd.1 (by rw [swK_inj hv h1 g1 e]; exact ht)
    show ((setN m (swK m s)).sws.l.getD (swK (setN m (swK m s)) t) default).opn = true
    rw [swK_set f1]
    show ((m.sws.l.set (swK m s) _).getD (swK m t) default).opn = true
    rw [List.getD_eq_getElem?_getD, List.getElem?_set_ne hne, ← List.getD_eq_getElem?_getD]
    exact g2
theorem onm_nodup {n : Net} (hv : NetV n) : (onmF n).Nodup := by
  have h := sw_names hv
  unfold onmF openS
  exact h.sublist (List.Sublist.map _ List.filter_sublist)
theorem path_nodup {l : List (Nat × Nat)} {far : List Int} {to v : Nat} {p : List Nat} (hp : PathP l far to v p) : p.Nodup := by
  rw [List.nodup_iff_pairwise_ne, List.pairwise_iff_getElem]
  intro i j hi hj hij e
  obtain ⟨a, b, h1, h2, h3⟩ := PathP_get hp i hi
  obtain ⟨c, d, g1, g2, g3⟩ := PathP_get hp j hj
  rw [e] at h1
  have hne : lab far c ≠ lab far a ∧ lab far d ≠ lab far a := ⟨by omega, by omega⟩
  rcases h1 with h1 | h1 <;> rcases g1 with g1 | g1 <;> rw [h1] at g1 <;> obtain ⟨e1, e2⟩ := Prod.mk.inj g1
  · exact hne.1 (by rw [e1])
  · exact hne.2 (by rw [e1])
  · exact hne.2 (by rw [e2])
  · exact hne.1 (by rw [e2])
theorem way_open {n : Net} (hv : NetV n) {a b : ByteArray} (ha : a ∈ n.nodes.l) (hb : b ∈ n.nodes.l) {L : List ByteArray} (h : wayN n a b = some L) : OpenL n L := by
  have hk := wayN_ok hv ha hb
  rw [h] at hk
  obtain ⟨p, far, d, rfl, _, hp, _, h24⟩ := hk
  have hlt := PathP_lt hp
  have hln : (onmF n).length = (oedF n).length := by unfold oedF onmF; rw [List.length_map, List.length_map]
  refine OpenL_of hv ?_ fun s hs => ?_
  · have hnd := path_nodup hp
    rw [List.nodup_iff_pairwise_ne, List.pairwise_iff_getElem] at hnd ⊢
    intro i j hi hj hij e
    rw [List.length_map] at hi hj
    rw [List.getElem_map, List.getElem_map] at e
    have h1 : p[i] < (onmF n).length := by rw [hln]; exact hlt _ (List.getElem_mem hi)
    have h2 : p[j] < (onmF n).length := by rw [hln]; exact hlt _ (List.getElem_mem hj)
    rw [List.getD_eq_getElem?_getD, List.getElem?_eq_getElem h1, List.getD_eq_getElem?_getD, List.getElem?_eq_getElem h2] at e
    exact hnd i j hi hj hij (nodup_idx (onm_nodup hv) h1 h2 e)
  · obtain ⟨i, hi, rfl⟩ := List.mem_map.1 hs
    obtain ⟨x, hx, ho, _, hn⟩ := oed_get (hlt i hi)
    rw [hn]
    have hsw : SwName n x.name := ⟨x, hx, rfl⟩
    obtain ⟨f1, _, f3⟩ := find_sw hv hsw
    refine ⟨hsw, ?_⟩
    rw [List.getD_eq_getElem?_getD, List.getElem?_eq_getElem f1] at f3 ⊢
    have := sw_uniq hv (List.getElem_mem f1) hx f3
    rw [show (some n.sws.l[swK n x.name]).getD default = n.sws.l[swK n x.name] from rfl, this]
    exact ho
/-- Way of no switch: the same island. -/
theorem joinR_iff {m : Net} (hv : NetV m) {r g : ByteArray} (hr : GenName m r) (hg : GenName m g) : joinR m r g = true ↔ plc m (idx m (nodG m r)) = plc m (idx m (nodG m g)) := by
  have ha := nodG_in hv hr
  have hb := nodG_in hv hg
  have a1 := atI_int hv ha
  have b1 := atI_int hv hb
  have hw := wayN_ok hv ha hb
  have hJ : joinR m r g = true ↔ wayN m (nodG m r) (nodG m g) = some [] := by
    unfold joinR
    cases wayN m (nodG m r) (nodG m g) with
    | none => simp
    | some l => cases l <;> simp
  rw [hJ]
  show _ ↔ (placesF m).getD _ 0 = (placesF m).getD _ 0
  rw [a1.1, b1.1]
  constructor
  · intro h
    rw [h] at hw
    obtain ⟨p, far, d, h1, _, h2, _⟩ := hw
    have : p = [] := by
      cases p with
      | nil => rfl
      | cons => cases h1
    subst this
    rw [show atI m (nodG m r) = atI m (nodG m g) from h2]
  · intro h
    have h : atI m (nodG m r) = atI m (nodG m g) := by omega
    unfold wayN wayF
    have hs : lab (startW (manyF m).toNat (atI m (nodG m g))) (atI m (nodG m g)) = 0 := by
      unfold startW
      rw [lab_set (by simpa using b1.2), if_pos rfl]
    rw [h, growW, if_pos (by rw [hs]; exact Int.le_refl 0)]
    show some (List.map _ (pathW _ _ _ _ _)) = some []
    rw [pathW, if_pos rfl]; rfl
theorem gen_node {n : Net} (hv : NetV n) {g : Gen} (hg : g ∈ n.gens.l) : nodG n g.name = g.node := by
  obtain ⟨h1, h2, h3⟩ := ix_gen (n := n) (s := g.name) ⟨g, hg, rfl⟩
  have hnd : (n.gens.l.map (·.name)).Nodup := by
    have h := hv.names
    unfold namesN at h
    exact (List.nodup_append.1 (List.nodup_append.1 (List.nodup_append.1 (List.nodup_append.1 h).2.1).2.1).2.1).1
  obtain ⟨i, hi, rfl⟩ := List.mem_iff_getElem.1 hg
  unfold nodG
  rw [List.getD_eq_getElem?_getD, List.getElem?_eq_getElem h2] at h3 ⊢
  have : (ixGe n n.gens.l[i].name).toNat = i := nodup_idx hnd (by simpa using h2) (by simpa using hi) (by rw [List.getElem_map, List.getElem_map]; exact h3)
  simp only [this]; rfl
theorem nodG_close {n : Net} {L : List ByteArray} (r : ByteArray) : nodG (closeL n L) r = nodG n r := by
  unfold nodG ixGe; rw [close_gens]
theorem idx_close {n : Net} {L : List ByteArray} (x : ByteArray) : idx (closeL n L) x = idx n x := by
  unfold idx; rw [close_nodes]
theorem coarse {n : Net} (hk : NetOk n) (hv : NetV n) {L : List ByteArray} (hL : ∀ s ∈ L, SwName n s) {i j : Nat} (hi : i < n.nodes.l.length) (hj : j < n.nodes.l.length) (h : plc n i = plc n j) : plc (closeL n L) i = plc (closeL n L) j := by
  obtain ⟨_, c2, _⟩ := close_ok hk hv hL
  exact place_min hv ((ev_close hv hL).1 (place_ev c2)).1 hi hj h
/-- A step of a plan joins. -/
theorem step_joins {m : Net} (hk : NetOk m) (hv : NetV m) {run : List ByteArray} (hr : ∀ r ∈ run, GenName m r) (h : (nextF m run).1 ≠ ⟨#[]⟩) :
    GenName m (nextF m run).1 ∧ run.any (seq (nextF m run).1) = false ∧ OpenL m (nextF m run).2 ∧ (nextF m run).2.length ≤ 24 ∧ (∀ s ∈ (nextF m run).2, SwName m s) ∧ (∃ r ∈ run, joinR (closeL m (nextF m run).2) r (nextF m run).1 = true) ∧
      ((nextF m run).2 ≠ [] → ∀ r ∈ run, joinR m r (nextF m run).1 = false) := by
  obtain ⟨g, hg, h1, h2, ⟨r, hr1, hr2⟩, h3⟩ := nextF_ok hv h
  obtain ⟨n1, n2, n3⟩ := next_names hv hr h
  have ha := nodG_in hv (hr r hr1)
  have hb := (hv.ge g hg).1
  have hnode : nodG m (nextF m run).1 = g.node := by rw [← h1]; exact gen_node hv hg
  obtain ⟨c1, c2, _⟩ := close_ok hk hv n2
  refine ⟨n1, by rw [← h1]; exact h2, way_open hv ha hb hr2, n3, n2, ⟨r, hr1, ?_⟩, fun hne r' hr' => ?_⟩
  · rw [joinR_iff c2 (GenName.close.2 (hr r hr1)) (GenName.close.2 n1), nodG_close, nodG_close, idx_close, idx_close, hnode]
    have hw := wayN_ok hv ha hb
    rw [hr2] at hw
    obtain ⟨p, far, d, hL, _, hP, _⟩ := hw
    rw [hL] at c2 n2 ⊢
    obtain ⟨g1, g2⟩ := (ev_close hv n2).1 (place_ev c2)
    exact path_joins hv g1 g2 hP (fun s hs => hs) _ _ (idx_int ha).2.1 (idx_int hb).2.1 (atI_int hv ha).1 (atI_int hv hb).1
  · cases hj : joinR m r' (nextF m run).1 with
    | false => rfl
    | true =>
      exfalso
      have hw : wayN m (nodG m r') (nodG m (nextF m run).1) = some [] := by
        unfold joinR at hj
        cases hq : wayN m (nodG m r') (nodG m (nextF m run).1) with
        | none => rw [hq] at hj; cases hj
        | some l => rw [hq] at hj; cases l with
          | nil => rfl
          | cons => cases hj
      rw [hnode] at hw
      have := h3 r' hr' [] hw
      exact hne (List.eq_nil_of_length_eq_zero (by simpa using this))
theorem final_coarse : ∀ {l : List Stp} {m : Net} {run : List ByteArray} {f : Nat}, NetOk m → NetV m → (∀ r ∈ run, GenName m r) → planF f m run = some l →
    NetOk (finalN m l) ∧ NetV (finalN m l) ∧ (finalN m l).nodes.l = m.nodes.l ∧ (finalN m l).gens.l = m.gens.l ∧ ∀ i j, i < m.nodes.l.length → j < m.nodes.l.length → plc m i = plc m j → plc (finalN m l) i = plc (finalN m l) j
  | [], m, run, f, hk, hv, _, _ => ⟨hk, hv, rfl, rfl, fun i j _ _ h => h⟩
  | s :: l, m, run, f, hk, hv, hr, h => by
    cases f with
    | zero => unfold planF at h; split at h <;> cases h
    | succ f =>
      unfold planF at h
      split at h
      · split at h
        · cases h
        rename_i hne
        obtain ⟨n1, n2, n3⟩ := next_names hv hr hne
        cases hp : planF f (closeL m (nextF m run).2) (run ++ [(nextF m run).1]) with
        | none => rw [hp] at h; cases h
        | some l' =>
          rw [hp] at h
          have h : (nextF m run) :: l' = s :: l := Option.some.inj h
          obtain ⟨e1, e2⟩ := List.cons.inj h
          subst e1; subst e2
          obtain ⟨c1, c2, _⟩ := close_ok hk hv n2
          obtain ⟨i1, i2, i3, i4, i5⟩ := final_coarse c1 c2 (run := run ++ [(nextF m run).1]) (fun r hr' => GenName.close.2 (by
            rcases List.mem_append.1 hr' with hr' | hr'
            · exact hr r hr'
            · rw [List.mem_singleton.1 hr']; exact n1)) hp
          refine ⟨i1, i2, i3.trans close_nodes, i4.trans close_gens, fun i j hi hj he => ?_⟩
          exact i5 i j (by rw [close_nodes]; exact hi) (by rw [close_nodes]; exact hj) (coarse hk hv n2 hi hj he)
      · cases h
/-- The steps of a plan are accepted, and lead into the islands of those that run. -/
theorem plan_ok : ∀ {l : List Stp} {m : Net} {run : List ByteArray} {f : Nat}, NetOk m → NetV m → (∀ r ∈ run, GenName m r) → planF f m run = some l → run.length ≤ m.gens.l.length →
    VPre m run l ∧ (∀ k, verF k m run l = (some (finalN m l), 0, 0)) ∧ l.length + run.length = m.gens.l.length ∧ (∀ s ∈ l, GenName m s.1) ∧
      ∀ s ∈ l, ∃ r ∈ run, plc (finalN m l) (idx m (nodG m r)) = plc (finalN m l) (idx m (nodG m s.1))
  | [], m, run, f, hk, hv, hr, h, hle => by
    refine ⟨trivial, fun k => rfl, ?_, fun s hs => (by cases hs), fun s hs => (by cases hs)⟩
    cases f with
    | zero =>
      unfold planF at h
      split at h
      · cases h
      · simp only [List.length_nil]; omega
    | succ f =>
      unfold planF at h
      split at h
      · split at h
        · cases h
        · cases hp : planF f (closeL m (nextF m run).2) (run ++ [(nextF m run).1]) with
          | none => rw [hp] at h; cases h
          | some l' => rw [hp] at h; cases h
      · simp only [List.length_nil]; omega
  | s :: l, m, run, f, hk, hv, hr, h, hle => by
    cases f with
    | zero => unfold planF at h; split at h <;> cases h
    | succ f =>
      unfold planF at h
      split at h
      · rename_i hlt
        split at h
        · cases h
        rename_i hne
        obtain ⟨n1, n2, n3, n4, n5, ⟨r0, hr0, n6⟩, _⟩ := step_joins hk hv hr hne
        have hrn : run ≠ [] := fun e => by subst e; cases hr0
        have hrr : ∀ r ∈ run ++ [(nextF m run).1], GenName (closeL m (nextF m run).2) r := fun r hr' => GenName.close.2 (by
          rcases List.mem_append.1 hr' with hr' | hr'
          · exact hr r hr'
          · rw [List.mem_singleton.1 hr']; exact n1)
        cases hp : planF f (closeL m (nextF m run).2) (run ++ [(nextF m run).1]) with
        | none => rw [hp] at h; cases h
        | some l' =>
          rw [hp] at h
          have h : (nextF m run) :: l' = s :: l := Option.some.inj h
          obtain ⟨e1, e2⟩ := List.cons.inj h
          subst e1; subst e2
          obtain ⟨c1, c2, _⟩ := close_ok hk hv n5
          have hany : run.any (fun r => joinR (closeL m (nextF m run).2) r (nextF m run).1) = true := List.any_eq_true.2 ⟨r0, hr0, n6⟩
          obtain ⟨i1, i2, i3, i4, i5⟩ := plan_ok c1 c2 hrr hp (by rw [List.length_append, close_gens]; simp only [List.length_cons, List.length_nil]; omega)
          obtain ⟨_, _, q3, _, q5⟩ := final_coarse c1 c2 hrr hp
          have hn0 : nodG m r0 ∈ m.nodes.l := nodG_in hv (hr r0 hr0)
          have hng : nodG m (nextF m run).1 ∈ m.nodes.l := nodG_in hv n1
          have hjp : plc (finalN (closeL m (nextF m run).2) l') (idx m (nodG m r0)) = plc (finalN (closeL m (nextF m run).2) l') (idx m (nodG m (nextF m run).1)) := by
            refine q5 _ _ (by rw [close_nodes]; exact (idx_int hn0).2.1) (by rw [close_nodes]; exact (idx_int hng).2.1) ?_
            have := (joinR_iff c2 (GenName.close.2 (hr r0 hr0)) (GenName.close.2 n1)).1 n6
            rw [nodG_close, nodG_close, idx_close, idx_close] at this
            exact this
          refine ⟨⟨n1, n2, n3, by omega, hrn, fun _ => i1⟩, fun k => ?_, ?_, fun s hs => ?_, fun s hs => ?_⟩
          · rw [verF, if_pos hany, i2]; rfl
          · rw [List.length_append, close_gens] at i3
            simp only [List.length_cons, List.length_nil] at i3 ⊢
            omega
          · rcases List.mem_cons.1 hs with rfl | hs
            · exact n1
            · exact GenName.close.1 (i4 s hs)
          · show ∃ r ∈ run, plc (finalN (closeL m (nextF m run).2) l') _ = plc (finalN (closeL m (nextF m run).2) l') _
            rcases List.mem_cons.1 hs with rfl | hs
            · exact ⟨r0, hr0, hjp⟩
            · obtain ⟨r, hr', e⟩ := i5 s hs
              rw [nodG_close, nodG_close, idx_close, idx_close] at e
              rcases List.mem_append.1 hr' with hr' | hr'
              · exact ⟨r, hr', e⟩
              · rw [List.mem_singleton.1 hr'] at e
                exact ⟨r0, hr0, hjp.trans e⟩
      · cases h
/-- A step without its switches is refused. -/
theorem less_ok : ∀ {l : List Stp} {m : Net} {run : List ByteArray} {f : Nat} {k : Nat}, NetOk m → NetV m → (∀ r ∈ run, GenName m r) → planF f m run = some l → run.length ≤ m.gens.l.length → (hk : k < l.length) → l[k].2 ≠ [] →
    VPre m run (l.set k (l[k].1, [])) ∧ ∀ q : Nat, verF q m run (l.set k (l[k].1, [])) = (none, ((q + k : Nat) : Int), 15)
  | [], _, _, _, k, _, _, _, _, _, hk, _ => by simp at hk
  | s :: l, m, run, f, k, hk, hv, hr, h, hle, hkl, hne2 => by
    cases f with
    | zero => unfold planF at h; split at h <;> cases h
    | succ f =>
      unfold planF at h
      split at h
      · rename_i hlt
        split at h
        · cases h
        rename_i hne
        obtain ⟨n1, n2, n3, n4, n5, ⟨r0, hr0, n6⟩, n7⟩ := step_joins hk hv hr hne
        have hrn : run ≠ [] := fun e => by subst e; cases hr0
        have hrr : ∀ r ∈ run ++ [(nextF m run).1], GenName (closeL m (nextF m run).2) r := fun r hr' => GenName.close.2 (by
          rcases List.mem_append.1 hr' with hr' | hr'
          · exact hr r hr'
          · rw [List.mem_singleton.1 hr']; exact n1)
        cases hp : planF f (closeL m (nextF m run).2) (run ++ [(nextF m run).1]) with
        | none => rw [hp] at h; cases h
        | some l' =>
          rw [hp] at h
          have h : (nextF m run) :: l' = s :: l := Option.some.inj h
          obtain ⟨e1, e2⟩ := List.cons.inj h
          subst e1; subst e2
          cases k with
          | zero =>
            have hno : run.any (fun r => joinR (closeL m []) r (nextF m run).1) = false := by
              rw [List.any_eq_false]
              intro r hr'
              have := n7 hne2 r hr'
              show ¬ (joinR m r _ = true)
              rw [this]; decide
            refine ⟨⟨n1, n2, trivial, by simp, hrn, fun hj => ?_⟩, fun q => ?_⟩
            · have hj : run.any (fun r => joinR (closeL m []) r (nextF m run).1) = true := hj
              rw [hno] at hj; cases hj
            · show verF q m run (((nextF m run).1, []) :: l') = _
              rw [verF]
              dsimp only
              rw [hno, if_neg (by decide)]; rfl
          | succ k =>
            obtain ⟨c1, c2, _⟩ := close_ok hk hv n5
            have hany : run.any (fun r => joinR (closeL m (nextF m run).2) r (nextF m run).1) = true := List.any_eq_true.2 ⟨r0, hr0, n6⟩
            obtain ⟨i1, i2⟩ := less_ok (k := k) c1 c2 hrr hp (by rw [List.length_append, close_gens]; simp only [List.length_cons, List.length_nil]; omega) (by simpa using hkl) hne2
            refine ⟨⟨n1, n2, n3, by omega, hrn, fun _ => i1⟩, fun q => ?_⟩
            show verF q m run ((nextF m run) :: (l'.set k _)) = _
            rw [verF, if_pos hany]
            have := i2 (q + 1)
            rw [show q + (k + 1) = q + 1 + k by omega]
            exact this
      · cases h
/-- A copy: the same lists. -/
def netO (n : Net) : Net := ⟨⟨none, false, n.nodes.l⟩, ⟨none, false, n.sws.l⟩, ⟨none, false, n.brs.l⟩, ⟨none, false, n.gens.l⟩, ⟨none, false, n.loads.l⟩, ⟨none, false, n.stores.l⟩⟩
theorem netO_ok {n : Net} (hk : NetOk n) : NetOk (netO n) := ⟨hk.nodes, hk.nlen, hk.sws, hk.brs, hk.gens, hk.loads, hk.stores⟩
theorem netO_v {n : Net} (hv : NetV n) : NetV (netO n) := ⟨hv.nodes, hv.nsw, hv.nbr, hv.nge, hv.nlo, hv.nst, hv.sw, hv.br, hv.ge, hv.lo, hv.st, hv.all, hv.dis⟩
theorem nextF_o (n : Net) (run : List ByteArray) : nextF (netO n) run = nextF n run := rfl
theorem planF_o : ∀ (f : Nat) (n : Net) (run : List ByteArray), planF f (netO n) run = planF f n run
  | 0, n, run => rfl
  | f + 1, n, run => by
    rw [planF, planF, nextF_o]
    have hc : planF f (closeL (netO n) (nextF n run).2) (run ++ [(nextF n run).1]) = planF f (closeL n (nextF n run).2) (run ++ [(nextF n run).1]) := by
      cases (nextF n run).2 with
      | nil => exact planF_o f n _
      | cons s r => rfl
    rw [hc]; rfl
end Go.Proofs.Ytmginfhlohenhaa
