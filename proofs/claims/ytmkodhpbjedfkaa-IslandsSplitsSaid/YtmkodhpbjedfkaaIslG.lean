/- Islands: a network without a branch. -/
import Derived.Test.YtmkodhpbjedfkaaAwZh
import Derived.Test.YtmkodhpbjedfkaaNetF
import Derived.Test.YtmkodhpbjedfkaaGraG
import Derived.Test.YtmkodhpbjedfkaaGraQ
set_option linter.unusedVariables false
set_option linter.unusedSimpArgs false
namespace Go.Proofs.Ytmkodhpbjedfkaa
open Go.Proofs.Ytmkodhpbjedfkaa.Aw
attribute [local go_sem] Int.natCast_zero Int.natCast_one bne_self_eq_false beq_self_eq_true Bool.not_true Bool.not_false Option.isSome_none Option.isSome_some Aw.bkM_nil Option.getD_some Option.getD_none Nat.sub_zero Int.toNat_zero Aw.frzS Aw.frzT Aw.frzA Aw.frzL Aw.frzR Aw.frzO Aw.frzOL Aw.frzOT Aw.frzOR Aw.killS Aw.mapT Aw.mapR Aw.killM Aw.resAVs Aw.resAV Aw.quietOps Aw.wpP Aw.wpT Aw.wpS Aw.AOp.mild List.getElem?_cons_zero List.getElem?_cons_succ Bool.and_false Bool.and_self Bool.false_and Aw.opOb Aw.gdB Aw.Rnd Aw.subTm List.length_map Int.toNat_natCast and_self Aw.SeqC Aw.stops Aw.Ends Aw.looks Aw.renA Aw.renL Aw.renT Aw.renS Aw.wpO Aw.aop Aw.putTm Aw.St.ev Aw.St.put Aw.St.putO Aw.binAV Aw.intBin Aw.strBin Aw.pickAV Aw.optInt Aw.AV.strip Aw.AV.guard Aw.AV.cells Aw.gdOb Aw.AOp.opds Aw.AOp.still Aw.ptrCells Aw.St.reg Aw.fillAV Aw.fillOb Aw.elsOb Aw.splice Aw.firm Aw.cellish Aw.AV.shut Aw.shutAll Aw.Seq Aw.Blk Aw.retS_nil Aw.mapA Aw.mapL Aw.borA Aw.borOb Aw.allOb Aw.tupOf Aw.params Aw.Opd.of Array.toList Value.cells List.map_cons List.map_nil List.getD_cons_zero List.getD_cons_succ List.getD_nil List.length_cons List.length_nil List.take_succ_cons List.take_zero List.take_nil List.drop_zero List.drop_succ_cons List.drop_nil List.set_cons_zero List.set_cons_succ List.append_nil List.nil_append List.cons_append List.all_cons List.all_nil cond_false cond_true if_true if_false true_and and_true Bool.and_true Bool.true_and Option.map_some Option.map_none false_implies forall_const implies_true forall_eq imp_self Bool.cond_false_right Bool.cond_true_left beq_true beq_false Bool.not_eq_true' Bool.false_eq_true Nat.zero_add Nat.add_zero Aw.eqCells Aw.stopDraw Aw.skipS Aw.exactCap Aw.revealS Aw.srcEls Aw.srcSz
attribute [local go_sem ↓] Aw.look_nil Aw.look_ite Aw.wpL_nil Aw.wpL_op Aw.wpL_gd Aw.wpQ_nil Aw.wpQ_op Aw.wpQ_gd Aw.wpC_draw Aw.wpC_reg Aw.wpC_skip Aw.wpC_ret Aw.wpC_exit Aw.wpC_seq Aw.wpC_block Aw.wpC_loop Aw.wpC_cond Aw.stopAt_nil Aw.stopAt_cons Aw.wpD_skip Aw.wpD_ret Aw.wpD_exit Aw.wpD_region Aw.wpD_draw Aw.wpM_nil Aw.wpM_op Aw.wpM_gd Aw.wpD_seq Aw.wpD_block Aw.wpD_loop Aw.wpD_cond
theorem fIndex_none {α : Type} {p : α → Bool} : ∀ {l : List α} {k : Nat}, (∀ x ∈ l, p x = false) → fIndex p k l = -1
  | [], _, _ => rfl
  | x :: l, k, h => by
    unfold fIndex
    rw [if_neg (by rw [h x List.mem_cons_self]; decide)]
    exact fIndex_none fun y hy => h y (List.mem_cons_of_mem _ hy)
theorem fIndex_at {α : Type} {p : α → Bool} : ∀ {l : List α} {i k : Nat} (h : i < l.length), p l[i] = true → (∀ j (hj : j < i), p (l[j]'(by omega)) = false) → fIndex p k l = ((k + i : Nat) : Int)
  | x :: l, 0, k, h, hp, _ => by
    unfold fIndex
    rw [if_pos (show p x = true from hp)]; rfl
  | x :: l, i + 1, k, h, hp, hn => by
    unfold fIndex
    have := hn 0 (by omega)
    rw [if_neg (by rw [show p x = false from this]; decide), fIndex_at (i := i) (by simpa using h) hp fun j hj => hn (j + 1) (by omega)]
    congr 1; omega
def namesN (n : Net) : List ByteArray := n.nodes.l ++ (n.sws.l.map (·.name) ++ (n.brs.l.map (·.name) ++ (n.gens.l.map (·.name) ++ (n.loads.l.map (·.name) ++ n.stores.l.map (·.name)))))
theorem names_items (n : Net) : (itemsN n).map (·.name) = namesN n := by
  unfold itemsN namesN
  simp only [List.map_append, List.map_map]
  congr 1
  exact List.map_id _
theorem NetV.names {n : Net} (hv : NetV n) : (namesN n).Nodup := by rw [← names_items]; exact hv.dis
theorem find_br {n : Net} (hv : NetV n) {k : Nat} (hk : k < n.brs.l.length) : findN n n.brs.l[k].name = (kBr, (k : Int), 0) := by
  have h0 := netF_zero.2 hv
  have hn := hv.names
  unfold namesN at hn
  obtain ⟨d1, d2, d3⟩ := List.nodup_append.1 hn
  obtain ⟨e1, e2, e3⟩ := List.nodup_append.1 d2
  obtain ⟨f1, f2, f3⟩ := List.nodup_append.1 e2
  have hmem : n.brs.l[k].name ∈ n.brs.l.map (·.name) := List.mem_map.2 ⟨_, List.getElem_mem hk, rfl⟩
  have h1 : sIndex n.brs.l[k].name 0 n.nodes.l = -1 := sIndex_not fun h => d3 _ h _ (List.mem_append_right _ (List.mem_append_left _ hmem)) rfl
  have h2 : ixSw n n.brs.l[k].name = -1 := fIndex_none fun x hx => by
    cases hs : seq x.name n.brs.l[k].name with
    | false => rfl
    | true => exact absurd (seqq.1 hs) (e3 _ (List.mem_map.2 ⟨x, hx, rfl⟩) _ (List.mem_append_left _ hmem))
  have h3 : ixBr n n.brs.l[k].name = (k : Int) := by
    unfold ixBr
    rw [fIndex_at hk (seqq.2 rfl) fun j hj => ?_, Nat.zero_add]
    cases hs : seq (n.brs.l[j]'(by omega)).name n.brs.l[k].name with
    | false => rfl
    | true =>
      have h4 := seqq.1 hs
      have h5 := (List.nodup_iff_pairwise_ne.1 f1)
      rw [List.pairwise_iff_getElem] at h5
      have h6 := h5 j k (by rw [List.length_map]; omega) (by rw [List.length_map]; exact hk) hj
      simp only [List.getElem_map] at h6
      exact absurd h4 h6
  unfold findN
  rw [if_neg (by simpa using h0), if_neg (by rw [h1]; decide), if_neg (by rw [h2]; decide), if_pos (by rw [h3]; omega), h3]
theorem delB_ok {n : Net} (hk : NetOk n) (k : Nat) : NetOk (delB n k) := ⟨hk.nodes, hk.nlen, hk.sws, fun x hx => hk.brs x (List.mem_of_mem_eraseIdx hx), hk.gens, hk.loads, hk.stores⟩
theorem delB_v {n : Net} (hv : NetV n) (k : Nat) : NetV (delB n k) := by
  have hle : (n.brs.l.eraseIdx k).length ≤ n.brs.l.length := (List.eraseIdx_sublist _ _).length_le
  have hsub : (itemsN (delB n k)).Sublist (itemsN n) := by
    unfold itemsN delB
    dsimp only
    exact (List.Sublist.refl _).append ((List.Sublist.refl _).append (((List.eraseIdx_sublist _ _).map _).append (List.Sublist.refl _)))
  exact ⟨hv.nodes, hv.nsw, Nat.le_trans hle hv.nbr, hv.nge, hv.nlo, hv.nst, hv.sw, fun x hx => hv.br x (List.mem_of_mem_eraseIdx hx), hv.ge, hv.lo, hv.st, fun x hx => hv.all x (hsub.mem hx), hv.dis.sublist (hsub.map _)⟩
theorem delB_bus (n : Net) (k : Nat) : busF (delB n k) = busF n := rfl
theorem eraseIdx_mapX {α β : Type} (f : α → β) : ∀ (l : List α) (k : Nat), (l.map f).eraseIdx k = (l.eraseIdx k).map f
  | [], _ => rfl
  | x :: l, 0 => rfl
  | x :: l, k + 1 => by simp [eraseIdx_mapX f l k]
theorem delB_wires (n : Net) (k : Nat) : wiresF (delB n k) = (wiresF n).eraseIdx k := by
  unfold wiresF
  show List.map _ (n.brs.l.eraseIdx k) = _
  rw [eraseIdx_mapX]
  rfl
theorem many_isl {n : Net} (hv : NetV n) : manyF n = (partsN (nbus n) (wiresF n) (fun _ => true) (nbus n)).2 := by
  have hi := isl_ok hv
  have hb := bus_ok hv
  generalize (partsN (nbus n) (wiresF n) (fun _ => true) (nbus n)).2 = many at *
  have h1 : manyF n ≤ many := countF_le hi.le.1 fun x hx => by
    obtain ⟨b, hbm, rfl⟩ := List.mem_map.1 hx
    have h2 := bus_mem hv hbm
    exact (hi.rng b.toNat (by omega)).2
  by_cases h0 : many = 0
  · have := (many_le hv).1; omega
  · have hle := hi.le
    obtain ⟨x, hx, hxm⟩ := hi.sur (many - 1) (by omega) (by omega)
    have hc := hb.count
    obtain ⟨hn1, hn2⟩ := nbus_le hv
    obtain ⟨i, hi2, hib⟩ := hb.sur x (by omega) (by omega)
    have h3 : (islF n).getD x 0 ∈ placesF n := by
      unfold placesF
      refine List.mem_map.2 ⟨(x : Int), ?_, by rw [Int.toNat_natCast]⟩
      rw [← hib, List.getD_eq_getElem?_getD, List.getElem?_eq_getElem (by rw [bus_len hv]; exact hi2)]
      exact List.getElem_mem _
    have h4 : (islF n).getD x 0 < manyF n := countF_ge _ h3
    omega
theorem place_isl {n : Net} (hv : NetV n) {x : ByteArray} (hx : x ∈ n.nodes.l) : (placesF n).getD (idx n x) 0 = (islF n).getD (busI n x) 0 := by
  have h1 := (idx_int hx).2.1
  unfold placesF busI
  rw [List.getD_eq_getElem?_getD, List.getElem?_map, List.getElem?_eq_getElem (by rw [bus_len hv]; exact h1), List.getD_eq_getElem?_getD (l := busF n), List.getElem?_eq_getElem (by rw [bus_len hv]; exact h1)]
  rfl
/-- An island falls apart without a branch if its two nodes are in different islands then. -/
theorem splitsN {n : Net} (hv : NetV n) {k : Nat} (hk : k < n.brs.l.length) :
    decide (manyF (delB n k) > manyF n) = ((placesF (delB n k)).getD (idx n n.brs.l[k].a) 0 != (placesF (delB n k)).getD (idx n n.brs.l[k].b) 0) := by
  have hm := delB_v hv k
  have hx := hv.br _ (List.getElem_mem hk)
  have h1 := isl_ok hv
  have h2 := isl_ok hm
  have hnb : nbus (delB n k) = nbus n := rfl
  rw [hnb, delB_wires] at h2
  have hkw : k < (wiresF n).length := by unfold wiresF; rw [List.length_map]; exact hk
  have hs := splits (wires_in hv) hkw h1 h2
  rw [many_isl hm, many_isl hv, hnb, delB_wires, hs]
  have hw : (wiresF n).getD k (0, 0) = (busI n n.brs.l[k].a, busI n n.brs.l[k].b) := by
    unfold wiresF
    rw [List.getD_eq_getElem?_getD, List.getElem?_map, List.getElem?_eq_getElem hk]; rfl
  have p1 := place_isl hm (x := n.brs.l[k].a) hx.1
  have p2 := place_isl hm (x := n.brs.l[k].b) hx.2.1
  rw [hw]
  show ((islF (delB n k)).getD (busI (delB n k) n.brs.l[k].a) 0 != (islF (delB n k)).getD (busI (delB n k) n.brs.l[k].b) 0) = ((placesF (delB n k)).getD (idx (delB n k) n.brs.l[k].a) 0 != (placesF (delB n k)).getD (idx (delB n k) n.brs.l[k].b) 0)
  rw [p1, p2]
end Go.Proofs.Ytmkodhpbjedfkaa
