/- Networks: what a valid network is. -/
import Derived.Test.YtmginfhlohenhaaAwZk
import Derived.Test.YtmginfhlohenhaaNetC
set_option linter.unusedVariables false
set_option linter.unusedSimpArgs false
namespace Go.Proofs.Ytmginfhlohenhaa
open Go.Proofs.Ytmginfhlohenhaa.Aw
attribute [local go_sem] Int.natCast_zero Int.natCast_one bne_self_eq_false beq_self_eq_true Bool.not_true Bool.not_false Option.isSome_none Option.isSome_some Aw.bkM_nil Option.getD_some Option.getD_none Nat.sub_zero Int.toNat_zero Aw.frzS Aw.frzT Aw.frzA Aw.frzL Aw.frzR Aw.frzO Aw.frzOL Aw.frzOT Aw.frzOR Aw.killS Aw.mapT Aw.mapR Aw.killM Aw.resAVs Aw.resAV Aw.quietOps Aw.wpP Aw.wpT Aw.wpS Aw.AOp.mild List.getElem?_cons_zero List.getElem?_cons_succ Bool.and_false Bool.and_self Bool.false_and Aw.opOb Aw.gdB Aw.Rnd Aw.subTm List.length_map Int.toNat_natCast and_self Aw.SeqC Aw.stops Aw.Ends Aw.looks Aw.renA Aw.renL Aw.renT Aw.renS Aw.wpO Aw.aop Aw.putTm Aw.St.ev Aw.St.put Aw.St.putO Aw.binAV Aw.intBin Aw.strBin Aw.pickAV Aw.optInt Aw.AV.strip Aw.AV.guard Aw.AV.cells Aw.gdOb Aw.AOp.opds Aw.AOp.still Aw.ptrCells Aw.St.reg Aw.fillAV Aw.fillOb Aw.elsOb Aw.splice Aw.firm Aw.cellish Aw.AV.shut Aw.shutAll Aw.Seq Aw.Blk Aw.retS_nil Aw.mapA Aw.mapL Aw.borA Aw.borOb Aw.allOb Aw.tupOf Aw.params Aw.Opd.of Array.toList Value.cells List.map_cons List.map_nil List.getD_cons_zero List.getD_cons_succ List.getD_nil List.length_cons List.length_nil List.take_succ_cons List.take_zero List.take_nil List.drop_zero List.drop_succ_cons List.drop_nil List.set_cons_zero List.set_cons_succ List.append_nil List.nil_append List.cons_append List.all_cons List.all_nil cond_false cond_true if_true if_false true_and and_true Bool.and_true Bool.true_and Option.map_some Option.map_none false_implies forall_const implies_true forall_eq imp_self Bool.cond_false_right Bool.cond_true_left beq_true beq_false Bool.not_eq_true' Bool.false_eq_true Nat.zero_add Nat.add_zero Aw.eqCells Aw.stopDraw Aw.skipS Aw.exactCap Aw.revealS Aw.srcEls Aw.srcSz
attribute [local go_sem ↓] Aw.look_nil Aw.look_ite Aw.wpL_nil Aw.wpL_op Aw.wpL_gd Aw.wpQ_nil Aw.wpQ_op Aw.wpQ_gd Aw.wpC_draw Aw.wpC_reg Aw.wpC_skip Aw.wpC_ret Aw.wpC_exit Aw.wpC_seq Aw.wpC_block Aw.wpC_loop Aw.wpC_cond Aw.stopAt_nil Aw.stopAt_cons Aw.wpD_skip Aw.wpD_ret Aw.wpD_exit Aw.wpD_region Aw.wpD_draw Aw.wpM_nil Aw.wpM_op Aw.wpM_gd Aw.wpD_seq Aw.wpD_block Aw.wpD_loop Aw.wpD_cond
theorem seqq {a b : ByteArray} : seq a b = true ↔ a = b := by
  unfold seq
  rw [beq_iff_eq]
  constructor
  · intro h; exact ByteArray.ext (Array.toList_inj.1 (by rw [← ByteArray.toList_eq, ← ByteArray.toList_eq]; exact h))
  · intro h; rw [h]
theorem any_mem {x : ByteArray} {l : List ByteArray} : l.any (seq x) = true ↔ x ∈ l := by
  rw [List.any_eq_true]
  constructor
  · rintro ⟨y, h1, h2⟩; rw [seqq.1 h2]; exact h1
  · intro h; exact ⟨x, h, seqq.2 rfl⟩
theorem sIndex_mem {x : ByteArray} : ∀ {l : List ByteArray} {k : Nat}, x ∈ l → ∃ i, sIndex x k l = ((k + i : Nat) : Int) ∧ ∃ h : i < l.length, l[i] = x
  | y :: l, k, h => by
    unfold sIndex
    by_cases e : seq x y = true
    · rw [if_pos e]; exact ⟨0, rfl, by simp, (seqq.1 e).symm⟩
    · rw [if_neg e]
      rcases List.mem_cons.1 h with rfl | h
      · exact absurd (seqq.2 rfl) e
      · obtain ⟨i, h1, h2, h3⟩ := sIndex_mem (k := k + 1) h
        exact ⟨i + 1, by rw [h1]; congr 1; omega, by simp; omega, h3⟩
theorem sIndex_not {x : ByteArray} : ∀ {l : List ByteArray} {k : Nat}, x ∉ l → sIndex x k l = -1
  | [], _, _ => rfl
  | y :: l, k, h => by
    unfold sIndex
    rw [if_neg fun e => h (by rw [seqq.1 e]; exact List.mem_cons_self)]
    exact sIndex_not fun h2 => h (List.mem_cons_of_mem _ h2)
/-- The place of a node. -/
def idx (n : Net) (x : ByteArray) : Nat := (sIndex x 0 n.nodes.l).toNat
theorem idx_int {n : Net} {x : ByteArray} (h : x ∈ n.nodes.l) : sIndex x 0 n.nodes.l = (idx n x : Int) ∧ idx n x < n.nodes.l.length ∧ n.nodes.l.getD (idx n x) ⟨#[]⟩ = x := by
  obtain ⟨i, h1, h2, h3⟩ := sIndex_mem (k := 0) h
  rw [Nat.zero_add] at h1
  have h4 : idx n x = i := by unfold idx; rw [h1]; exact Int.toNat_natCast i
  rw [h4]
  exact ⟨h1, h2, by rw [List.getD_eq_getElem?_getD, List.getElem?_eq_getElem h2]; exact h3⟩
theorem endsF_zero {n : Net} : ∀ {l : List ByteArray}, endsF n l = 0 ↔ ∀ x ∈ l, x ∈ n.nodes.l
  | [] => by simp [endsF]
  | x :: l => by
    unfold endsF
    by_cases h : n.nodes.l.any (seq x) = true
    · rw [if_pos h, endsF_zero]
      simp [any_mem.1 h]
    · rw [if_neg h]
      constructor
      · intro h2; cases h2
      · intro h2; exact absurd (any_mem.2 (h2 x List.mem_cons_self)) h
theorem addE_zero {l : List ByteArray} {s : ByteArray} : addE l s = 0 ↔ nm 8 s = true ∧ s ∉ l := by
  unfold addE
  cases h : nm 8 s
  · simp
  · rw [if_neg (by decide)]
    by_cases h2 : l.any (seq s) = true
    · rw [if_pos h2]; simp [any_mem.1 h2]
    · rw [if_neg h2]
      simp only [true_and, true_iff]
      exact fun h3 => h2 (any_mem.2 h3)
theorem devE_zero {n : Net} {l : List ByteArray} {name : ByteArray} {nodes : List ByteArray} : devE n l name nodes = 0 ↔ (nm 8 name = true ∧ name ∉ l) ∧ ∀ x ∈ nodes, x ∈ n.nodes.l := by
  unfold devE
  split
  · rename_i h
    rw [← addE_zero]
    constructor
    · intro h2; exact absurd h2 h
    · intro h2; exact absurd h2.1 h
  · rename_i h
    rw [← addE_zero, endsF_zero]
    constructor
    · intro h2; exact ⟨by simpa using h, h2⟩
    · intro h2; exact h2.2
theorem itemsE_zero {n : Net} : ∀ {l : List Item} {met : List ByteArray}, itemsE n met l = 0 ↔ (∀ x ∈ l, nm 8 x.name = true ∧ x.name ∉ met ∧ (∀ e ∈ x.ends, e ∈ n.nodes.l) ∧ x.e = 0) ∧ (l.map (·.name)).Nodup
  | [], met => by simp [itemsE]
  | x :: l, met => by
    by_cases hd : devE n met x.name x.ends = 0
    · by_cases he : x.e = 0
      · rw [itemsE_ok hd he, itemsE_zero]
        obtain ⟨⟨h1, h2⟩, h3⟩ := devE_zero.1 hd
        constructor
        · rintro ⟨h4, h5⟩
          refine ⟨fun y hy => ?_, ?_⟩
          · rcases List.mem_cons.1 hy with rfl | hy
            · exact ⟨h1, h2, h3, he⟩
            · obtain ⟨g1, g2, g3, g4⟩ := h4 y hy
              exact ⟨g1, fun h => g2 (List.mem_append_left _ h), g3, g4⟩
          · rw [List.map_cons, List.nodup_cons]
            refine ⟨fun h => ?_, h5⟩
            obtain ⟨y, hy, hyx⟩ := List.mem_map.1 h
            exact (h4 y hy).2.1 (by rw [hyx]; exact List.mem_append_right _ List.mem_cons_self)
        · rintro ⟨h4, h5⟩
          rw [List.map_cons, List.nodup_cons] at h5
          refine ⟨fun y hy => ?_, h5.2⟩
          obtain ⟨g1, g2, g3, g4⟩ := h4 y (List.mem_cons_of_mem _ hy)
          refine ⟨g1, fun h => ?_, g3, g4⟩
          rcases List.mem_append.1 h with h | h
          · exact g2 h
          · exact h5.1 (List.mem_map.2 ⟨y, hy, List.mem_singleton.1 h⟩)
      · rw [itemsE_e hd he]
        constructor
        · intro h; exact absurd h he
        · intro h; exact absurd (h.1 x List.mem_cons_self).2.2.2 he
    · rw [itemsE_dev hd]
      constructor
      · intro h; exact absurd h hd
      · intro h
        obtain ⟨g1, g2, g3, g4⟩ := h.1 x List.mem_cons_self
        exact absurd (devE_zero.2 ⟨⟨g1, g2⟩, g3⟩) hd
/-- A valid network. -/
structure NetV (n : Net) : Prop where
  nodes : n.nodes.l.length ≤ 24
  nsw : n.sws.l.length ≤ 32
  nbr : n.brs.l.length ≤ 24
  nge : n.gens.l.length ≤ 10
  nlo : n.loads.l.length ≤ 12
  nst : n.stores.l.length ≤ 4
  sw : ∀ x ∈ n.sws.l, x.a ∈ n.nodes.l ∧ x.b ∈ n.nodes.l ∧ swiE x = 0
  br : ∀ x ∈ n.brs.l, x.a ∈ n.nodes.l ∧ x.b ∈ n.nodes.l ∧ brE x = 0
  ge : ∀ x ∈ n.gens.l, x.node ∈ n.nodes.l ∧ genE x = 0
  lo : ∀ x ∈ n.loads.l, x.node ∈ n.nodes.l ∧ loaE x = 0
  st : ∀ x ∈ n.stores.l, x.node ∈ n.nodes.l ∧ stoE x = 0
  all : ∀ x ∈ itemsN n, nm 8 x.name = true
  dis : ((itemsN n).map (·.name)).Nodup
theorem netF_zero {n : Net} : netF n = 0 ↔ NetV n := by
  have hsz : sizesF n = 0 ↔ n.nodes.l.length ≤ 24 ∧ n.sws.l.length ≤ 32 ∧ n.brs.l.length ≤ 24 ∧ n.gens.l.length ≤ 10 ∧ n.loads.l.length ≤ 12 ∧ n.stores.l.length ≤ 4 := by
    refine ⟨sizesF_zero, fun h => ?_⟩
    unfold sizesF
    rw [if_neg (by omega), if_neg (by omega)]
  have hN : netF n = 0 ↔ sizesF n = 0 ∧ itemsE n [] (itemsN n) = 0 := by
    unfold netF
    split
    · rename_i h
      exact ⟨fun h2 => absurd h2 h, fun h2 => absurd h2.1 h⟩
    · rename_i h
      exact ⟨fun h2 => ⟨by simpa using h, h2⟩, fun h2 => h2.2⟩
  rw [hN, hsz, itemsE_zero]
  have hmem : ∀ x, x ∈ itemsN n ↔ x ∈ n.nodes.l.map nodI ∨ x ∈ n.sws.l.map swiI ∨ x ∈ n.brs.l.map braI ∨ x ∈ n.gens.l.map genI ∨ x ∈ n.loads.l.map loaI ∨ x ∈ n.stores.l.map stoI := fun x => by
    unfold itemsN
    simp only [List.mem_append]
  constructor
  · rintro ⟨⟨h1, h2, h3, h4, h5, h6⟩, h7, h8⟩
    refine ⟨h1, h2, h3, h4, h5, h6, fun x hx => ?_, fun x hx => ?_, fun x hx => ?_, fun x hx => ?_, fun x hx => ?_, fun x hx => (h7 x hx).1, h8⟩
    · obtain ⟨_, _, g, e⟩ := h7 (swiI x) ((hmem _).2 (.inr (.inl (List.mem_map.2 ⟨x, hx, rfl⟩))))
      exact ⟨g _ (by simp [swiI]), g _ (by simp [swiI]), e⟩
    · obtain ⟨_, _, g, e⟩ := h7 (braI x) ((hmem _).2 (.inr (.inr (.inl (List.mem_map.2 ⟨x, hx, rfl⟩)))))
      exact ⟨g _ (by simp [braI]), g _ (by simp [braI]), e⟩
    · obtain ⟨_, _, g, e⟩ := h7 (genI x) ((hmem _).2 (.inr (.inr (.inr (.inl (List.mem_map.2 ⟨x, hx, rfl⟩))))))
      exact ⟨g _ (by simp [genI]), e⟩
    · obtain ⟨_, _, g, e⟩ := h7 (loaI x) ((hmem _).2 (.inr (.inr (.inr (.inr (.inl (List.mem_map.2 ⟨x, hx, rfl⟩)))))))
      exact ⟨g _ (by simp [loaI]), e⟩
    · obtain ⟨_, _, g, e⟩ := h7 (stoI x) ((hmem _).2 (.inr (.inr (.inr (.inr (.inr (List.mem_map.2 ⟨x, hx, rfl⟩)))))))
      exact ⟨g _ (by simp [stoI]), e⟩
  · intro h
    refine ⟨⟨h.nodes, h.nsw, h.nbr, h.nge, h.nlo, h.nst⟩, fun x hx => ⟨h.all x hx, by simp, ?_⟩, h.dis⟩
    rcases (hmem x).1 hx with hx | hx | hx | hx | hx | hx <;> obtain ⟨y, hy, rfl⟩ := List.mem_map.1 hx
    · exact ⟨fun e he => by simp [nodI] at he, rfl⟩
    · obtain ⟨g1, g2, g3⟩ := h.sw y hy
      exact ⟨fun e he => by simp [swiI] at he; rcases he with rfl | rfl <;> assumption, g3⟩
    · obtain ⟨g1, g2, g3⟩ := h.br y hy
      exact ⟨fun e he => by simp [braI] at he; rcases he with rfl | rfl <;> assumption, g3⟩
    · obtain ⟨g1, g3⟩ := h.ge y hy
      exact ⟨fun e he => by simp [genI] at he; rw [he]; exact g1, g3⟩
    · obtain ⟨g1, g3⟩ := h.lo y hy
      exact ⟨fun e he => by simp [loaI] at he; rw [he]; exact g1, g3⟩
    · obtain ⟨g1, g3⟩ := h.st y hy
      exact ⟨fun e he => by simp [stoI] at he; rw [he]; exact g1, g3⟩
end Go.Proofs.Ytmginfhlohenhaa
