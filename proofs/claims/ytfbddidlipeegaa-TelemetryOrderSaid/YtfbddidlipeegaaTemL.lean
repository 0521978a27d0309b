/- Telemetry: the order of messages does not matter. -/
import Derived.Test.YtfbddidlipeegaaAwZg
import Derived.Test.YtfbddidlipeegaaTemK
set_option linter.unusedVariables false
set_option linter.unusedSimpArgs false
namespace Go.Proofs.Ytfbddidlipeegaa
open Go.Proofs.Ytfbddidlipeegaa.Aw
attribute [local go_sem] Int.natCast_zero Int.natCast_one bne_self_eq_false beq_self_eq_true Bool.not_true Bool.not_false Option.isSome_none Option.isSome_some Aw.bkM_nil Option.getD_some Option.getD_none Nat.sub_zero Int.toNat_zero Aw.frzS Aw.frzT Aw.frzA Aw.frzL Aw.frzR Aw.frzO Aw.frzOL Aw.frzOT Aw.frzOR Aw.killS Aw.mapT Aw.mapR Aw.killM Aw.resAVs Aw.resAV Aw.quietOps Aw.wpP Aw.wpT Aw.wpS Aw.AOp.mild List.getElem?_cons_zero List.getElem?_cons_succ Bool.and_false Bool.and_self Bool.false_and Aw.opOb Aw.gdB Aw.Rnd Aw.subTm List.length_map Int.toNat_natCast and_self Aw.SeqC Aw.stops Aw.Ends Aw.looks Aw.renA Aw.renL Aw.renT Aw.renS Aw.wpO Aw.aop Aw.putTm Aw.St.ev Aw.St.put Aw.St.putO Aw.binAV Aw.intBin Aw.strBin Aw.pickAV Aw.optInt Aw.AV.strip Aw.AV.guard Aw.AV.cells Aw.gdOb Aw.AOp.opds Aw.AOp.still Aw.ptrCells Aw.St.reg Aw.fillAV Aw.fillOb Aw.elsOb Aw.splice Aw.firm Aw.cellish Aw.AV.shut Aw.shutAll Aw.Seq Aw.Blk Aw.retS_nil Aw.mapA Aw.mapL Aw.borA Aw.borOb Aw.allOb Aw.tupOf Aw.params Aw.Opd.of Array.toList Value.cells List.map_cons List.map_nil List.getD_cons_zero List.getD_cons_succ List.getD_nil List.length_cons List.length_nil List.take_succ_cons List.take_zero List.take_nil List.drop_zero List.drop_succ_cons List.drop_nil List.set_cons_zero List.set_cons_succ List.append_nil List.nil_append List.cons_append List.all_cons List.all_nil cond_false cond_true if_true if_false true_and and_true Bool.and_true Bool.true_and Option.map_some Option.map_none false_implies forall_const implies_true forall_eq imp_self Bool.cond_false_right Bool.cond_true_left beq_true beq_false Bool.not_eq_true' Bool.false_eq_true Nat.zero_add Nat.add_zero Aw.eqCells Aw.exactCap Aw.revealS Aw.srcEls Aw.srcSz
attribute [local go_sem ↓] Aw.look_nil Aw.look_ite Aw.wpL_nil Aw.wpL_op Aw.wpL_gd Aw.wpQ_nil Aw.wpQ_op Aw.wpQ_gd Aw.wpC_draw Aw.wpC_reg Aw.wpC_skip Aw.wpC_ret Aw.wpC_exit Aw.wpC_seq Aw.wpC_block Aw.wpC_loop Aw.wpC_cond Aw.stopAt_nil Aw.stopAt_cons Aw.wpD_skip Aw.wpD_ret Aw.wpD_exit Aw.wpD_region Aw.wpD_draw Aw.wpM_nil Aw.wpM_op Aw.wpM_gd Aw.wpD_seq Aw.wpD_block Aw.wpD_loop Aw.wpD_cond
/-- Times and values go with the numbers. -/
structure Reg1 (m : Msg) : Prop where
  time : m.time = 10 * m.num
  val : m.val = m.num.tmod 7
/-- What the points hold after the messages L. -/
structure Good (L : List Msg) (d : Tk) : Prop where
  ok : TkOk d
  age : d.age = 5
  mem : ∀ q ∈ d.ps, q ∈ L ∧ telChk q = 0
  top : ∀ m ∈ L, telChk m = 0 → ∃ q ∈ d.ps, q.pt = m.pt ∧ m.num ≤ q.num
theorem Sorted.uniq {l : List Msg} (h : Sorted l) {p q : Msg} (hp : p ∈ l) (hq : q ∈ l) (e : p.pt = q.pt) : p = q := by
  have h1 := (find_mem h hp).2
  have h2 := (find_mem h hq).2
  rw [e] at h1
  exact h1.symm.trans h2
theorem Sorted.nodup {l : List Msg} (h : Sorted l) : l.Nodup := by
  refine h.imp fun {p q} hpq he => ?_
  rw [he, cmpS_self] at hpq
  exact absurd hpq (by decide)
theorem Good.take {L : List Msg} {d : Tk} (h : Good L d) (hr : ∀ m ∈ L, Reg1 m) {m : Msg} (hm : Reg1 m) (h24 : d.ps.length < 24) : Good (L ++ [m]) (takD d m) := by
  refine ⟨h.ok.take m, by rw [takD_age]; exact h.age, fun q hq => ?_, fun x hx hc => ?_⟩
  · rcases takD_mem hq with hq | ⟨rfl, hq⟩
    · exact ⟨List.mem_append_left _ (h.mem q hq).1, (h.mem q hq).2⟩
    · exact ⟨List.mem_append_right _ List.mem_cons_self, hq⟩
  · unfold takD
    by_cases h1 : telChk m = 0
    case neg =>
      rw [if_pos h1]
      rcases List.mem_append.1 hx with hx | hx
      · exact h.top x hx hc
      · rw [List.mem_singleton.1 hx] at hc; exact absurd hc h1
    rw [if_neg (by simp [h1])]
    cases hf : fdS d.ps m.pt
    · rw [if_pos rfl, if_neg (by omega)]
      rcases List.mem_append.1 hx with hx | hx
      · obtain ⟨q, hq, h2⟩ := h.top x hx hc
        exact ⟨q, mem_insL.2 (.inr hq), h2⟩
      · rw [List.mem_singleton.1 hx]
        exact ⟨m, mem_insL.2 (.inl rfl), rfl, Int.le_refl _⟩
    · rw [if_neg (by decide)]
      obtain ⟨h3, h4⟩ := fdS_pt hf
      have hQ : tkQ d m = d.ps.getD (lbS d.ps m.pt) default := rfl
      rw [← hQ] at h4
      have hqm : tkQ d m ∈ d.ps := by rw [hQ, getD_elem h3]; exact List.getElem_mem h3
      by_cases h5 : m.num ≤ (tkQ d m).num
      · rw [if_pos h5]
        rcases List.mem_append.1 hx with hx | hx
        · exact h.top x hx hc
        · rw [List.mem_singleton.1 hx]
          exact ⟨_, hqm, h4, h5⟩
      rw [if_neg h5]
      have ht := (hr _ (h.mem _ hqm).1).time
      have ht2 := hm.time
      rw [if_neg (by omega)]
      dsimp only
      have hself : m ∈ d.ps.set (lbS d.ps m.pt) m := List.mem_iff_getElem.2 ⟨lbS d.ps m.pt, by rw [List.length_set]; exact h3, List.getElem_set_self _⟩
      rcases List.mem_append.1 hx with hx | hx
      · obtain ⟨q, hq, h6, h7⟩ := h.top x hx hc
        obtain ⟨j, hj, rfl⟩ := List.mem_iff_getElem.1 hq
        by_cases e : lbS d.ps m.pt = j
        · have e2 : d.ps[j] = tkQ d m := by
            rw [hQ, getD_elem h3]
            congr 1; exact e.symm
          rw [e2] at h6 h7
          exact ⟨m, hself, h4.symm.trans h6, by omega⟩
        · exact ⟨d.ps[j], List.mem_iff_getElem.2 ⟨j, by rw [List.length_set]; exact hj, by rw [List.getElem_set_ne e]⟩, h6, h7⟩
      · rw [List.mem_singleton.1 hx]
        exact ⟨m, hself, rfl, Int.le_refl _⟩
theorem good_fold {M : List Msg} (hM : M.length < 24) (hr : ∀ m ∈ M, Reg1 m) : ∀ (l l0 : List Msg) (d : Tk), Good l0 d → (∀ m ∈ l0 ++ l, m ∈ M) → Good (l0 ++ l) (l.foldl takD d)
  | [], l0, d, h, _ => by rw [List.append_nil]; exact h
  | m :: l, l0, d, h, hs => by
    have h24 : d.ps.length ≤ M.length := List.Nodup.length_le_of_subset h.ok.sor.nodup fun q hq => hs q (List.mem_append_left _ (h.mem q hq).1)
    have h1 := h.take (fun x hx => hr x (hs x (List.mem_append_left _ hx))) (hr m (hs m (List.mem_append_right _ List.mem_cons_self))) (by omega)
    have := good_fold hM hr l _ _ h1 (by rw [List.append_assoc]; exact hs)
    rw [List.append_assoc] at this; exact this
theorem good_stT {M : List Msg} (hM : M.length < 24) (hr : ∀ m ∈ M, Reg1 m) (l : List Msg) (hs : ∀ m ∈ l, m ∈ M) : Good l (stT 5 l) := by
  have h0 : Good [] ⟨5, [], []⟩ := ⟨⟨Nat.zero_le _, List.Pairwise.nil, rfl⟩, rfl, (fun q hq => by cases hq), (fun m hm => by cases hm)⟩
  exact good_fold hM hr l [] _ h0 hs
theorem sorted_ext : ∀ {l1 l2 : List Msg}, Sorted l1 → Sorted l2 → (∀ q, q ∈ l1 ↔ q ∈ l2) → l1 = l2
  | [], [], _, _, _ => rfl
  | [], b :: _, _, _, h => by cases (h b).2 List.mem_cons_self
  | a :: _, [], _, _, h => by cases (h a).1 List.mem_cons_self
  | a :: l1, b :: l2, h1, h2, h => by
    obtain ⟨g1, g2⟩ := List.pairwise_cons.1 h1
    obtain ⟨g3, g4⟩ := List.pairwise_cons.1 h2
    have hab : a = b := by
      rcases List.mem_cons.1 ((h a).1 List.mem_cons_self) with e | ha
      · exact e
      rcases List.mem_cons.1 ((h b).2 List.mem_cons_self) with e | hb
      · exact e.symm
      have e1 := g3 a ha
      have e2 := g1 b hb
      rw [cmpS_neg] at e1; omega
    subst hab
    rw [sorted_ext g2 g4 fun q => ⟨fun hq => ?_, fun hq => ?_⟩]
    · rcases List.mem_cons.1 ((h q).1 (List.mem_cons_of_mem _ hq)) with e | e
      · have := g1 q hq
        rw [e, cmpS_self] at this; exact absurd this (by decide)
      · exact e
    · rcases List.mem_cons.1 ((h q).2 (List.mem_cons_of_mem _ hq)) with e | e
      · have := g3 q hq
        rw [e, cmpS_self] at this; exact absurd this (by decide)
      · exact e
theorem good_sub {L1 L2 : List Msg} {d1 d2 : Tk} (h1 : Good L1 d1) (h2 : Good L2 d2) (hr : ∀ m ∈ L1, Reg1 m) (hs : ∀ m, m ∈ L1 ↔ m ∈ L2) : ∀ q ∈ d1.ps, q ∈ d2.ps := fun q hq => by
  obtain ⟨g1, g2⟩ := h1.mem q hq
  obtain ⟨q2, g3, g4, g5⟩ := h2.top q ((hs q).1 g1) g2
  obtain ⟨g6, g7⟩ := h2.mem q2 g3
  obtain ⟨q3, g8, g9, g10⟩ := h1.top q2 ((hs q2).2 g6) g7
  obtain rfl := h1.ok.sor.uniq g8 hq (g9.trans g4)
  have r1 := hr q3 g1
  have r2 := hr q2 ((hs q2).2 g6)
  have e : q2 = q3 := by
    obtain ⟨a, b, c, e⟩ := q2
    obtain ⟨a', b', c', e'⟩ := q3
    obtain ⟨t1, v1⟩ := r1
    obtain ⟨t2, v2⟩ := r2
    simp only at *
    subst g4
    obtain rfl : b = b' := by omega
    rw [t1, t2, v1, v2]
  rw [← e]; exact g3
/-- The same messages, in whatever order. -/
theorem stT_same {M : List Msg} (hM : M.length < 24) (hr : ∀ m ∈ M, Reg1 m) {l1 l2 : List Msg} (h1 : ∀ m, m ∈ l1 ↔ m ∈ M) (h2 : ∀ m, m ∈ l2 ↔ m ∈ M) : (stT 5 l1).ps = (stT 5 l2).ps := by
  have g1 := good_stT hM hr l1 fun m hm => (h1 m).1 hm
  have g2 := good_stT hM hr l2 fun m hm => (h2 m).1 hm
  exact sorted_ext g1.ok.sor g2.ok.sor fun q => ⟨good_sub g1 g2 (fun m hm => hr m ((h1 m).1 hm)) (fun m => (h1 m).trans (h2 m).symm) q, good_sub g2 g1 (fun m hm => hr m ((h2 m).1 hm)) (fun m => (h2 m).trans (h1 m).symm) q⟩
/-- The message that is taken in the k-th place. -/
def turnM (M : List Msg) (c k : Nat) : Msg := M.getD ((k + c) % M.length) default
def turnL (M : List Msg) (c i : Nat) : List Msg := (List.range i).flatMap fun k => [turnM M c k, turnM M c k]
theorem turnL_succ (M : List Msg) (c i : Nat) : stT 5 (turnL M c (i + 1)) = takD (takD (stT 5 (turnL M c i)) (turnM M c i)) (turnM M c i) := by
  unfold turnL stT
  rw [List.range_succ, List.flatMap_append, List.foldl_append]; rfl
theorem turn_mem {M : List Msg} {c : Nat} (hc : c < M.length) (m : Msg) : m ∈ turnL M c M.length ↔ m ∈ M := by
  unfold turnL
  rw [List.mem_flatMap]
  constructor
  · rintro ⟨k, hk, hm⟩
    have hlt : (k + c) % M.length < M.length := Nat.mod_lt _ (by omega)
    have : m = turnM M c k := by simpa using hm
    rw [this]
    unfold turnM
    rw [getD_elem hlt]
    exact List.getElem_mem hlt
  · intro hm
    obtain ⟨j, hj, rfl⟩ := List.mem_iff_getElem.1 hm
    refine ⟨(j + (M.length - c)) % M.length, List.mem_range.2 (Nat.mod_lt _ (by omega)), ?_⟩
    have : turnM M c ((j + (M.length - c)) % M.length) = M[j] := by
      unfold turnM
      have : ((j + (M.length - c)) % M.length + c) % M.length = j := by
        rw [Nat.mod_add_mod]
        have : j + (M.length - c) + c = j + M.length := by omega
        rw [this, Nat.add_mod_right, Nat.mod_eq_of_lt hj]
      rw [this, getD_elem hj]
    rw [this]
    exact List.mem_cons_self
/-- A message as the law changes it. -/
def normM (m : Msg) : Msg := ⟨m.pt, cut m.num 1 1000, 10 * cut m.num 1 1000, (cut m.num 1 1000).tmod 7⟩
theorem normM_reg (m : Msg) : Reg1 (normM m) := ⟨rfl, rfl⟩
/-- The messages, the first i of them changed. -/
def mixL (l : List Msg) (i : Nat) : List Msg := (l.take i).map normM ++ l.drop i
theorem mixL_len (l : List Msg) (i : Nat) : (mixL l i).length = l.length := by unfold mixL; simp; omega
theorem mixL_get {l : List Msg} {i : Nat} (h : i < l.length) : (mixL l i)[i]'(by rw [mixL_len]; exact h) = l[i] := by
  unfold mixL
  rw [List.getElem_append_right (by simp; omega)]
  simp only [List.length_map, List.length_take, List.getElem_drop]
  congr 1; omega
theorem mixL_succ {l : List Msg} {i : Nat} (h : i < l.length) : mixL l (i + 1) = (mixL l i).set i (normM l[i]) := by
  unfold mixL
  have hl : ((l.take i).map normM).length = i := by rw [List.length_map, List.length_take]; omega
  rw [take_get h, List.map_append, List.set_append, if_neg (by omega), hl, Nat.sub_self, List.append_assoc]
  congr 1
  rw [List.drop_eq_getElem_cons h]; rfl
theorem mixL_all (l : List Msg) : mixL l l.length = l.map normM := by unfold mixL; simp
end Go.Proofs.Ytfbddidlipeegaa
