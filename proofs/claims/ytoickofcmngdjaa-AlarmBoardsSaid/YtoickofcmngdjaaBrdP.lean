/- Alarms: a board, plain. -/
import Derived.Test.YtoickofcmngdjaaBrdF
set_option linter.unusedVariables false
set_option linter.unusedSimpArgs false
namespace Go.Proofs.Ytoickofcmngdjaa
open Go.Proofs.Ytoickofcmngdjaa.Aw
attribute [local go_sem] Int.natCast_zero Int.natCast_one bne_self_eq_false beq_self_eq_true Bool.not_true Bool.not_false Option.isSome_none Option.isSome_some Aw.bkM_nil Option.getD_some Option.getD_none Nat.sub_zero Int.toNat_zero Aw.frzS Aw.frzT Aw.frzA Aw.frzL Aw.frzR Aw.frzO Aw.frzOL Aw.frzOT Aw.frzOR Aw.killS Aw.mapT Aw.mapR Aw.killM Aw.resAVs Aw.resAV Aw.quietOps Aw.wpP Aw.wpT Aw.wpS Aw.AOp.mild List.getElem?_cons_zero List.getElem?_cons_succ Bool.and_false Bool.and_self Bool.false_and Aw.opOb Aw.gdB Aw.Rnd Aw.subTm List.length_map Int.toNat_natCast and_self Aw.SeqC Aw.stops Aw.Ends Aw.looks Aw.renA Aw.renL Aw.renT Aw.renS Aw.wpO Aw.aop Aw.putTm Aw.St.ev Aw.St.put Aw.St.putO Aw.binAV Aw.intBin Aw.strBin Aw.pickAV Aw.optInt Aw.AV.strip Aw.AV.guard Aw.AV.cells Aw.gdOb Aw.AOp.opds Aw.AOp.still Aw.ptrCells Aw.St.reg Aw.fillAV Aw.fillOb Aw.elsOb Aw.splice Aw.firm Aw.cellish Aw.AV.shut Aw.shutAll Aw.Seq Aw.Blk Aw.retS_nil Aw.mapA Aw.mapL Aw.borA Aw.borOb Aw.allOb Aw.tupOf Aw.params Aw.Opd.of Array.toList Value.cells List.map_cons List.map_nil List.getD_cons_zero List.getD_cons_succ List.getD_nil List.length_cons List.length_nil List.take_succ_cons List.take_zero List.take_nil List.drop_zero List.drop_succ_cons List.drop_nil List.set_cons_zero List.set_cons_succ List.append_nil List.nil_append List.cons_append List.all_cons List.all_nil cond_false cond_true if_true if_false true_and and_true Bool.and_true Bool.true_and Option.map_some Option.map_none false_implies forall_const implies_true forall_eq imp_self Bool.cond_false_right Bool.cond_true_left beq_true beq_false Bool.not_eq_true' Bool.false_eq_true Nat.zero_add Nat.add_zero Aw.eqCells Aw.stopDraw Aw.skipS Aw.exactCap Aw.revealS Aw.srcEls Aw.srcSz
attribute [local go_sem ↓] Aw.look_nil Aw.look_ite Aw.wpL_nil Aw.wpL_op Aw.wpL_gd Aw.wpQ_nil Aw.wpQ_op Aw.wpQ_gd Aw.wpC_draw Aw.wpC_reg Aw.wpC_skip Aw.wpC_ret Aw.wpC_exit Aw.wpC_seq Aw.wpC_block Aw.wpC_loop Aw.wpC_cond Aw.stopAt_nil Aw.stopAt_cons Aw.wpD_skip Aw.wpD_ret Aw.wpD_exit Aw.wpD_region Aw.wpD_draw Aw.wpM_nil Aw.wpM_op Aw.wpM_gd Aw.wpD_seq Aw.wpD_block Aw.wpD_loop Aw.wpD_cond
theorem seq_comm (a b : ByteArray) : seq a b = seq b a := by
  rw [Bool.eq_iff_iff, seq_eq, seq_eq]
  exact ⟨Eq.symm, Eq.symm⟩
theorem index_nms (n : ByteArray) : ∀ (l : List Ale) (k : Nat), fIndex (fun a : Ale => seq a.name n) k l = sIndex n k (nms l)
  | [], k => rfl
  | a :: l, k => by
    have ih := index_nms n l (k + 1)
    unfold fIndex
    unfold nms at *
    rw [List.map_cons]
    unfold sIndex
    rw [ih, seq_comm]
/-- A board after some alarms. -/
structure Bok (l : List Ale) (last : Int) (i : Nat) : Prop where
  len : l.length ≤ i
  nam : ∀ a ∈ l, nm 8 a.name = true
  nod : (nms l).Nodup
  tim : Tim l
  tle : ∀ a ∈ l, a.time ≤ last
  ack : ∀ a ∈ l, a.ack = false
  l0 : 0 ≤ last
  l1 : last ≤ ((i / 2 : Nat) : Int)
theorem Bok.nil : Bok [] 0 0 := ⟨Nat.le_refl _, (fun a h => by cases h), List.nodup_nil, List.Pairwise.nil, fun a h => (by cases h), fun a h => (by cases h), Int.le_refl _, by decide⟩
theorem Bok.skip {l : List Ale} {last : Int} {i : Nat} (h : Bok l last i) : Bok l last (i + 1) :=
  ⟨Nat.le_succ_of_le h.len, h.nam, h.nod, h.tim, h.tle, h.ack, h.l0, by have := h.l1; omega⟩
theorem Bok.put {l : List Ale} {last : Int} {i : Nat} (h : Bok l last i) {n : ByteArray} (he : raiseE l last n ((i / 2 : Nat) : Int) = 0) : Bok (l ++ [⟨n, ((i / 2 : Nat) : Int), false⟩]) ((i / 2 : Nat) : Int) (i + 1) := by
  unfold raiseE at he
  split at he
  · cases he
  split at he
  · cases he
  split at he
  · cases he
  rename_i h1 h2 h3
  have hn : nm 8 n = true := by simpa using h1
  have hno : n ∉ nms l := fun hm => by
    rw [index_nms] at h3
    obtain ⟨j, hj, hi, -⟩ := sIndex_mem' hm
    rw [hi] at h3
    omega
  refine ⟨by rw [List.length_append]; exact Nat.succ_le_succ h.len, fun a ha => ?_, ?_, ?_, fun a ha => ?_, fun a ha => ?_, by omega, by omega⟩
  · rcases List.mem_append.1 ha with ha | ha
    · exact h.nam a ha
    · rw [List.mem_singleton.1 ha]; exact hn
  · unfold nms
    rw [List.map_append]
    refine List.nodup_append.2 ⟨h.nod, by simp, fun a ha b hb e => ?_⟩
    rw [List.map_singleton, List.mem_singleton] at hb
    subst hb e
    exact hno ha
  · unfold Tim
    rw [List.map_append]
    refine List.pairwise_append.2 ⟨h.tim, by simp, fun a ha b hb => ?_⟩
    rw [List.map_singleton, List.mem_singleton] at hb
    subst hb
    obtain ⟨x, hx, rfl⟩ := List.mem_map.1 ha
    exact Int.le_trans (h.tle x hx) h.l1
  · rcases List.mem_append.1 ha with ha | ha
    · exact Int.le_trans (h.tle a ha) h.l1
    · rw [List.mem_singleton.1 ha]; exact Int.le_refl _
  · rcases List.mem_append.1 ha with ha | ha
    · exact h.ack a ha
    · rw [List.mem_singleton.1 ha]
theorem Bok.drop {l : List Ale} {last : Int} {i : Nat} (h : Bok l last i) (j : Nat) : Bok (l.eraseIdx j) last i := by
  have hsub := List.eraseIdx_sublist l j
  refine ⟨Nat.le_trans hsub.length_le h.len, fun a ha => h.nam a (hsub.subset ha), (hsub.map Ale.name).nodup h.nod, ?_, fun a ha => h.tle a (hsub.subset ha), fun a ha => h.ack a (hsub.subset ha), h.l0, h.l1⟩
  exact List.Pairwise.sublist (hsub.map Ale.time) h.tim
theorem Bok.act {l : List Ale} {last : Int} {i : Nat} (h : Bok l last i) (hi : i ≤ 24) : actF (nms l) = 0 := by
  have hl := h.len
  have hgo : ∀ (m pre : List ByteArray), (∀ x ∈ m, nm 8 x = true) → m.Nodup → (∀ x ∈ m, x ∉ pre) → actGo pre m = 0 := by
    intro m
    induction m with
    | nil => intro pre _ _ _; rfl
    | cons x m ih =>
      intro pre h1 h2 h3
      have he : actE pre x = 0 := by
        unfold actE
        rw [if_neg (by simp [h1 x List.mem_cons_self]), if_neg]
        intro hc
        rw [any_seq] at hc
        exact h3 x List.mem_cons_self hc
      show (if actE pre x ≠ 0 then actE pre x else actGo (pre ++ [x]) m) = 0
      rw [if_neg (by simp [he])]
      rw [List.nodup_cons] at h2
      refine ih _ (fun y hy => h1 y (List.mem_cons_of_mem _ hy)) h2.2 fun y hy hc => ?_
      rcases List.mem_append.1 hc with hc | hc
      · exact h3 y (List.mem_cons_of_mem _ hy) hc
      · rw [List.mem_singleton.1 hc] at hy; exact h2.1 hy
  unfold actF
  rw [if_neg (by unfold nms; rw [List.length_map]; omega)]
  exact hgo _ [] (fun x hx => by obtain ⟨a, ha, rfl⟩ := List.mem_map.1 hx; exact h.nam a ha) h.nod fun x _ hc => by cases hc
/-- What Ack and Clear do to a board. -/
theorem no_alarm {l : List Ale} {n : ByteArray} (h : fIndex (fun a : Ale => seq a.name n) 0 l = -1) : ackE l n = 8 ∧ ackL l n = l ∧ clrE l n = 8 ∧ clrL l n = l := by
  have h1 : ackE l n = 8 := by unfold ackE; rw [h, if_pos (by decide)]
  refine ⟨h1, by unfold ackL; rw [h1, if_neg (by decide)], by unfold clrE; rw [h, if_pos (by decide)], by unfold clrL; rw [h, if_pos (by decide)]⟩
theorem nms_set {l : List Ale} {j : Nat} (hj : j < l.length) (b : Bool) : nms (l.set j ⟨l[j].name, l[j].time, b⟩) = nms l := by
  unfold nms
  rw [List.map_set]
  apply List.ext_getElem
  · simp
  · intro i h1 h2
    rw [List.getElem_set]
    split
    · rename_i e; subst e; simp
    · rfl
theorem one_alarm {l : List Ale} {n : ByteArray} {j : Nat} (h : fIndex (fun a : Ale => seq a.name n) 0 l = (j : Int)) (hj : j < l.length) (ha : l[j].ack = false) :
    ackE l n = 0 ∧ ackE (ackL l n) n = 11 ∧ ackL (ackL l n) n = ackL l n ∧ (ackL l n).length = l.length ∧ clrE (ackL l n) n = 0 ∧ clrL (ackL l n) n = l.eraseIdx j := by
  have hd : l.getD j default = l[j] := by rw [List.getD_eq_getElem?_getD, List.getElem?_eq_getElem hj]; rfl
  have e1 : ackE l n = 0 := by unfold ackE; rw [h, if_neg (by omega), Int.toNat_natCast, hd, ha, if_neg (by decide)]
  have e2 : ackL l n = l.set j ⟨l[j].name, l[j].time, true⟩ := by unfold ackL; rw [e1, if_pos rfl, h, Int.toNat_natCast, hd]
  have h2 : fIndex (fun a : Ale => seq a.name n) 0 (ackL l n) = (j : Int) := by rw [index_nms, e2, nms_set hj, ← index_nms]; exact h
  have hl : (ackL l n).length = l.length := by rw [e2, List.length_set]
  have hj2 : j < (ackL l n).length := by omega
  have hd2 : (ackL l n).getD j default = ⟨l[j].name, l[j].time, true⟩ := by
    rw [e2, List.getD_eq_getElem?_getD, List.getElem?_set_self (by omega)]; rfl
  have e3 : ackE (ackL l n) n = 11 := by unfold ackE; rw [h2, if_neg (by omega), Int.toNat_natCast, hd2, if_pos rfl]
  refine ⟨e1, e3, by rw [show ackL (ackL l n) n = _ from if_neg (by rw [e3]; decide)], hl, by unfold clrE; rw [h2, if_neg (by omega)], ?_⟩
  unfold clrL
  rw [h2, if_neg (by omega), Int.toNat_natCast, e2]
  rw [List.eraseIdx_eq_take_drop_succ, List.eraseIdx_eq_take_drop_succ, List.take_set_of_le (by omega), List.drop_set_of_lt (by omega)]
theorem srt_eq {a b : List ByteArray} (h : a.Perm b) : sortS a = sortS b :=
  List.Perm.eq_of_pairwise (le := fun a b => ltS b a = false) (fun a b _ _ h1 h2 => ltS_tri h2 h1) (sortS_sorted a) (sortS_sorted b) ((sortS_perm a).trans (h.trans (sortS_perm b).symm))
/-- The names shown, sorted, are the causes. -/
theorem shown_causes {cs : List Cau} {l : List Ale} {last : Int} {i : Nat} (h : Bok l last i) (hi : i ≤ 24) (hc : causesF cs = 0) {sh : List Ale} (hp : sh.Perm (l.filter (keepP cs l))) : sortS (nms sh) = causesL cs (nms l) := by
  have he : causesE cs (nms l) = 0 := causesE_zero.2 ⟨hc, h.act hi⟩
  have h1 : (nms sh).Perm (causesL cs (nms l)) := by
    refine (hp.map Ale.name).trans ?_
    have hs : (l.filter (keepP cs l)).map Ale.name = (nms l).filter fun x => (causesL cs (nms l)).any (seq x) := by
      unfold nms
      rw [List.filter_map]; rfl
    rw [hs]
    refine (List.perm_ext_iff_of_nodup (h.nod.filter _) (causes_nodup he)).2 fun x => ?_
    rw [List.mem_filter, any_seq]
    exact ⟨fun k => k.2, fun k => ⟨causesL_mem k, k⟩⟩
  rw [srt_eq h1]
  have h2 : causesL cs (nms l) = sortS (firstsF (reachF cs (nms l)) (nms l) (nms l).length) := by unfold causesL; rw [if_pos he]
  have h3 := sortS_perm (firstsF (reachF cs (nms l)) (nms l) (nms l).length)
  rw [← h2] at h3
  rw [srt_eq h3, ← h2]
theorem shown_times {cs : List Cau} {l : List Ale} {a b : List Ale} (ha : a.Perm (l.filter (keepP cs l))) (hb : b.Perm (l.filter (keepP cs l))) (ta : Tim a) (tb : Tim b) : a.map Ale.time = b.map Ale.time :=
  List.Perm.eq_of_pairwise (le := fun a b : Int => a ≤ b) (fun a b _ _ h1 h2 => Int.le_antisymm h1 h2) ta tb ((ha.trans hb.symm).map Ale.time)
end Go.Proofs.Ytoickofcmngdjaa
