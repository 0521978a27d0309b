/- Upkeep: plans, in numbers and lists. -/
import Derived.Test.YtncfffplnmlnfaaAwZf
import Derived.Test.YtncfffplnmlnfaaUpB
set_option linter.unusedVariables false
set_option linter.unusedSimpArgs false
namespace Go.Proofs.Ytncfffplnmlnfaa
open Go.Proofs.Ytncfffplnmlnfaa.Aw
attribute [local go_sem] Int.natCast_zero Int.natCast_one bne_self_eq_false beq_self_eq_true Bool.not_true Bool.not_false Option.isSome_none Option.isSome_some Aw.bkM_nil Option.getD_some Option.getD_none Nat.sub_zero Int.toNat_zero Aw.frzS Aw.frzT Aw.frzA Aw.frzL Aw.frzR Aw.frzO Aw.frzOL Aw.frzOT Aw.frzOR Aw.killS Aw.mapT Aw.mapR Aw.killM Aw.resAVs Aw.resAV Aw.quietOps Aw.wpP Aw.wpT Aw.wpS Aw.AOp.mild List.getElem?_cons_zero List.getElem?_cons_succ Bool.and_false Bool.and_self Bool.false_and Aw.opOb Aw.gdB Aw.Rnd Aw.subTm List.length_map Int.toNat_natCast and_self Aw.SeqC Aw.stops Aw.Ends Aw.looks Aw.renA Aw.renL Aw.renT Aw.renS Aw.wpO Aw.aop Aw.putTm Aw.St.ev Aw.St.put Aw.St.putO Aw.binAV Aw.intBin Aw.strBin Aw.pickAV Aw.optInt Aw.AV.strip Aw.AV.guard Aw.AV.cells Aw.gdOb Aw.AOp.opds Aw.AOp.still Aw.ptrCells Aw.St.reg Aw.fillAV Aw.fillOb Aw.elsOb Aw.splice Aw.firm Aw.cellish Aw.AV.shut Aw.shutAll Aw.Seq Aw.Blk Aw.retS_nil Aw.mapA Aw.mapL Aw.borA Aw.borOb Aw.allOb Aw.tupOf Aw.params Aw.Opd.of Array.toList Value.cells List.map_cons List.map_nil List.getD_cons_zero List.getD_cons_succ List.getD_nil List.length_cons List.length_nil List.take_succ_cons List.take_zero List.take_nil List.drop_zero List.drop_succ_cons List.drop_nil List.set_cons_zero List.set_cons_succ List.append_nil List.nil_append List.cons_append List.all_cons List.all_nil cond_false cond_true if_true if_false true_and and_true Bool.and_true Bool.true_and Option.map_some Option.map_none false_implies forall_const implies_true forall_eq imp_self Bool.cond_false_right Bool.cond_true_left beq_true beq_false Bool.not_eq_true' Bool.false_eq_true Nat.zero_add Nat.add_zero Aw.eqCells Aw.exactCap Aw.overEls Aw.revealS Aw.srcEls Aw.srcSz
attribute [local go_sem ↓] Aw.look_nil Aw.look_ite Aw.wpL_nil Aw.wpL_op Aw.wpL_gd Aw.wpQ_nil Aw.wpQ_op Aw.wpQ_gd Aw.wpC_draw Aw.wpC_reg Aw.wpC_skip Aw.wpC_ret Aw.wpC_exit Aw.wpC_seq Aw.wpC_block Aw.wpC_loop Aw.wpC_cond Aw.stopAt_nil Aw.stopAt_cons Aw.wpD_skip Aw.wpD_ret Aw.wpD_exit Aw.wpD_region Aw.wpD_draw Aw.wpM_nil Aw.wpM_op Aw.wpM_gd Aw.wpD_seq Aw.wpD_block Aw.wpD_loop Aw.wpD_cond
def costE (t : Task) (l : List Int) : Int := costN t l l.length
def OkPlan (t : Task) (l : List Int) : Prop := InWin t l ∧ ∀ k, k < l.length → allowedE t (l.take (k + 1)) = 0
def Full (t : Task) (l : List Int) : Prop := OkPlan t l ∧ l.length = t.jobs.length
theorem pat_take {l : List Int} {k i : Nat} (h : i < k) : pat (l.take k) i = pat l i := by
  unfold pat; rw [List.getD_eq_getElem?_getD, List.getD_eq_getElem?_getD, List.getElem?_take, if_pos h]
theorem pat_left {l m : List Int} {i : Nat} (h : i < l.length) : pat (l ++ m) i = pat l i := by
  unfold pat; rw [List.getD_eq_getElem?_getD, List.getD_eq_getElem?_getD, List.getElem?_append_left h]
theorem pat_mid {l m : List Int} {d : Int} : pat (l ++ d :: m) l.length = d := by
  unfold pat; rw [List.getD_eq_getElem?_getD, List.getElem?_append_right (Nat.le_refl _)]; simp
theorem costN_congr {t : Task} {l m : List Int} : ∀ {i : Nat}, (∀ j, j < i → pat l j = pat m j) → costN t l i = costN t m i
  | 0, _ => rfl
  | i + 1, h => by
    unfold costN
    rw [costN_congr fun j hj => h j (by omega), h i (by omega)]
theorem costN_mono {t : Task} {l : List Int} (hok : UpOk t) (h : InWin t l) {i : Nat} : ∀ {j : Nat}, i ≤ j → j ≤ l.length → costN t l i ≤ costN t l j
  | 0, hi, _ => by obtain rfl : i = 0 := by omega
                   exact Int.le_refl _
  | j + 1, hi, hj => by
    rcases Nat.eq_or_lt_of_le hi with e | e
    · rw [e]; exact Int.le_refl _
    · have h1 := costN_mono hok h (by omega : i ≤ j) (by omega)
      have h2 := term_bound hok h (by omega : j < l.length)
      have h3 : costN t l (j + 1) = costN t l j + (pat l j - (job t j).first) * (job t j).weight := rfl
      omega
theorem costE_prefix {t : Task} {l p : List Int} (hok : UpOk t) (h : InWin t p) (hp : l <+: p) : costE t l ≤ costE t p := by
  obtain ⟨m, rfl⟩ := hp
  have h1 : costN t l l.length = costN t (l ++ m) l.length := costN_congr fun j hj => (pat_left hj).symm
  unfold costE
  rw [h1]
  exact costN_mono hok h (by simp) (Nat.le_refl _)
theorem InWin.take {t : Task} {l : List Int} (h : InWin t l) (k : Nat) : InWin t (l.take k) := by
  refine ⟨by have := h.1; simp; omega, fun i hi => ?_⟩
  rw [List.length_take] at hi
  rw [pat_take (by omega)]
  exact h.2 i (by omega)
theorem OkPlan.take {t : Task} {l : List Int} (h : OkPlan t l) (k : Nat) : OkPlan t (l.take k) := by
  refine ⟨h.1.take k, fun i hi => ?_⟩
  rw [List.length_take] at hi
  rw [List.take_take, Nat.min_eq_left (by omega)]
  exact h.2 i (by omega)
theorem OkPlan.nil (t : Task) : OkPlan t [] := ⟨⟨by simp, fun i hi => by simp at hi⟩, fun k hk => by simp at hk⟩
theorem OkPlan.snoc {t : Task} {l : List Int} {d : Int} (h : OkPlan t l) (hl : l.length < t.jobs.length) (hd : (job t l.length).first ≤ d ∧ d ≤ (job t l.length).last) (ha : allowedE t (l ++ [d]) = 0) : OkPlan t (l ++ [d]) := by
  refine ⟨⟨by simp; omega, fun i hi => ?_⟩, fun k hk => ?_⟩
  · simp only [List.length_append, List.length_cons, List.length_nil] at hi
    rcases Nat.lt_or_ge i l.length with h1 | h1
    · rw [pat_left h1]; exact h.1.2 i h1
    · obtain rfl : i = l.length := by omega
      rw [pat_mid]; exact hd
  · simp only [List.length_append, List.length_cons, List.length_nil] at hk
    rcases Nat.lt_or_ge k l.length with h1 | h1
    · rw [List.take_append_of_le_length (by omega)]; exact h.2 k h1
    · rw [List.take_of_length_le (by simp; omega)]; exact ha
/-- A full plan that begins with l goes on with a day. -/
theorem Full.next {t : Task} {l p : List Int} (h : Full t p) (hp : l <+: p) (hl : l.length < t.jobs.length) :
    l ++ [pat p l.length] <+: p ∧ (job t l.length).first ≤ pat p l.length ∧ pat p l.length ≤ (job t l.length).last ∧ allowedE t (l ++ [pat p l.length]) = 0 := by
  have hlen := h.2
  have h1 := h.1.1.2 l.length (by omega)
  obtain ⟨m, rfl⟩ := hp
  cases m with
  | nil => simp at hlen; omega
  | cons d m =>
    rw [pat_mid] at h1 ⊢
    have h2 := h.1.2 l.length (by simp)
    have h3 : (l ++ d :: m).take (l.length + 1) = l ++ [d] := by rw [List.take_length_add_append]; rfl
    rw [h3] at h2
    exact ⟨⟨m, by simp⟩, h1.1, h1.2, h2⟩
/-- What a search gives. -/
structure SPost (t : Task) (l : List Int) (best r : Option (List Int)) (lim : List Int → Prop) : Prop where
  full : ∀ q, r = some q → Full t q
  none : r = none → best = none ∧ ∀ p, Full t p → l <+: p → lim p → False
  old : ∀ q b, r = some q → best = some b → costE t q ≤ costE t b
  new : ∀ q p, r = some q → Full t p → l <+: p → lim p → costE t q ≤ costE t p
def All : List Int → Prop := fun _ => True
def Under (k : Nat) (d : Int) : List Int → Prop := fun p => pat p k < d
theorem SPost.prune {t : Task} {l b : List Int} (hok : UpOk t) (hb : Full t b) (h : costE t b ≤ costE t l) : SPost t l (some b) (some b) All :=
  ⟨fun q hq => Option.some.inj hq ▸ hb, fun h => (by cases h), fun q b' h1 h2 => by rw [← Option.some.inj h1, ← Option.some.inj h2]; exact Int.le_refl _,
    fun q p h1 hp hlp _ => by rw [← Option.some.inj h1]; exact Int.le_trans h (costE_prefix hok hp.1.1 hlp)⟩
theorem SPost.leaf {t : Task} {l : List Int} {best : Option (List Int)} (hl : Full t l) (h : ∀ b, best = some b → costE t l ≤ costE t b) : SPost t l best (some l) All :=
  ⟨fun q hq => Option.some.inj hq ▸ hl, fun h => (by cases h), fun q b h1 h2 => by rw [← Option.some.inj h1]; exact h b h2, fun q p h1 hp hlp _ => by
    have h2 : l = p := hlp.eq_of_length (by rw [hl.2, hp.2])
    rw [← Option.some.inj h1, h2]; exact Int.le_refl _⟩
theorem SPost.start {t : Task} {l : List Int} {best : Option (List Int)} (hb : ∀ b, best = some b → Full t b) (hl : l.length < t.jobs.length) : SPost t l best best (Under l.length (job t l.length).first) :=
  ⟨hb, fun h => ⟨h, fun p hp hlp hu => by have := hp.next hlp hl; unfold Under at hu; omega⟩, fun q b h1 h2 => by rw [h1] at h2; rw [← Option.some.inj h2]; exact Int.le_refl _,
    fun q p h1 hp hlp hu => by have := hp.next hlp hl; unfold Under at hu; omega⟩
theorem SPost.step {t : Task} {l : List Int} {d : Int} {best r r' : Option (List Int)} (hl : l.length < t.jobs.length) (h : SPost t l best r (Under l.length d)) (k : SPost t (l ++ [d]) r r' All) : SPost t l best r' (Under l.length (d + 1)) := by
  have key : ∀ p, Full t p → l <+: p → Under l.length (d + 1) p → Under l.length d p ∨ l ++ [d] <+: p := fun p hp hlp hu => by
    unfold Under at hu ⊢
    by_cases h1 : pat p l.length < d
    · exact .inl h1
    · right
      have h2 := (hp.next hlp hl).1
      rw [show pat p l.length = d by omega] at h2
      exact h2
  refine ⟨k.full, fun hn => ?_, fun q b h1 h2 => ?_, fun q p h1 hp hlp hu => ?_⟩
  · obtain ⟨h1, h2⟩ := k.none hn
    obtain ⟨h3, h4⟩ := h.none h1
    refine ⟨h3, fun p hp hlp hu => ?_⟩
    rcases key p hp hlp hu with h5 | h5
    · exact h4 p hp hlp h5
    · exact h2 p hp h5 trivial
  · cases hr : r with
    | none => have := (h.none hr).1; rw [this] at h2; cases h2
    | some r0 => exact Int.le_trans (k.old q r0 h1 hr) (h.old r0 b hr h2)
  · rcases key p hp hlp hu with h5 | h5
    · cases hr : r with
      | none => exact ((h.none hr).2 p hp hlp h5).elim
      | some r0 => exact Int.le_trans (k.old q r0 h1 hr) (h.new r0 p hr hp hlp h5)
    · exact k.new q p h1 hp h5 trivial
theorem SPost.skip {t : Task} {l : List Int} {d : Int} {best r : Option (List Int)} (hl : l.length < t.jobs.length) (h : SPost t l best r (Under l.length d)) (ha : allowedE t (l ++ [d]) ≠ 0) : SPost t l best r (Under l.length (d + 1)) := by
  have key : ∀ p, Full t p → l <+: p → Under l.length (d + 1) p → Under l.length d p := fun p hp hlp hu => by
    unfold Under at hu ⊢
    by_cases h1 : pat p l.length < d
    · exact h1
    · have h2 := (hp.next hlp hl).2.2.2
      rw [show pat p l.length = d by omega] at h2
      exact absurd h2 ha
  exact ⟨h.full, fun hn => ⟨(h.none hn).1, fun p hp hlp hu => (h.none hn).2 p hp hlp (key p hp hlp hu)⟩, h.old, fun q p h1 hp hlp hu => h.new q p h1 hp hlp (key p hp hlp hu)⟩
theorem SPost.done {t : Task} {l : List Int} {d : Int} {best r : Option (List Int)} (hl : l.length < t.jobs.length) (h : SPost t l best r (Under l.length d)) (hd : (job t l.length).last < d) : SPost t l best r All := by
  have key : ∀ p, Full t p → l <+: p → Under l.length d p := fun p hp hlp => by
    have := hp.next hlp hl; unfold Under; omega
  exact ⟨h.full, fun hn => ⟨(h.none hn).1, fun p hp hlp _ => (h.none hn).2 p hp hlp (key p hp hlp)⟩, h.old, fun q p h1 hp hlp _ => h.new q p h1 hp hlp (key p hp hlp)⟩
end Go.Proofs.Ytncfffplnmlnfaa
