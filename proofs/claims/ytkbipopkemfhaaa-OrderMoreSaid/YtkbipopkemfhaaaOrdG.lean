/- Orders: the search, and what it finds. -/
import Derived.Test.YtkbipopkemfhaaaAwZg
import Derived.Test.YtkbipopkemfhaaaOrdF
set_option linter.unusedVariables false
set_option linter.unusedSimpArgs false
namespace Go.Proofs.Ytkbipopkemfhaaa
open Go.Proofs.Ytkbipopkemfhaaa.Aw
attribute [local go_sem] Int.natCast_zero Int.natCast_one bne_self_eq_false beq_self_eq_true Bool.not_true Bool.not_false Option.isSome_none Option.isSome_some Aw.bkM_nil Option.getD_some Option.getD_none Nat.sub_zero Int.toNat_zero Aw.frzS Aw.frzT Aw.frzA Aw.frzL Aw.frzR Aw.frzO Aw.frzOL Aw.frzOT Aw.frzOR Aw.killS Aw.mapT Aw.mapR Aw.killM Aw.resAVs Aw.resAV Aw.quietOps Aw.wpP Aw.wpT Aw.wpS Aw.AOp.mild List.getElem?_cons_zero List.getElem?_cons_succ Bool.and_false Bool.and_self Bool.false_and Aw.opOb Aw.gdB Aw.Rnd Aw.subTm List.length_map Int.toNat_natCast and_self Aw.SeqC Aw.stops Aw.Ends Aw.looks Aw.renA Aw.renL Aw.renT Aw.renS Aw.wpO Aw.aop Aw.putTm Aw.St.ev Aw.St.put Aw.St.putO Aw.binAV Aw.intBin Aw.strBin Aw.pickAV Aw.optInt Aw.AV.strip Aw.AV.guard Aw.AV.cells Aw.gdOb Aw.AOp.opds Aw.AOp.still Aw.ptrCells Aw.St.reg Aw.fillAV Aw.fillOb Aw.elsOb Aw.splice Aw.firm Aw.cellish Aw.AV.shut Aw.shutAll Aw.Seq Aw.Blk Aw.retS_nil Aw.mapA Aw.mapL Aw.borA Aw.borOb Aw.allOb Aw.tupOf Aw.params Aw.Opd.of Array.toList Value.cells List.map_cons List.map_nil List.getD_cons_zero List.getD_cons_succ List.getD_nil List.length_cons List.length_nil List.take_succ_cons List.take_zero List.take_nil List.drop_zero List.drop_succ_cons List.drop_nil List.set_cons_zero List.set_cons_succ List.append_nil List.nil_append List.cons_append List.all_cons List.all_nil cond_false cond_true if_true if_false true_and and_true Bool.and_true Bool.true_and Option.map_some Option.map_none false_implies forall_const implies_true forall_eq imp_self Bool.cond_false_right Bool.cond_true_left beq_true beq_false Bool.not_eq_true' Bool.false_eq_true Nat.zero_add Nat.add_zero Aw.eqCells Aw.stopDraw Aw.skipS Aw.exactCap Aw.revealS Aw.srcEls Aw.srcSz
attribute [local go_sem ↓] Aw.look_nil Aw.look_ite Aw.wpL_nil Aw.wpL_op Aw.wpL_gd Aw.wpQ_nil Aw.wpQ_op Aw.wpQ_gd Aw.wpC_draw Aw.wpC_reg Aw.wpC_skip Aw.wpC_ret Aw.wpC_exit Aw.wpC_seq Aw.wpC_block Aw.wpC_loop Aw.wpC_cond Aw.stopAt_nil Aw.stopAt_cons Aw.wpD_skip Aw.wpD_ret Aw.wpD_exit Aw.wpD_region Aw.wpD_draw Aw.wpM_nil Aw.wpM_op Aw.wpM_gd Aw.wpD_seq Aw.wpD_block Aw.wpD_loop Aw.wpD_cond
theorem flip_flip (n k : Nat) : flip (flip n k) k = n := by unfold flip; rw [Nat.xor_assoc, Nat.xor_self, Nat.xor_zero]
theorem flip_lt {n k L : Nat} (hn : n < 2 ^ L) (hk : k < L) : flip n k < 2 ^ L := Nat.xor_lt_two_pow hn (Nat.pow_lt_pow_right (by decide) hk)
def negs (far : List Int) : Nat := far.countP fun x => decide (x < 0)
/-- One switch tried. -/
def stepK (may : Nat → Nat → Bool) (n : Nat) (fq : List Int × List Nat) (k : Nat) : List Int × List Nat :=
  if fq.1.getD (flip n k) 0 < 0 ∧ may (flip n k) k = true then (fq.1.set (flip n k) (IntKind.i64.wrap (fq.1.getD n 0 + 1)), fq.2 ++ [flip n k]) else fq
def stepN (may : Nat → Nat → Bool) (n i : Nat) (fq : List Int × List Nat) : List Int × List Nat := (List.range i).foldl (stepK may n) fq
theorem stepN_succ (may : Nat → Nat → Bool) (n i : Nat) (fq : List Int × List Nat) : stepN may n (i + 1) fq = stepK may n (stepN may n i fq) i := by
  unfold stepN
  rw [List.range_succ, List.foldl_append]; rfl
/-- The search. -/
def bfsGo (may : Nat → Nat → Bool) (L : Nat) : Nat → List Int → List Nat → List Int
  | 0, far, _ => far
  | _ + 1, far, [] => far
  | f + 1, far, n :: q => bfsGo may L f (stepN may n L (far, n :: q)).1 (stepN may n L (far, n :: q)).2.tail
def far0 (L goal : Nat) : List Int := (List.replicate (2 ^ L) (-1)).set goal 0
def bfsF (may : Nat → Nat → Bool) (L goal : Nat) : List Int := bfsGo may L (2 ^ L) (far0 L goal) [goal]
/-- What holds of the distances and the queue, whichever is at work. -/
structure BB (may : Nat → Nat → Bool) (L goal : Nat) (far : List Int) (q : List Nat) : Prop where
  len : far.length = 2 ^ L
  qin : ∀ x ∈ q, x < 2 ^ L ∧ 0 ≤ far.getD x 0
  bnd : ∀ x, x < 2 ^ L → far.getD x 0 = -1 ∨ (0 ≤ far.getD x 0 ∧ far.getD x 0 + negs far < (2 ^ L : Nat))
  g0 : goal < 2 ^ L ∧ far.getD goal 0 = 0
  z : ∀ x, x < 2 ^ L → far.getD x 0 = 0 → x = goal
  desc : ∀ x, x < 2 ^ L → 0 < far.getD x 0 → ∃ k, k < L ∧ may x k = true ∧ 0 ≤ far.getD (flip x k) 0 ∧ far.getD (flip x k) 0 + 1 = far.getD x 0
  clos : ∀ y, y < 2 ^ L → 0 ≤ far.getD y 0 → y ∈ q ∨ ∀ k, k < L → may (flip y k) k = true → 0 ≤ far.getD (flip y k) 0 ∧ far.getD (flip y k) 0 ≤ far.getD y 0 + 1
  srt : q.Pairwise fun a b => far.getD a 0 ≤ far.getD b 0
/-- While n's switches are tried. -/
structure BJ (may : Nat → Nat → Bool) (L goal : Nat) (far : List Int) (q : List Nat) (n i : Nat) : Prop extends BB may L goal far q where
  hd : ∃ q', q = n :: q'
  part : ∀ k, k < i → may (flip n k) k = true → 0 ≤ far.getD (flip n k) 0 ∧ far.getD (flip n k) 0 ≤ far.getD n 0 + 1
  top : ∀ x, x < 2 ^ L → far.getD x 0 ≤ far.getD n 0 + 1
structure BO (may : Nat → Nat → Bool) (L goal : Nat) (far : List Int) (q : List Nat) : Prop extends BB may L goal far q where
  top : ∀ h q', q = h :: q' → ∀ x, x < 2 ^ L → far.getD x 0 ≤ far.getD h 0 + 1
theorem getD_set {far : List Int} {m x : Nat} {v : Int} (hm : m < far.length) : (far.set m v).getD x 0 = if x = m then v else far.getD x 0 := by
  rw [List.getD_eq_getElem?_getD, List.getD_eq_getElem?_getD, List.getElem?_set]
  by_cases e : m = x
  · subst e; simp [hm]
  · rw [if_neg e, if_neg (Ne.symm e)]
theorem negs_set {far : List Int} {m : Nat} {v : Int} (hm : m < far.length) (h : far.getD m 0 < 0) (hv : 0 ≤ v) : negs (far.set m v) + 1 = negs far := by
  unfold negs
  rw [List.getD_eq_getElem?_getD, List.getElem?_eq_getElem hm] at h
  simp only [Option.getD_some] at h
  rw [List.countP_set hm]
  have h1 : decide (far[m] < 0) = true := decide_eq_true h
  have h2 : decide (v < 0) = false := decide_eq_false (by omega)
  have h3 : 0 < far.countP fun x => decide (x < 0) := List.countP_pos_iff.2 ⟨far[m], List.getElem_mem hm, h1⟩
  simp only [h1, h2, if_true]
  have : (if (false : Bool) = true then 1 else 0) = 0 := rfl
  omega
theorem BJ.step {may : Nat → Nat → Bool} {L goal : Nat} {far : List Int} {q : List Nat} {n i : Nat} (hL : L ≤ 8) (h : BJ may L goal far q n i) (hi : i < L) :
    BJ may L goal (stepK may n (far, q) i).1 (stepK may n (far, q) i).2 n (i + 1) ∧ negs (stepK may n (far, q) i).1 + (stepK may n (far, q) i).2.length = negs far + q.length := by
  obtain ⟨q', rfl⟩ := h.hd
  have hn := h.qin n List.mem_cons_self
  have hm := flip_lt hn.1 hi
  have h256 := pow8 hL
  unfold stepK
  dsimp only
  split
  · rename_i hc
    obtain ⟨hc1, hc2⟩ := hc
    have hml : flip n i < far.length := by rw [h.len]; exact hm
    have hb := h.bnd n hn.1
    have hw : IntKind.i64.wrap (far.getD n 0 + 1) = far.getD n 0 + 1 := w64 (by omega) (by omega)
    rw [hw]
    have hneg := negs_set (v := far.getD n 0 + 1) hml hc1 (by omega)
    have hg : ∀ x, (far.set (flip n i) (far.getD n 0 + 1)).getD x 0 = if x = flip n i then far.getD n 0 + 1 else far.getD x 0 := fun x => getD_set hml
    have hge : ∀ x, 0 ≤ far.getD x 0 → (far.set (flip n i) (far.getD n 0 + 1)).getD x 0 = far.getD x 0 := fun x hx => by
      rw [hg, if_neg fun e => by rw [e] at hx; omega]
    have hgm : (far.set (flip n i) (far.getD n 0 + 1)).getD (flip n i) 0 = far.getD n 0 + 1 := by rw [hg, if_pos rfl]
    have hlen' : (far.set (flip n i) (far.getD n 0 + 1)).length = far.length := List.length_set
    generalize far.set (flip n i) (far.getD n 0 + 1) = far' at *
    have hln : far'.length = 2 ^ L := by rw [← h.len]; exact hlen'
    have hcase : ∀ x, x < 2 ^ L → 0 ≤ far'.getD x 0 → x = flip n i ∨ (0 ≤ far.getD x 0 ∧ far'.getD x 0 = far.getD x 0) := fun x hx h0 => by
      by_cases e : x = flip n i
      · exact .inl e
      · right
        have := hg x
        rw [if_neg e] at this
        exact ⟨by omega, this⟩
    have hfn := hge n hn.2
    show BJ may L goal far' (n :: q' ++ [flip n i]) n (i + 1) ∧ negs far' + (n :: q' ++ [flip n i]).length = negs far + (n :: q').length
    refine ⟨⟨⟨hln, fun x hx => ?_, fun x hx => ?_, ⟨h.g0.1, ?_⟩, fun x hx h0 => ?_, fun x hx h0 => ?_, fun y hy h0 => ?_, ?_⟩, ⟨q' ++ [flip n i], rfl⟩, fun k hk hmk => ?_, fun x hx => ?_⟩, ?_⟩
    · rcases List.mem_append.1 hx with hx | hx
      · obtain ⟨g1, g2⟩ := h.qin x hx
        exact ⟨g1, by rw [hge x g2]; exact g2⟩
      · rw [List.mem_singleton.1 hx]
        exact ⟨hm, by rw [hgm]; omega⟩
    · rw [hg]
      split
      · right; omega
      · rcases h.bnd x hx with g | g
        · exact .inl g
        · right; omega
    · rw [hge _ (by rw [h.g0.2]; omega)]; exact h.g0.2
    · rcases hcase x hx (by omega) with rfl | ⟨g1, g2⟩
      · rw [hgm] at h0; omega
      · rw [g2] at h0; exact h.z x hx h0
    · rcases hcase x hx (by omega) with rfl | ⟨g1, g2⟩
      · exact ⟨i, hi, hc2, by rw [flip_flip, hfn]; exact hn.2, by rw [flip_flip, hfn, hgm]⟩
      · rw [g2] at h0 ⊢
        obtain ⟨k, g3, g4, g5, g6⟩ := h.desc x hx h0
        exact ⟨k, g3, g4, by rw [hge _ g5]; exact g5, by rw [hge _ g5]; exact g6⟩
    · rcases hcase y hy h0 with rfl | ⟨g1, g2⟩
      · exact .inl (List.mem_append_right _ List.mem_cons_self)
      · rcases h.clos y hy g1 with g | g
        · exact .inl (List.mem_append_left _ g)
        · right
          intro k hk hmk
          obtain ⟨g3, g4⟩ := g k hk hmk
          rw [hge _ g3, g2]; exact ⟨g3, g4⟩
    · refine List.pairwise_append.2 ⟨?_, List.pairwise_singleton _ _, fun a ha b hb => ?_⟩
      · refine List.Pairwise.imp_of_mem (fun {a b} ha hb hab => ?_) h.srt
        rw [hge a (h.qin a ha).2, hge b (h.qin b hb).2]; exact hab
      · rw [List.mem_singleton.1 hb, hgm, hge a (h.qin a ha).2]
        exact h.top a (h.qin a ha).1
    · rcases Nat.lt_or_eq_of_le (Nat.le_of_lt_succ hk) with hk | rfl
      · obtain ⟨g1, g2⟩ := h.part k hk hmk
        rw [hge _ g1, hfn]; exact ⟨g1, g2⟩
      · rw [hgm, hfn]; omega
    · rw [hg, hfn]
      split
      · omega
      · exact h.top x hx
    · rw [List.length_append, List.length_singleton]; omega
  · rename_i hc
    refine ⟨{ h with part := fun k hk hmk => ?_ }, rfl⟩
    rcases Nat.lt_or_eq_of_le (Nat.le_of_lt_succ hk) with hk | rfl
    · exact h.part k hk hmk
    · have := h.top _ hm
      have h2 : ¬ far.getD (flip n k) 0 < 0 := fun h3 => hc ⟨h3, hmk⟩
      exact ⟨by have h4 : 0 ≤ far.getD (flip n k) 0 := by omega
                exact h4, this⟩
theorem BJ.run {may : Nat → Nat → Bool} {L goal : Nat} {far : List Int} {q : List Nat} {n : Nat} (hL : L ≤ 8) (h : BJ may L goal far q n 0) : ∀ i, i ≤ L →
    BJ may L goal (stepN may n i (far, q)).1 (stepN may n i (far, q)).2 n i ∧ negs (stepN may n i (far, q)).1 + (stepN may n i (far, q)).2.length = negs far + q.length
  | 0, _ => ⟨h, rfl⟩
  | i + 1, hi => by
    obtain ⟨h1, h2⟩ := BJ.run hL h i (by omega)
    rw [stepN_succ]
    obtain ⟨h3, h4⟩ := h1.step hL (by omega)
    exact ⟨h3, h4.trans h2⟩
theorem BO.start {may : Nat → Nat → Bool} {L goal : Nat} {far : List Int} {n : Nat} {q : List Nat} (h : BO may L goal far (n :: q)) : BJ may L goal far (n :: q) n 0 :=
  { h.toBB with hd := ⟨q, rfl⟩, part := fun k hk => by omega, top := h.top n q rfl }
theorem BJ.done {may : Nat → Nat → Bool} {L goal : Nat} {far : List Int} {n : Nat} {q : List Nat} (h : BJ may L goal far q n L) : BO may L goal far q.tail := by
  obtain ⟨q', rfl⟩ := h.hd
  rw [List.tail_cons]
  have hs := List.pairwise_cons.1 h.srt
  refine { h.toBB with qin := fun x hx => h.qin x (List.mem_cons_of_mem _ hx), clos := fun y hy h0 => ?_, srt := hs.2, top := fun a q2 e x hx => ?_ }
  · rcases h.clos y hy h0 with g | g
    · rcases List.mem_cons.1 g with rfl | g
      · exact .inr h.part
      · exact .inl g
    · exact .inr g
  · have h1 := hs.1 a (by rw [e]; exact List.mem_cons_self)
    have h2 := h.top x hx
    omega
theorem BO.step {may : Nat → Nat → Bool} {L goal : Nat} {far : List Int} {n : Nat} {q : List Nat} (hL : L ≤ 8) (h : BO may L goal far (n :: q)) :
    BO may L goal (stepN may n L (far, n :: q)).1 (stepN may n L (far, n :: q)).2.tail ∧ negs (stepN may n L (far, n :: q)).1 + (stepN may n L (far, n :: q)).2.tail.length + 1 = negs far + (n :: q).length := by
  obtain ⟨h1, h2⟩ := h.start.run hL L (Nat.le_refl _)
  refine ⟨h1.done, ?_⟩
  obtain ⟨q', hq⟩ := h1.hd
  rw [hq] at h2 ⊢
  rw [List.tail_cons]
  simp only [List.length_cons] at *
  omega
theorem bfs_ok {may : Nat → Nat → Bool} {L goal : Nat} (hL : L ≤ 8) : ∀ (f : Nat) (far : List Int) (q : List Nat), BO may L goal far q → negs far + q.length ≤ f → BO may L goal (bfsGo may L f far q) []
  | 0, far, q, h, hf => by
    have : q = [] := List.eq_nil_of_length_eq_zero (by omega)
    subst this; exact h
  | f + 1, far, [], h, _ => h
  | f + 1, far, n :: q, h, hf => by
    obtain ⟨h1, h2⟩ := h.step hL
    exact bfs_ok hL f _ _ h1 (by omega)
theorem negs_rep (n : Nat) : negs (List.replicate n (-1)) = n := by
  unfold negs
  rw [List.countP_replicate]; rfl
theorem far0_negs {L goal : Nat} (hg : goal < 2 ^ L) : negs (far0 L goal) + 1 = 2 ^ L := by
  unfold far0
  have := negs_set (far := List.replicate (2 ^ L) (-1)) (m := goal) (v := 0) (by simpa using hg) (by
    rw [List.getD_eq_getElem?_getD, List.getElem?_replicate, if_pos hg]; decide) (by decide)
  rw [negs_rep] at this; exact this
theorem far0_get {L goal x : Nat} (hg : goal < 2 ^ L) (hx : x < 2 ^ L) : (far0 L goal).getD x 0 = if x = goal then 0 else -1 := by
  unfold far0
  rw [getD_set (by simpa using hg)]
  split
  · rfl
  · rw [List.getD_eq_getElem?_getD, List.getElem?_replicate, if_pos hx]; rfl
theorem BO.init (may : Nat → Nat → Bool) {L goal : Nat} (hg : goal < 2 ^ L) : BO may L goal (far0 L goal) [goal] := by
  have h0 : (far0 L goal).getD goal 0 = 0 := by rw [far0_get hg hg, if_pos rfl]
  have hn := far0_negs hg
  refine ⟨⟨by unfold far0; simp, fun x hx => ?_, fun x hx => ?_, ⟨hg, h0⟩, fun x hx h => ?_, fun x hx h => ?_, fun y hy h => ?_, List.pairwise_singleton _ _⟩, fun a q' e x hx => ?_⟩
  · rw [List.mem_singleton.1 hx]; exact ⟨hg, by omega⟩
  · rw [far0_get hg hx]
    split
    · right; omega
    · left; rfl
  · rw [far0_get hg hx] at h
    split at h
    · assumption
    · cases h
  · rw [far0_get hg hx] at h
    split at h <;> omega
  · rw [far0_get hg hy] at h
    split at h
    · rename_i e; rw [e]; exact .inl List.mem_cons_self
    · omega
  · obtain ⟨rfl, rfl⟩ : goal = a ∧ [] = q' := by injection e with e1 e2; exact ⟨e1, e2⟩
    rw [h0, far0_get hg hx]
    split <;> omega
theorem bfsF_ok (may : Nat → Nat → Bool) {L goal : Nat} (hL : L ≤ 8) (hg : goal < 2 ^ L) : BO may L goal (bfsF may L goal) [] :=
  bfs_ok hL _ _ _ (BO.init may hg) (by have := far0_negs hg; simp only [List.length_cons, List.length_nil]; omega)
/-- A way of so many safe steps. -/
inductive Steps (may : Nat → Nat → Bool) (L : Nat) : Nat → Nat → Nat → Prop
  | nil (a : Nat) : Steps may L a a 0
  | cons {a b d k : Nat} (hk : k < L) (hm : may a k = true) (h : Steps may L (flip a k) b d) : Steps may L a b (d + 1)
theorem Steps.trans {may : Nat → Nat → Bool} {L a b c d e : Nat} (h : Steps may L a b d) (h2 : Steps may L b c e) : Steps may L a c (d + e) := by
  induction h with
  | nil a => rw [Nat.zero_add]; exact h2
  | cons hk hm _ ih => rw [Nat.add_right_comm]; exact .cons hk hm (ih h2)
theorem Steps.lt {may : Nat → Nat → Bool} {L a b d : Nat} (h : Steps may L a b d) (ha : a < 2 ^ L) : b < 2 ^ L := by
  induction h with
  | nil a => exact ha
  | cons hk hm _ ih => exact ih (flip_lt ha hk)
theorem BO.far_le {may : Nat → Nat → Bool} {L goal : Nat} {far : List Int} (h : BO may L goal far []) {a d : Nat} (hs : Steps may L a goal d) (ha : a < 2 ^ L) : 0 ≤ far.getD a 0 ∧ far.getD a 0 ≤ d := by
  generalize hg : goal = g at hs
  induction hs with
  | nil a => subst hg; rw [h.g0.2]; omega
  | @cons a b d k hk hm hs ih =>
    subst hg
    obtain ⟨h1, h2⟩ := ih (flip_lt ha hk) rfl
    rcases h.clos (flip a k) (flip_lt ha hk) h1 with g | g
    · cases g
    · have := g k hk (by rw [flip_flip]; exact hm)
      rw [flip_flip] at this
      omega
theorem BO.steps {may : Nat → Nat → Bool} {L goal : Nat} {far : List Int} (h : BO may L goal far []) : ∀ (d a : Nat), a < 2 ^ L → far.getD a 0 = d → Steps may L a goal d
  | 0, a, ha, hd => by rw [h.z a ha hd]; exact .nil _
  | d + 1, a, ha, hd => by
    obtain ⟨k, h1, h2, h3, h4⟩ := h.desc a ha (by omega)
    exact .cons h1 h2 (h.steps d _ (flip_lt ha h1) (by omega))
end Go.Proofs.Ytkbipopkemfhaaa
