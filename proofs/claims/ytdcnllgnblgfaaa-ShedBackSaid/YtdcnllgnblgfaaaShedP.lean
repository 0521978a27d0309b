/- What a Shed does, in numbers and lists. -/
import Derived.Test.YtdcnllgnblgfaaaShedA
set_option linter.unusedVariables false
set_option linter.unusedSimpArgs false
namespace Go.Proofs.Ytdcnllgnblgfaaa
open Go.Proofs.Ytdcnllgnblgfaaa.Aw
attribute [local go_sem] Int.natCast_zero Int.natCast_one bne_self_eq_false beq_self_eq_true Bool.not_true Bool.not_false Option.isSome_none Option.isSome_some Aw.bkM_nil Option.getD_some Option.getD_none Nat.sub_zero Int.toNat_zero Aw.frzS Aw.frzT Aw.frzA Aw.frzL Aw.frzR Aw.frzO Aw.frzOL Aw.frzOT Aw.frzOR Aw.killS Aw.mapT Aw.mapR Aw.killM Aw.resAVs Aw.resAV Aw.quietOps Aw.wpP Aw.wpT Aw.wpS Aw.AOp.mild List.getElem?_cons_zero List.getElem?_cons_succ Bool.and_false Bool.and_self Bool.false_and Aw.opOb Aw.gdB Aw.Rnd Aw.subTm List.length_map Int.toNat_natCast and_self Aw.SeqC Aw.stops Aw.Ends Aw.looks Aw.renA Aw.renL Aw.renT Aw.renS Aw.wpO Aw.aop Aw.putTm Aw.St.ev Aw.St.put Aw.St.putO Aw.binAV Aw.intBin Aw.strBin Aw.pickAV Aw.optInt Aw.AV.strip Aw.AV.guard Aw.AV.cells Aw.gdOb Aw.AOp.opds Aw.AOp.still Aw.ptrCells Aw.St.reg Aw.fillAV Aw.fillOb Aw.elsOb Aw.splice Aw.firm Aw.cellish Aw.AV.shut Aw.shutAll Aw.Seq Aw.Blk Aw.retS_nil Aw.mapA Aw.mapL Aw.borA Aw.borOb Aw.allOb Aw.tupOf Aw.params Aw.Opd.of Array.toList Value.cells List.map_cons List.map_nil List.getD_cons_zero List.getD_cons_succ List.getD_nil List.length_cons List.length_nil List.take_succ_cons List.take_zero List.take_nil List.drop_zero List.drop_succ_cons List.drop_nil List.set_cons_zero List.set_cons_succ List.append_nil List.nil_append List.cons_append List.all_cons List.all_nil cond_false cond_true if_true if_false true_and and_true Bool.and_true Bool.true_and Option.map_some Option.map_none false_implies forall_const implies_true forall_eq imp_self Bool.cond_false_right Bool.cond_true_left beq_true beq_false Bool.not_eq_true' Bool.false_eq_true Nat.zero_add Nat.add_zero Aw.eqCells Aw.exactCap Aw.overEls Aw.revealS Aw.srcEls Aw.srcSz
attribute [local go_sem ↓] Aw.look_nil Aw.look_ite Aw.wpL_nil Aw.wpL_op Aw.wpL_gd Aw.wpQ_nil Aw.wpQ_op Aw.wpQ_gd Aw.wpC_draw Aw.wpC_reg Aw.wpC_skip Aw.wpC_ret Aw.wpC_exit Aw.wpC_seq Aw.wpC_block Aw.wpC_loop Aw.wpC_cond Aw.stopAt_nil Aw.stopAt_cons Aw.wpD_skip Aw.wpD_ret Aw.wpD_exit Aw.wpD_region Aw.wpD_draw Aw.wpM_nil Aw.wpM_op Aw.wpM_gd Aw.wpD_seq Aw.wpD_block Aw.wpD_loop Aw.wpD_cond
instance : Inhabited Stage := ⟨⟨0, 0, none, false, []⟩⟩
/-- How long it was too low, which stages acted, in which order. -/
structure Sh where
  lo : Nat → Int
  ac : Nat → Bool
  ord : List Nat
abbrev nth (st : List Stage) (k : Nat) : Stage := st.getD k default
def nlo (f : Int) (s : Stage) (n : Int) : Int := if s.below ≤ f then 0 else if n < s.wait then n + 1 else n
def actB (f : Int) (s : Stage) (n : Int) (a : Bool) : Bool := (nlo f s n == s.wait) && !a
def actL (st : List Stage) (f : Int) (x : Sh) (i : Nat) : List Nat := (List.range i).filter fun k => actB f (nth st k) (x.lo k) (x.ac k)
def shStep (st : List Stage) (f : Int) (x : Sh) : Sh := ⟨fun k => nlo f (nth st k) (x.lo k), fun k => x.ac k || actB f (nth st k) (x.lo k) (x.ac k), x.ord ++ actL st f x st.length⟩
def loadsOf (st : List Stage) (l : List Nat) : List ByteArray := l.flatMap fun k => (nth st k).loads
def shBack (x : Sh) : Sh := match x.ord.getLast? with
  | none => x
  | some k => ⟨fun j => if j = k then 0 else x.lo j, fun j => if j = k then false else x.ac j, x.ord.dropLast⟩
def sh0 : Sh := ⟨fun _ => 0, fun _ => false, []⟩
def okF (f : Int) : Bool := decide (-10000 ≤ f) && decide (f ≤ 10000)
def shAny (st : List Stage) (f : Int) (x : Sh) : Sh := if okF f then shStep st f x else x

/-- A step when the first i stages were looked at. -/
def mid (st : List Stage) (f : Int) (x : Sh) (i : Nat) : Sh := ⟨fun k => if k < i then nlo f (nth st k) (x.lo k) else x.lo k, fun k => if k < i then x.ac k || actB f (nth st k) (x.lo k) (x.ac k) else x.ac k, x.ord ++ actL st f x i⟩
theorem mid_zero (st f x) : mid st f x 0 = x := by
  obtain ⟨lo, ac, ord⟩ := x
  simp [mid, actL]
theorem actL_succ (st f x i) : actL st f x (i + 1) = actL st f x i ++ (if actB f (nth st i) (x.lo i) (x.ac i) = true then [i] else []) := by
  unfold actL
  rw [List.range_succ, List.filter_append]
  congr 1
  simp only [List.filter_cons, List.filter_nil]
def outN (st : List Stage) (f : Int) (x : Sh) (i : Nat) : List ByteArray := loadsOf st (actL st f x i)
theorem outN_succ (st f x i) : outN st f x (i + 1) = outN st f x i ++ (if actB f (nth st i) (x.lo i) (x.ac i) = true then (nth st i).loads else []) := by
  unfold outN
  rw [actL_succ]
  unfold loadsOf
  rw [List.flatMap_append]
  split <;> simp
def stepOut (st : List Stage) (f : Int) (x : Sh) : List ByteArray := if okF f then outN st f x st.length else []
def stepErr (f : Int) : Int := if okF f then 0 else 4
/-- What Check lets in. -/
structure ShedOk (l : List Stage) : Prop where
  len : l.length ≤ 8
  range : ∀ s ∈ l, -10000 ≤ s.below ∧ s.below ≤ -1 ∧ 1 ≤ s.wait ∧ s.wait ≤ 60
  desc : ∀ i j, i < j → j < l.length → (nth l j).below < (nth l i).below
  few : ∀ s ∈ l, s.loads.length ≤ 12
  names : (l.flatMap Stage.loads).Nodup
theorem seq_iff (a b : ByteArray) : seq a b = true ↔ a = b := by
  unfold seq
  rw [beq_iff_eq, ByteArray.toList_eq, ByteArray.toList_eq]
  exact ⟨fun h => by cases a; cases b; congr 1; exact Array.ext' h, fun h => by rw [h]⟩
theorem any_seq (x : ByteArray) (l : List ByteArray) : l.any (seq x) = true ↔ x ∈ l := by
  rw [List.any_eq_true]
  constructor
  · rintro ⟨y, h1, h2⟩; rw [(seq_iff x y).1 h2]; exact h1
  · intro h; exact ⟨x, h, (seq_iff x x).2 rfl⟩
theorem chkN_ok : ∀ {l all all' : List ByteArray}, chkN all l = (0, all') → all.Nodup → all' = all ++ l ∧ all'.Nodup
  | [], all, all', h, hn => by
    simp only [chkN, Prod.mk.injEq, true_and] at h
    subst h; simp [hn]
  | x :: l, all, all', h, hn => by
    unfold chkN at h
    split at h
    · simp at h
    split at h
    · simp at h
    rename_i h1 h2
    have hx : x ∉ all := fun hm => h2 ((any_seq x all).2 hm)
    obtain ⟨h3, h4⟩ := chkN_ok h (by rw [List.nodup_append]; exact ⟨hn, by simp, fun a ha b hb => by rw [List.mem_singleton] at hb; subst hb; exact fun e => hx (e ▸ ha)⟩)
    exact ⟨by rw [h3]; simp, h4⟩
theorem chkS_ok {L : List Stage} : ∀ {r : List Stage} {i : Nat} {all : List ByteArray}, chkS L i all r = 0 → L.drop i = r → all.Nodup →
    (∀ s ∈ r, badS s = false ∧ s.loads.length ≤ 12) ∧ (all ++ r.flatMap Stage.loads).Nodup ∧ ∀ j, i ≤ j → 0 < j → j < L.length → (nth L j).below < (nth L (j - 1)).below
  | [], i, all, h, hr, hn => by
    refine ⟨fun s hs => absurd hs List.not_mem_nil, by simpa using hn, fun j h1 h2 h3 => ?_⟩
    have := List.drop_eq_nil_iff.1 hr
    omega
  | s :: r, i, all, h, hr, hn => by
    have hi : i < L.length := by
      rcases Nat.lt_or_ge i L.length with h1 | h1
      · exact h1
      · rw [List.drop_of_length_le h1] at hr; cases hr
    have hs : nth L i = s ∧ L.drop (i + 1) = r := by
      rw [List.drop_eq_getElem_cons hi] at hr
      injection hr with h1 h2
      refine ⟨?_, h2⟩
      unfold nth
      rw [List.getD_eq_getElem?_getD, List.getElem?_eq_getElem hi, ← h1]; rfl
    unfold chkS at h
    split at h
    · cases h
    split at h
    · cases h
    split at h
    · cases h
    split at h
    · rename_i h1; exact absurd h h1
    rename_i h1 h2 h3 h4
    have h4' : (chkN all s.loads).1 = 0 := Classical.not_not.1 h4
    obtain ⟨h5, h6⟩ := chkN_ok (l := s.loads) (all := all) (all' := (chkN all s.loads).2) (by rw [← h4']) hn
    obtain ⟨h7, h8, h9⟩ := chkS_ok h hs.2 h6
    refine ⟨fun x hx => ?_, ?_, fun j g1 g2 g3 => ?_⟩
    · rcases List.mem_cons.1 hx with rfl | hx
      · exact ⟨by simpa using h1, by omega⟩
      · exact h7 x hx
    · rw [h5] at h8; simpa using h8
    · rcases Nat.eq_or_lt_of_le g1 with e | e
      · subst e
        have e4 : (L.map Stage.below).getD (i - 1) 0 = (nth L (i - 1)).below := by
          unfold nth
          rw [List.getD_eq_getElem?_getD, List.getElem?_map, List.getElem?_eq_getElem (by omega), List.getD_eq_getElem?_getD, List.getElem?_eq_getElem (by omega)]; rfl
        rw [e4] at h2
        rw [hs.1]
        omega
      · exact h9 j e g2 g3
theorem shed_ok {l : List Stage} (h : shedChk l = 0) : ShedOk l := by
  unfold shedChk at h
  split at h
  · cases h
  rename_i h0
  obtain ⟨h1, h2, h3⟩ := chkS_ok h rfl List.nodup_nil
  refine ⟨by omega, fun s hs => ?_, fun i j hij hj => ?_, fun s hs => (h1 s hs).2, by simpa using h2⟩
  · have := (h1 s hs).1
    unfold badS at this
    simp only [Bool.or_eq_false_iff, decide_eq_false_iff_not] at this
    omega
  · induction j with
    | zero => omega
    | succ j ih =>
      have h4 := h3 (j + 1) (by omega) (by omega) hj
      rw [Nat.add_sub_cancel] at h4
      rcases Nat.eq_or_lt_of_le (Nat.le_of_lt_succ hij) with e | e
      · rw [e]; exact h4
      · have := ih e (by omega); omega
theorem nth_mem {l : List Stage} {k : Nat} (h : k < l.length) : nth l k ∈ l := by
  unfold nth
  rw [List.getD_eq_getElem?_getD, List.getElem?_eq_getElem h]; exact List.getElem_mem h

/-- What is true of every state. -/
structure ShInv (st : List Stage) (x : Sh) : Prop where
  low : ∀ k, k < st.length → 0 ≤ x.lo k ∧ x.lo k ≤ (nth st k).wait
  full : ∀ k, k < st.length → x.lo k = (nth st k).wait → x.ac k = true
  acted : ∀ k, k < st.length → (x.ac k = true ↔ k ∈ x.ord)
  inr : ∀ k ∈ x.ord, k < st.length
  nodup : x.ord.Nodup
theorem ShInv.zero {st : List Stage} (h : ShedOk st) : ShInv st sh0 :=
  ⟨fun k hk => by have := h.range _ (nth_mem hk); simp only [sh0]; omega, fun k hk e => by have := h.range _ (nth_mem hk); simp only [sh0] at e; omega, fun k hk => by simp [sh0], fun k hk => by simp [sh0] at hk, by simp [sh0]⟩
theorem mem_actL {st : List Stage} {f : Int} {x : Sh} {i k : Nat} : k ∈ actL st f x i ↔ k < i ∧ actB f (nth st k) (x.lo k) (x.ac k) = true := by
  unfold actL; rw [List.mem_filter, List.mem_range]
theorem ShInv.step {st : List Stage} (hs : ShedOk st) {x : Sh} (h : ShInv st x) (f : Int) : ShInv st (shStep st f x) := by
  refine ⟨fun k hk => ?_, fun k hk e => ?_, fun k hk => ?_, fun k hk => ?_, ?_⟩
  · have h1 := h.low k hk
    have h2 := hs.range _ (nth_mem hk)
    simp only [shStep, nlo]
    split
    · omega
    · split <;> omega
  · simp only [shStep] at e ⊢
    unfold actB
    rw [e]
    cases x.ac k <;> simp
  · simp only [shStep, List.mem_append, Bool.or_eq_true, mem_actL, h.acted k hk, hk, true_and]
  · simp only [shStep, List.mem_append, mem_actL] at hk
    rcases hk with hk | hk
    · exact h.inr k hk
    · exact hk.1
  · simp only [shStep]
    rw [List.nodup_append]
    refine ⟨h.nodup, List.Pairwise.filter _ List.nodup_range, fun a ha b hb e => ?_⟩
    subst e
    rw [mem_actL] at hb
    have h1 := (h.acted a (h.inr a ha)).2 ha
    unfold actB at hb
    rw [h1] at hb
    simp at hb
theorem ShInv.any {st : List Stage} (hs : ShedOk st) {x : Sh} (h : ShInv st x) (f : Int) : ShInv st (shAny st f x) := by
  unfold shAny; split
  · exact h.step hs f
  · exact h
theorem ShInv.back {st : List Stage} (hs : ShedOk st) {x : Sh} (h : ShInv st x) : ShInv st (shBack x) := by
  unfold shBack
  split
  · exact h
  rename_i k hk
  have hx : x.ord = x.ord.dropLast ++ [k] := by
    rw [List.getLast?_eq_some_iff] at hk
    obtain ⟨ys, hys⟩ := hk
    rw [hys]; simp
  have hn := h.nodup
  rw [hx, List.nodup_append] at hn
  have hkl : k ∈ x.ord := by rw [hx]; simp
  refine ⟨fun j hj => ?_, fun j hj e => ?_, fun j hj => ?_, fun j hj => h.inr j ?_, hn.1⟩
  · have := h.low j hj
    have := hs.range _ (nth_mem hj)
    simp only; split <;> omega
  · simp only at e ⊢
    have := hs.range _ (nth_mem hj)
    split at e
    · omega
    · rename_i hne; rw [if_neg hne]; exact h.full j hj e
  · simp only
    by_cases e : j = k
    · subst e
      simp only [if_true, Bool.false_eq_true, false_iff]
      exact fun hm => hn.2.2 j hm j (by simp) rfl
    · rw [if_neg e, h.acted j hj]
      constructor
      · intro hm; rw [hx] at hm; simpa [e] using hm
      · intro hm; rw [hx]; simp [hm]
  · rw [hx]; simp only at hj; simp [hj]
theorem nodup_bound : ∀ (n : Nat) (l : List Nat), l.Nodup → (∀ k ∈ l, k < n) → l.length ≤ n
  | 0, [], _, _ => Nat.le_refl _
  | 0, k :: l, _, h => absurd (h k List.mem_cons_self) (Nat.not_lt_zero _)
  | n + 1, l, hn, h => by
    by_cases hm : n ∈ l
    · have h1 := nodup_bound n (l.erase n) (hn.erase n) fun k hk => by
        have h2 := (hn.mem_erase_iff).1 hk
        have := h k h2.2; omega
      rw [List.length_erase_of_mem hm] at h1
      omega
    · have := nodup_bound n l hn fun k hk => by
        have := h k hk
        have : k ≠ n := fun e => hm (e ▸ hk)
        omega
      omega
theorem len_ord {st : List Stage} (hs : ShedOk st) {x : Sh} (h : ShInv st x) : x.ord.length ≤ 8 := by
  have h1 := nodup_bound st.length x.ord h.nodup h.inr
  have := hs.len
  omega
end Go.Proofs.Ytdcnllgnblgfaaa
