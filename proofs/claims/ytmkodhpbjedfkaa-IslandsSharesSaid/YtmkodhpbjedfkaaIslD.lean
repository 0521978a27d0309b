/- Islands: what Share and Lack mean. -/
import Derived.Test.YtmkodhpbjedfkaaAwZh
import Derived.Test.YtmkodhpbjedfkaaIslB
set_option linter.unusedVariables false
set_option linter.unusedSimpArgs false
namespace Go.Proofs.Ytmkodhpbjedfkaa
open Go.Proofs.Ytmkodhpbjedfkaa.Aw
attribute [local go_sem] Int.natCast_zero Int.natCast_one bne_self_eq_false beq_self_eq_true Bool.not_true Bool.not_false Option.isSome_none Option.isSome_some Aw.bkM_nil Option.getD_some Option.getD_none Nat.sub_zero Int.toNat_zero Aw.frzS Aw.frzT Aw.frzA Aw.frzL Aw.frzR Aw.frzO Aw.frzOL Aw.frzOT Aw.frzOR Aw.killS Aw.mapT Aw.mapR Aw.killM Aw.resAVs Aw.resAV Aw.quietOps Aw.wpP Aw.wpT Aw.wpS Aw.AOp.mild List.getElem?_cons_zero List.getElem?_cons_succ Bool.and_false Bool.and_self Bool.false_and Aw.opOb Aw.gdB Aw.Rnd Aw.subTm List.length_map Int.toNat_natCast and_self Aw.SeqC Aw.stops Aw.Ends Aw.looks Aw.renA Aw.renL Aw.renT Aw.renS Aw.wpO Aw.aop Aw.putTm Aw.St.ev Aw.St.put Aw.St.putO Aw.binAV Aw.intBin Aw.strBin Aw.pickAV Aw.optInt Aw.AV.strip Aw.AV.guard Aw.AV.cells Aw.gdOb Aw.AOp.opds Aw.AOp.still Aw.ptrCells Aw.St.reg Aw.fillAV Aw.fillOb Aw.elsOb Aw.splice Aw.firm Aw.cellish Aw.AV.shut Aw.shutAll Aw.Seq Aw.Blk Aw.retS_nil Aw.mapA Aw.mapL Aw.borA Aw.borOb Aw.allOb Aw.tupOf Aw.params Aw.Opd.of Array.toList Value.cells List.map_cons List.map_nil List.getD_cons_zero List.getD_cons_succ List.getD_nil List.length_cons List.length_nil List.take_succ_cons List.take_zero List.take_nil List.drop_zero List.drop_succ_cons List.drop_nil List.set_cons_zero List.set_cons_succ List.append_nil List.nil_append List.cons_append List.all_cons List.all_nil cond_false cond_true if_true if_false true_and and_true Bool.and_true Bool.true_and Option.map_some Option.map_none false_implies forall_const implies_true forall_eq imp_self Bool.cond_false_right Bool.cond_true_left beq_true beq_false Bool.not_eq_true' Bool.false_eq_true Nat.zero_add Nat.add_zero Aw.eqCells Aw.stopDraw Aw.skipS Aw.exactCap Aw.revealS Aw.srcEls Aw.srcSz
attribute [local go_sem ↓] Aw.look_nil Aw.look_ite Aw.wpL_nil Aw.wpL_op Aw.wpL_gd Aw.wpQ_nil Aw.wpQ_op Aw.wpQ_gd Aw.wpC_draw Aw.wpC_reg Aw.wpC_skip Aw.wpC_ret Aw.wpC_exit Aw.wpC_seq Aw.wpC_block Aw.wpC_loop Aw.wpC_cond Aw.stopAt_nil Aw.stopAt_cons Aw.wpD_skip Aw.wpD_ret Aw.wpD_exit Aw.wpD_region Aw.wpD_draw Aw.wpM_nil Aw.wpM_op Aw.wpM_gd Aw.wpD_seq Aw.wpD_block Aw.wpD_loop Aw.wpD_cond
def tot (l : List Int) : Int := l.foldl (· + ·) 0
theorem tot_from (l : List Int) : ∀ n : Int, l.foldl (· + ·) n = n + tot l := by
  unfold tot
  induction l with
  | nil => intro n; simp
  | cons x l ih => intro n; rw [List.foldl_cons, List.foldl_cons, ih (n + x), ih (0 + x)]; omega
theorem tot_cons (x : Int) (l : List Int) : tot (x :: l) = x + tot l := by
  show l.foldl (· + ·) (0 + x) = _
  rw [tot_from]; omega
theorem tot_append (l m : List Int) : tot (l ++ m) = tot l + tot m := by
  show (l ++ m).foldl (· + ·) 0 = _
  rw [List.foldl_append, tot_from]; rfl
theorem tot_set : ∀ {l : List Int} {i : Nat} {v : Int} (h : i < l.length), tot (l.set i v) = tot l - l[i] + v
  | x :: l, 0, v, h => by rw [List.set_cons_zero, tot_cons, tot_cons, List.getElem_cons_zero]; omega
  | x :: l, i + 1, v, h => by
    rw [List.set_cons_succ, tot_cons, tot_cons, List.getElem_cons_succ, tot_set (by simpa using h)]; omega
theorem tot_take {l : List Int} {i : Nat} (h : i < l.length) : tot (l.take (i + 1)) = tot (l.take i) + l[i] := by
  rw [take_get h, tot_append, tot_cons]; show _ + (_ + 0) = _; omega
theorem tot_zero : ∀ {l : List Int}, (∀ x ∈ l, x = 0) → tot l = 0
  | [], _ => rfl
  | x :: l, h => by rw [tot_cons, h x List.mem_cons_self, tot_zero fun y hy => h y (List.mem_cons_of_mem _ hy)]; rfl
theorem tot_le {c : Int} : ∀ {l : List Int}, (∀ x ∈ l, 0 ≤ x ∧ x ≤ c) → 0 ≤ tot l ∧ tot l ≤ c * l.length
  | [], _ => by simp [tot]
  | x :: l, h => by
    have h1 := h x List.mem_cons_self
    have h2 := tot_le (l := l) fun y hy => h y (List.mem_cons_of_mem _ hy)
    have h3 : c * ((l.length + 1 : Nat) : Int) = c * l.length + c := by rw [Int.natCast_add, Int.mul_add]; simp
    rw [tot_cons, List.length_cons, h3]; omega
def dem (l : List Sm) : Int := tot (l.map Sm.demand)
theorem dem_upd {l : List Sm} {i : Nat} {f : Sm → Sm} (h : i < l.length) : dem (upd l i f) = dem l - (l.getD i default).demand + (f (l.getD i default)).demand := by
  unfold dem upd
  rw [List.map_set, tot_set (by rw [List.length_map]; exact h), List.getElem_map]
  have : l.getD i default = l[i] := by rw [List.getD_eq_getElem?_getD, List.getElem?_eq_getElem h]; rfl
  rw [this]
theorem dem_G {n : Net} (hv : NetV n) : ∀ i, i ≤ n.gens.l.length → dem (sumsG n i) = 0
  | 0, _ => tot_zero fun x hx => by
    obtain ⟨s, hs, rfl⟩ := List.mem_map.1 hx
    have : s = default := List.eq_of_mem_replicate (show s ∈ List.replicate (manyF n).toNat default from hs)
    rw [this]; rfl
  | i + 1, hi => by
    have hx := hv.ge _ (List.getElem_mem (l := n.gens.l) (n := i) (by omega))
    have hs : sumsG n (i + 1) = stG n (sumsG n i) (n.gens.l[i]'(by omega)) := foldl_take _ _ (by omega)
    rw [hs]
    unfold stG
    rw [dem_upd (by rw [(sumsG_ok hv i (by omega)).1]; exact (pl_ok hv hx.1).2), dem_G hv i (by omega)]
    unfold addG
    dsimp only
    omega
def ldem (n : Net) : List Int := n.loads.l.map Loa.demand
theorem dem_L {n : Net} (hv : NetV n) : ∀ j, j ≤ n.loads.l.length → dem (sumsL n j) = tot ((ldem n).take j)
  | 0, _ => dem_G hv _ (Nat.le_refl _)
  | j + 1, hj => by
    have hx := hv.lo _ (List.getElem_mem (l := n.loads.l) (n := j) (by omega))
    have hs : sumsL n (j + 1) = stL n (sumsL n j) (n.loads.l[j]'(by omega)) := foldl_take _ _ (by omega)
    rw [hs]
    unfold stL
    rw [dem_upd (by rw [(sumsL_ok hv j (by omega)).1]; exact (pl_ok hv hx.1).2), dem_L hv j (by omega), tot_take (by unfold ldem; rw [List.length_map]; omega)]
    unfold addLo ldem
    rw [List.getElem_map]
    dsimp only
    omega
theorem dem_F {n : Net} (hv : NetV n) : dem (sumsF n) = tot (ldem n) := by
  unfold sumsF
  rw [dem_L hv _ (Nat.le_refl _), List.take_of_length_le (by unfold ldem; rw [List.length_map]; exact Nat.le_refl _)]
theorem dem_S {n : Net} (hv : NetV n) : ∀ i, i ≤ n.gens.l.length → dem (shG n i).1 + tot (shG n i).2 = dem (sumsF n)
  | 0, _ => by show dem (sumsF n) + 0 = _; omega
  | i + 1, hi => by
    have hx := hv.ge _ (List.getElem_mem (l := n.gens.l) (n := i) (by omega))
    have hs : shG n (i + 1) = stS n (shG n i) (n.gens.l[i]'(by omega)) := foldl_take _ _ (by omega)
    have ih := dem_S hv i (by omega)
    rw [hs]
    unfold stS
    dsimp only
    rw [dem_upd (by rw [(shG_ok hv i (by omega)).1]; exact (pl_ok hv hx.1).2), tot_append, tot_cons]
    unfold subP
    show _ + (_ + (_ + 0)) = _
    dsimp only
    omega
def GenP (g : Gen) (p : Int) : Prop := (p = 0 ∨ (g.least ≤ p ∧ p ≤ g.most)) ∧ 0 ≤ p ∧ p ≤ 100000
theorem shG_P {n : Net} (hv : NetV n) : ∀ i, i ≤ n.gens.l.length → ∀ j, j < i → GenP (n.gens.l.getD j default) ((shG n i).2.getD j 0)
  | 0, _ => fun j hj => by omega
  | i + 1, hi => fun j hj => by
    have hx := hv.ge _ (List.getElem_mem (l := n.gens.l) (n := i) (by omega))
    have hs : shG n (i + 1) = stS n (shG n i) (n.gens.l[i]'(by omega)) := foldl_take _ _ (by omega)
    obtain ⟨k1, k2, k3⟩ := shG_ok hv i (by omega)
    have hg := genE_zero hx.2
    have hb := k3 _ (pl_ok hv hx.1).2
    rw [hs]
    unfold stS
    dsimp only
    rcases Nat.lt_or_eq_of_le (Nat.le_of_lt_succ hj) with hj | rfl
    · rw [List.getD_eq_getElem?_getD (l := _ ++ _), List.getElem?_append_left (by omega), ← List.getD_eq_getElem?_getD]
      exact shG_P hv i (by omega) j hj
    · rw [List.getD_eq_getElem?_getD (l := _ ++ _), List.getElem?_append_right (by omega), k2, Nat.sub_self, List.getD_eq_getElem?_getD, List.getElem?_eq_getElem (by omega)]
      simp only [List.getElem?_cons_zero, Option.getD_some]
      unfold GenP shP
      unfold SmB at hb
      split <;> omega
theorem shareE_zero {n : Net} (h : shareE n = 0) : NetV n ∧ ∀ s ∈ (shG n n.gens.l.length).1, ¬ 0 < s.demand := by
  unfold shareE at h
  split at h
  · rename_i h1; exact absurd h h1
  · rename_i h1
    refine ⟨netF_zero.1 (by simpa using h1), fun s hs hd => ?_⟩
    rw [if_pos (List.any_eq_true.2 ⟨s, hs, decide_eq_true hd⟩)] at h
    cases h
theorem share_tot {n : Net} (h : shareE n = 0) : tot (shareL n) = tot (ldem n) := by
  obtain ⟨hv, hd⟩ := shareE_zero h
  have h1 := dem_S hv n.gens.l.length (Nat.le_refl _)
  have h2 := dem_F hv
  obtain ⟨k1, k2, k3⟩ := shG_ok hv n.gens.l.length (Nat.le_refl _)
  have h3 : dem (shG n n.gens.l.length).1 = 0 := tot_zero fun x hx => by
    obtain ⟨s, hs, rfl⟩ := List.mem_map.1 hx
    have h4 := hd s hs
    obtain ⟨i, hi, rfl⟩ := List.mem_iff_getElem.1 hs
    have h5 := k3 i (by omega)
    rw [List.getD_eq_getElem?_getD, List.getElem?_eq_getElem hi] at h5
    unfold SmB at h5
    change (0 ≤ _ ∧ _ ≤ _ ∧ _ ≤ _ ∧ 0 ≤ ((shG n n.gens.l.length).1[i]).demand ∧ _ ≤ _) at h5
    omega
  unfold shareL
  rw [if_pos h]
  omega
/-- What the generators of an island can supply is not less than what its demand falls by. -/
theorem lack_S {n : Net} (hv : NetV n) : ∀ i, i ≤ n.gens.l.length → ∀ k, k < (manyF n).toNat → ((sumsF n).getD k default).demand - ((sumsG n i).getD k default).most ≤ ((shG n i).1.getD k default).demand
  | 0, _ => fun k hk => by
    have := (sumsG_ok hv 0 (Nat.zero_le _)).2 k hk
    show _ ≤ ((sumsF n).getD k default).demand
    unfold SmB at this
    omega
  | i + 1, hi => fun k hk => by
    have hx := hv.ge _ (List.getElem_mem (l := n.gens.l) (n := i) (by omega))
    have hs : shG n (i + 1) = stS n (shG n i) (n.gens.l[i]'(by omega)) := foldl_take _ _ (by omega)
    have hs2 : sumsG n (i + 1) = stG n (sumsG n i) (n.gens.l[i]'(by omega)) := foldl_take _ _ (by omega)
    obtain ⟨k1, k2, k3⟩ := shG_ok hv i (by omega)
    have g1 := (sumsG_ok hv i (by omega)).1
    have hg := genE_zero hx.2
    have hp := (pl_ok hv hx.1).2
    have ih := lack_S hv i (by omega) k hk
    have hb := k3 _ hk
    rw [hs, hs2]
    unfold stS stG
    dsimp only
    rw [upd_get (by omega), upd_get (by omega)]
    by_cases e : k = pl n (n.gens.l[i]'(by omega)).node
    · rw [if_pos e, if_pos e, ← e]
      unfold subP addG shP
      unfold SmB at hb
      dsimp only
      split <;> omega
    · rw [if_neg e, if_neg e]; exact ih
theorem most_L {n : Net} (hv : NetV n) (k : Nat) : ∀ j, j ≤ n.loads.l.length → ((sumsL n j).getD k default).most = ((sumsG n n.gens.l.length).getD k default).most
  | 0, _ => rfl
  | j + 1, hj => by
    have hx := hv.lo _ (List.getElem_mem (l := n.loads.l) (n := j) (by omega))
    have hs : sumsL n (j + 1) = stL n (sumsL n j) (n.loads.l[j]'(by omega)) := foldl_take _ _ (by omega)
    have g1 := (sumsL_ok hv j (by omega)).1
    have hp := (pl_ok hv hx.1).2
    rw [hs]
    unfold stL
    rw [upd_get (by omega)]
    split
    · rename_i e
      unfold addLo
      dsimp only
      rw [← e]
      exact most_L hv k j (by omega)
    · exact most_L hv k j (by omega)
/-- Where an island lacks power, there is no balance. -/
theorem lack_share {n : Net} (hv : NetV n) {k : Nat} (hk : k < (manyF n).toNat) (h : 0 < lackS ((sumsF n).getD k default)) : shareE n = 14 := by
  have h1 := lack_S hv n.gens.l.length (Nat.le_refl _) k hk
  have h2 := most_L hv k n.loads.l.length (Nat.le_refl _)
  obtain ⟨k1, k2, k3⟩ := shG_ok hv n.gens.l.length (Nat.le_refl _)
  have h3 : sumsL n n.loads.l.length = sumsF n := rfl
  rw [h3] at h2
  unfold lackS at h
  have hk2 : k < (shG n n.gens.l.length).1.length := by omega
  unfold shareE
  rw [if_neg (by have := netF_zero.2 hv; simpa using this), if_pos]
  refine List.any_eq_true.2 ⟨(shG n n.gens.l.length).1.getD k default, ?_, decide_eq_true (by omega)⟩
  rw [List.getD_eq_getElem?_getD, List.getElem?_eq_getElem hk2]
  exact List.getElem_mem hk2
theorem shareE_cases (n : Net) : shareE n = 0 ∨ shareE n = 14 ∨ (netF n ≠ 0 ∧ shareE n = netF n) := by
  unfold shareE
  split
  · rename_i h; exact .inr (.inr ⟨h, rfl⟩)
  · split
    · exact .inr (.inl rfl)
    · exact .inl rfl
end Go.Proofs.Ytmkodhpbjedfkaa
