/- Orders: each step of an order is safe; how many steps there are. -/
import Derived.Test.YtkbipopkemfhaaaAwZg
import Derived.Test.YtkbipopkemfhaaaOrdN
set_option linter.unusedVariables false
set_option linter.unusedSimpArgs false
namespace Go.Proofs.Ytkbipopkemfhaaa
open Go.Proofs.Ytkbipopkemfhaaa.Aw
attribute [local go_sem] Int.natCast_zero Int.natCast_one bne_self_eq_false beq_self_eq_true Bool.not_true Bool.not_false Option.isSome_none Option.isSome_some Aw.bkM_nil Option.getD_some Option.getD_none Nat.sub_zero Int.toNat_zero Aw.frzS Aw.frzT Aw.frzA Aw.frzL Aw.frzR Aw.frzO Aw.frzOL Aw.frzOT Aw.frzOR Aw.killS Aw.mapT Aw.mapR Aw.killM Aw.resAVs Aw.resAV Aw.quietOps Aw.wpP Aw.wpT Aw.wpS Aw.AOp.mild List.getElem?_cons_zero List.getElem?_cons_succ Bool.and_false Bool.and_self Bool.false_and Aw.opOb Aw.gdB Aw.Rnd Aw.subTm List.length_map Int.toNat_natCast and_self Aw.SeqC Aw.stops Aw.Ends Aw.looks Aw.renA Aw.renL Aw.renT Aw.renS Aw.wpO Aw.aop Aw.putTm Aw.St.ev Aw.St.put Aw.St.putO Aw.binAV Aw.intBin Aw.strBin Aw.pickAV Aw.optInt Aw.AV.strip Aw.AV.guard Aw.AV.cells Aw.gdOb Aw.AOp.opds Aw.AOp.still Aw.ptrCells Aw.St.reg Aw.fillAV Aw.fillOb Aw.elsOb Aw.splice Aw.firm Aw.cellish Aw.AV.shut Aw.shutAll Aw.Seq Aw.Blk Aw.retS_nil Aw.mapA Aw.mapL Aw.borA Aw.borOb Aw.allOb Aw.tupOf Aw.params Aw.Opd.of Array.toList Value.cells List.map_cons List.map_nil List.getD_cons_zero List.getD_cons_succ List.getD_nil List.length_cons List.length_nil List.take_succ_cons List.take_zero List.take_nil List.drop_zero List.drop_succ_cons List.drop_nil List.set_cons_zero List.set_cons_succ List.append_nil List.nil_append List.cons_append List.all_cons List.all_nil cond_false cond_true if_true if_false true_and and_true Bool.and_true Bool.true_and Option.map_some Option.map_none false_implies forall_const implies_true forall_eq imp_self Bool.cond_false_right Bool.cond_true_left beq_true beq_false Bool.not_eq_true' Bool.false_eq_true Nat.zero_add Nat.add_zero Aw.eqCells Aw.stopDraw Aw.skipS Aw.exactCap Aw.revealS Aw.srcEls Aw.srcSz
attribute [local go_sem ↓] Aw.look_nil Aw.look_ite Aw.wpL_nil Aw.wpL_op Aw.wpL_gd Aw.wpQ_nil Aw.wpQ_op Aw.wpQ_gd Aw.wpC_draw Aw.wpC_reg Aw.wpC_skip Aw.wpC_ret Aw.wpC_exit Aw.wpC_seq Aw.wpC_block Aw.wpC_loop Aw.wpC_cond Aw.stopAt_nil Aw.stopAt_cons Aw.wpD_skip Aw.wpD_ret Aw.wpD_exit Aw.wpD_region Aw.wpD_draw Aw.wpM_nil Aw.wpM_op Aw.wpM_gd Aw.wpD_seq Aw.wpD_block Aw.wpD_loop Aw.wpD_cond
/-- The error of a step. -/
def stepE (rules : List Rul) (held : List ByteArray) (now : List Sta) (s : Stp) : Int :=
  if setE now s.close s.sw ≠ 0 then setE now s.close s.sw else if held.any (seq s.sw) = true then 18 else if permF rules now s.close s.sw = false then 19 else 0
/-- All steps are safe and lead to these states. -/
def verOk (rules : List Rul) (held : List ByteArray) : List Sta → List Stp → List Sta → Prop
  | now, [], e => e = now
  | now, s :: l, e => (setE now s.close s.sw = 0 ∧ held.any (seq s.sw) = false ∧ permF rules now s.close s.sw = true) ∧ verOk rules held (setL now s.close s.sw) l e
theorem any_names (l : List Sta) (n : ByteArray) : l.any (fun t => seq t.name n) = (l.map (·.name)).any (fun x => seq x n) := by
  rw [List.any_map]; rfl
theorem staGo_congr : ∀ {l l' pre pre' : List Sta}, l.map (·.name) = l'.map (·.name) → pre.map (·.name) = pre'.map (·.name) → staGo pre l = staGo pre' l'
  | [], [], _, _, _, _ => rfl
  | [], _ :: _, _, _, h, _ => by cases h
  | _ :: _, [], _, _, h, _ => by cases h
  | x :: l, y :: l', pre, pre', h, hp => by
    simp only [List.map_cons, List.cons.injEq] at h
    have h1 : staE pre x = staE pre' y := by
      unfold staE
      rw [any_names, any_names, h.1, hp]
    have h2 := staGo_congr (pre := pre ++ [x]) (pre' := pre' ++ [y]) h.2 (by rw [List.map_append, List.map_append, hp, List.map_cons, List.map_cons, h.1])
    unfold staGo
    rw [h1, h2]
theorem statesF_congr {l l' : List Sta} (h : l.map (·.name) = l'.map (·.name)) : statesF l = statesF l' := by
  have hl : l.length = l'.length := by have := congrArg List.length h; simpa using this
  unfold statesF
  rw [hl, staGo_congr h rfl]
theorem stL_map (l : List Sta) (n : Nat) : (stL l n).map (·.name) = l.map (·.name) := by
  refine List.ext_getElem (by unfold stL; simp) fun i h1 h2 => ?_
  rw [List.getElem_map, List.getElem_map]
  unfold stL
  rw [List.getElem_mapIdx]
theorem stL_len (l : List Sta) (n : Nat) : (stL l n).length = l.length := by unfold stL; simp
theorem stL_get {l : List Sta} {n k : Nat} (hk : k < l.length) : (stL l n).getD k default = ⟨(l.getD k default).name, n.testBit k⟩ := by
  rw [List.getD_eq_getElem?_getD, List.getElem?_eq_getElem (by rw [stL_len]; exact hk), List.getD_eq_getElem?_getD, List.getElem?_eq_getElem hk]
  unfold stL
  simp
theorem stL_num (l : List Sta) : stL l (numF l) = l := by
  refine List.ext_getElem (stL_len _ _) fun i h1 h2 => ?_
  have h3 := stL_get (n := numF l) h2
  rw [numF_bit, List.getD_eq_getElem?_getD, List.getElem?_eq_getElem h1, List.getD_eq_getElem?_getD, List.getElem?_eq_getElem h2] at h3
  exact h3
theorem fIndex_at {α : Type} {p : α → Bool} : ∀ {l : List α} {j k : Nat} (hk : k < l.length), p l[k] = true → (∀ i (hi : i < k), p (l[i]'(by omega)) = false) → fIndex p j l = (j + k : Nat)
  | x :: l, j, 0, _, h, _ => by
    unfold fIndex
    rw [if_pos (by simpa using h)]; rfl
  | x :: l, j, k + 1, hk, h, hb => by
    have h0 := hb 0 (by omega)
    unfold fIndex
    rw [if_neg (by simp only [List.getElem_cons_zero] at h0; rw [h0]; decide), fIndex_at (l := l) (j := j + 1) (k := k) (by simpa using hk) (by simpa using h) (fun i hi => by simpa using hb (i + 1) (by omega))]
    omega
theorem findF_stL {l : List Sta} (hu : statesF l = 0) {n k : Nat} (hk : k < l.length) : findF (stL l n) (l.getD k default).name = k := by
  have hk2 : k < (stL l n).length := by rw [stL_len]; exact hk
  have hg : ∀ i (hi : i < l.length), ((stL l n)[i]'(by rw [stL_len]; exact hi)).name = (l.getD i default).name := fun i hi => by
    have := stL_get (n := n) hi
    rw [List.getD_eq_getElem?_getD, List.getElem?_eq_getElem (by rw [stL_len]; exact hi)] at this
    simp only [Option.getD_some] at this
    rw [this]
  unfold findF
  rw [fIndex_at (j := 0) hk2 (by rw [hg k hk]; exact seq_eq.2 rfl) (fun i hi => ?_), Nat.zero_add]
  cases hq : seq ((stL l n)[i]'(by omega)).name (l.getD k default).name with
  | false => rfl
  | true =>
    rw [hg i (by omega)] at hq
    have := statesF_uniq hu (by omega) hk hq
    omega
theorem setE_stL {l : List Sta} (hu : statesF l = 0) {n k : Nat} (hk : k < l.length) : setE (stL l n) (!n.testBit k) (l.getD k default).name = 0 ∧ setL (stL l n) (!n.testBit k) (l.getD k default).name = stL l (flip n k) := by
  have hf := findF_stL (n := n) hu hk
  have hE : setE (stL l n) (!n.testBit k) (l.getD k default).name = 0 := by
    unfold setE
    rw [statesF_congr (stL_map l n), hu, hf, if_neg (by simp), if_neg (by omega), Int.toNat_natCast, stL_get hk]
    dsimp only
    rw [if_neg (by cases n.testBit k <;> decide)]
  refine ⟨hE, ?_⟩
  unfold setL
  rw [if_pos hE, hf, Int.toNat_natCast, stL_get hk]
  dsimp only
  refine List.ext_getElem (by simp [stL_len]) fun i h1 h2 => ?_
  rw [stL_len] at h2
  have e1 := stL_get (n := flip n k) h2
  have e2 := stL_get (n := n) h2
  rw [List.getD_eq_getElem?_getD, List.getElem?_eq_getElem (by rw [stL_len]; exact h2)] at e1 e2
  simp only [Option.getD_some] at e1 e2
  rw [List.getElem_set, e1, e2, flip_bit]
  split
  · rename_i e; subst e
    rw [decide_eq_true rfl, Bool.xor_true]
  · rename_i e
    rw [decide_eq_false e, Bool.xor_false]
theorem plGo_ver {p : Pln} {goal : Nat} {F : List Int} (hu : statesF p.l = 0) (h : BO p.may p.l.length goal F []) : ∀ (f n : Nat), n < 2 ^ p.l.length → F.getD n 0 = f → verOk p.rules p.held (stL p.l n) (plGo p F f n) (stL p.l goal)
  | 0, n, hn, hf => by
    have := h.z n hn hf
    subst this
    exact rfl
  | f + 1, n, hn, hf => by
    obtain ⟨kd, hd1, hd2, hd3, hd4⟩ := h.desc n hn (by omega)
    have hnear : nearer p F n kd = true := by unfold nearer; rw [hd2, Bool.and_true, beq_iff_eq]; omega
    obtain ⟨kp, hkp1, hkp2, hkp3⟩ := pickGo_some (P := nearer p F n) p.l.length 0 kd hd1 (by rw [Nat.zero_add]; exact hnear)
    have hk : F.getD (flip n kp) 0 = F.getD n 0 - 1 ∧ p.may n kp = true := by
      unfold nearer at hkp3
      simpa only [Bool.and_eq_true, beq_iff_eq] using hkp3
    have : plGo p F (f + 1) n = ⟨!n.testBit kp, (p.l.getD kp default).name⟩ :: plGo p F f (flip n kp) := by
      show (match pickGo (nearer p F n) p.l.length 0 with | some k => _ | none => _) = _
      rw [hkp1]
    rw [this]
    have hkl : kp < p.l.length := by omega
    obtain ⟨g1, g2⟩ := setE_stL (n := n) hu hkl
    have hm := hk.2
    unfold Pln.may mayF at hm
    simp only [Bool.and_eq_true, Bool.not_eq_true'] at hm
    refine ⟨⟨g1, hm.1, hm.2⟩, ?_⟩
    dsimp only
    rw [g2]
    exact plGo_ver hu h f _ (flip_lt hn hkl) (by omega)
/-- The steps of an order are safe and lead where they should. -/
theorem planL_ver {p : Pln} {b : List Sta} (h : planE p.rules p.l b p.held = 0) : verOk p.rules p.held p.l (planL p b) b := by
  obtain ⟨h1, h2, h3, h4, h5, h6, h7⟩ := planE_zero.1 h
  have hB := bfsF_ok p.may h4 (numF_goal h6)
  have hm : mayF p.rules p.l p.held = p.may := rfl
  rw [hm] at h7
  unfold planL
  rw [if_pos h]
  have hb : stL p.l (numF b) = b := by rw [stL_names h6, stL_num]
  have ha := stL_num p.l
  generalize bfsF p.may p.l.length (numF b) = F at *
  have hn := numF_lt p.l
  obtain ⟨d, hd⟩ : ∃ d : Nat, F.getD (numF p.l) 0 = d := ⟨(F.getD (numF p.l) 0).toNat, by omega⟩
  rw [hd, Int.toNat_natCast]
  have := plGo_ver h2 hB d _ hn hd
  rw [hb, ha] at this
  exact this
/-- In how many of the first L bits two numbers differ. -/
def ham : Nat → Nat → Nat → Nat
  | 0, _, _ => 0
  | L + 1, a, b => ham L a b + if a.testBit L = b.testBit L then 0 else 1
theorem ham_out : ∀ {L a b k : Nat}, L ≤ k → ham L (flip a k) b = ham L a b
  | 0, _, _, _, _ => rfl
  | L + 1, a, b, k, h => by
    unfold ham
    rw [ham_out (by omega), flip_bit, decide_eq_false (by omega), Bool.xor_false]
theorem ham_flip : ∀ {L a b k : Nat}, k < L → ham L (flip a k) b = ham L a b + 1 ∨ ham L (flip a k) b + 1 = ham L a b
  | L + 1, a, b, k, h => by
    unfold ham
    rcases Nat.lt_or_eq_of_le (Nat.le_of_lt_succ h) with h | rfl
    · have := ham_flip (a := a) (b := b) h
      rw [flip_bit, decide_eq_false (by omega), Bool.xor_false]
      omega
    · rw [ham_out (Nat.le_refl _), flip_bit, decide_eq_true rfl]
      cases a.testBit k <;> cases b.testBit k <;> simp
theorem ham_self : ∀ (L a : Nat), ham L a a = 0
  | 0, _ => rfl
  | L + 1, a => by unfold ham; rw [ham_self, if_pos rfl]
theorem Steps.ham {may : Nat → Nat → Bool} {L a b d : Nat} (h : Steps may L a b d) : ∃ m, d = ham L a b + 2 * m := by
  induction h with
  | nil a => exact ⟨0, by rw [ham_self]⟩
  | @cons a b d k hk _ _ ih =>
    obtain ⟨m, hm⟩ := ih
    rcases ham_flip (L := L) (a := a) (b := b) hk with h | h
    · exact ⟨m + 1, by omega⟩
    · exact ⟨m, by omega⟩
/-- How many of the first i states are others. -/
def apF (a b : List Sta) (i : Nat) : Nat := ham i (numF a) (numF b)
theorem apF_succ (a b : List Sta) (i : Nat) : apF a b (i + 1) = apF a b i + if ((a.getD i default).closed == (b.getD i default).closed) = true then 0 else 1 := by
  unfold apF
  show ham i _ _ + _ = _
  rw [numF_bit, numF_bit]
  simp only [beq_iff_eq]
theorem apF_le (a b : List Sta) : ∀ i, apF a b i ≤ i
  | 0 => Nat.le_refl _
  | i + 1 => by
    have := apF_le a b i
    rw [apF_succ]
    split <;> omega
end Go.Proofs.Ytkbipopkemfhaaa
