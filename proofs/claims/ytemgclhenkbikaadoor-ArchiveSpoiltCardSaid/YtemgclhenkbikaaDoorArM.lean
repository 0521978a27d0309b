/- Archives: lines printed and read, plain facts. -/
import Derived.Test.YtemgclhenkbikaaDoorAwZl
import Derived.Test.YtemgclhenkbikaaDoorArL
set_option linter.unusedVariables false
set_option linter.unusedSimpArgs false
namespace Go.Proofs.YtemgclhenkbikaaDoor
open Go.Proofs.YtemgclhenkbikaaDoor.Aw
attribute [local go_sem] Int.natCast_zero Int.natCast_one bne_self_eq_false beq_self_eq_true Bool.not_true Bool.not_false Option.isSome_none Option.isSome_some Aw.bkM_nil Option.getD_some Option.getD_none Nat.sub_zero Int.toNat_zero Aw.frzS Aw.frzT Aw.frzA Aw.frzL Aw.frzR Aw.frzO Aw.frzOL Aw.frzOT Aw.frzOR Aw.killS Aw.mapT Aw.mapR Aw.killM Aw.resAVs Aw.resAV Aw.quietOps Aw.wpP Aw.wpT Aw.wpS Aw.AOp.mild List.getElem?_cons_zero List.getElem?_cons_succ Bool.and_false Bool.and_self Bool.false_and Aw.opOb Aw.gdB Aw.Rnd Aw.subTm List.length_map Int.toNat_natCast and_self Aw.SeqC Aw.stops Aw.Ends Aw.looks Aw.renA Aw.renL Aw.renT Aw.renS Aw.wpO Aw.aop Aw.putTm Aw.St.ev Aw.St.put Aw.St.putO Aw.binAV Aw.intBin Aw.strBin Aw.pickAV Aw.optInt Aw.AV.strip Aw.AV.guard Aw.AV.cells Aw.gdOb Aw.AOp.opds Aw.AOp.still Aw.ptrCells Aw.St.reg Aw.fillAV Aw.fillOb Aw.elsOb Aw.splice Aw.firm Aw.cellish Aw.AV.shut Aw.shutAll Aw.Seq Aw.Blk Aw.retS_nil Aw.mapA Aw.mapL Aw.borA Aw.borOb Aw.allOb Aw.tupOf Aw.params Aw.Opd.of Array.toList Value.cells List.map_cons List.map_nil List.getD_cons_zero List.getD_cons_succ List.getD_nil List.length_cons List.length_nil List.take_succ_cons List.take_zero List.take_nil List.drop_zero List.drop_succ_cons List.drop_nil List.set_cons_zero List.set_cons_succ List.append_nil List.nil_append List.cons_append List.all_cons List.all_nil cond_false cond_true if_true if_false true_and and_true Bool.and_true Bool.true_and Option.map_some Option.map_none false_implies forall_const implies_true forall_eq imp_self Bool.cond_false_right Bool.cond_true_left beq_true beq_false Bool.not_eq_true' Bool.false_eq_true Nat.zero_add Nat.add_zero Aw.eqCells Aw.stopDraw Aw.skipS Aw.exactCap Aw.revealS Aw.srcEls Aw.srcSz
attribute [local go_sem ↓] Aw.look_nil Aw.look_ite Aw.wpL_nil Aw.wpL_op Aw.wpL_gd Aw.wpQ_nil Aw.wpQ_op Aw.wpQ_gd Aw.wpC_draw Aw.wpC_reg Aw.wpC_skip Aw.wpC_ret Aw.wpC_exit Aw.wpC_seq Aw.wpC_block Aw.wpC_loop Aw.wpC_cond Aw.stopAt_nil Aw.stopAt_cons Aw.wpD_skip Aw.wpD_ret Aw.wpD_exit Aw.wpD_region Aw.wpD_draw Aw.wpM_nil Aw.wpM_op Aw.wpM_gd Aw.wpD_seq Aw.wpD_block Aw.wpD_loop Aw.wpD_cond
/-- A byte that a line's parts do not hold. -/
def Sep (b : UInt8) : Prop := b.toNat < 45
theorem nmOk_no {b : UInt8} (hb : Sep b) : ∀ (l : List UInt8) (k : Nat), nmOk k l = true → b ∉ l
  | [], _, _ => by simp
  | c :: l, k, h => by
    unfold nmOk at h
    simp only [Bool.and_eq_true, Bool.or_eq_true, decide_eq_true_eq] at h
    intro hm
    rcases List.mem_cons.1 hm with rfl | hm
    · unfold Sep at hb; omega
    · exact nmOk_no hb l (k + 1) h.2 hm
theorem nm_no {b : UInt8} (hb : Sep b) {s : ByteArray} (h : nm 8 s = true) : b ∉ lst s := by
  unfold nm at h
  simp only [Bool.and_eq_true] at h
  exact nmOk_no hb _ 0 h.1
theorem drop_all {p : UInt8 → Bool} : ∀ {l : List UInt8}, l.dropWhile p = [] → ∀ x ∈ l, p x = true
  | [], _, x, hx => by cases hx
  | y :: l, h, x, hx => by
    rw [List.dropWhile_cons] at h
    split at h
    · rename_i hy
      rcases List.mem_cons.1 hx with rfl | hx
      · exact hy
      · exact drop_all h x hx
    · cases h
theorem drop_last {p : UInt8 → Bool} : ∀ {l : List UInt8}, l.dropWhile p ≠ [] → ∃ x, (l.dropWhile p).head? = some x ∧ p x = false
  | [], h => absurd rfl h
  | y :: l, h => by
    rw [List.dropWhile_cons] at h ⊢
    split
    · rename_i hy
      rw [if_pos hy] at h
      exact drop_last h
    · rename_i hy
      exact ⟨y, rfl, by simpa using hy⟩
theorem trim_all {l cs : List UInt8} (h : Lib.trimS l cs = []) : ∀ x ∈ l, cs.contains x = true := by
  unfold Lib.trimS Lib.trimLeftS at h
  have h1 := drop_all h
  unfold Lib.trimRightS at h1
  intro x hx
  by_cases hd : (l.reverse.dropWhile (cs.contains ·)) = []
  · exact drop_all hd x (List.mem_reverse.2 hx)
  · exfalso
    obtain ⟨y, hy, hc⟩ := drop_last hd
    have hm : y ∈ l.reverse.dropWhile (cs.contains ·) := List.mem_of_mem_head? (by rw [hy]; rfl)
    have := h1 y (List.mem_reverse.2 hm)
    rw [hc] at this; cases this
theorem kind_no {b : UInt8} (hb : Sep b) {s : ByteArray} (h : kindF s = true) : b ∉ lst s := by
  unfold kindF at h
  simp only [Bool.and_eq_true] at h
  have h2 : Lib.trimS s.data.toList azS.data.toList = [] := by
    have h3 := h.2
    unfold emptyB at h3
    rw [Lib.toList_data, Lib.toList_data] at h3
    simpa [trimB] using h3
  intro hm
  have h3 := trim_all h2 b hm
  unfold Sep at hb
  have h4 : ∀ c ∈ azS.data.toList, 45 ≤ c.toNat := by decide
  have := h4 b (by simpa using h3)
  omega
theorem itoa_no' {b : UInt8} (hb : Sep b) (n : Int) : b ∉ lst (itoaB n) := itoa_no n b (.inl hb)
theorem hex_no {b : UInt8} (hb : Sep b) : ∀ (k u : Nat), b ∉ hexF k u
  | 0, u => by
    have h4 : ∀ i : Fin 16, 45 ≤ (hx i.val).toNat := by decide
    have := h4 ⟨u % 16, Nat.mod_lt _ (by decide)⟩
    unfold Sep at hb
    intro hm
    rw [hexF, List.mem_singleton] at hm
    subst hm
    dsimp only at this
    omega
  | k + 1, u => by
    have h4 : ∀ i : Fin 16, 45 ≤ (hx i.val).toNat := by decide
    have := h4 ⟨u % 16, Nat.mod_lt _ (by decide)⟩
    unfold Sep at hb
    intro hm
    rw [hexF] at hm
    split at hm
    · rw [List.mem_singleton] at hm
      subst hm
      dsimp only at this
      omega
    · rcases List.mem_append.1 hm with hm | hm
      · exact hex_no hb k _ hm
      · rw [List.mem_singleton] at hm
        subst hm
        dsimp only at this
        omega
theorem hexB_no {b : UInt8} (hb : Sep b) (d : Nat) : b ∉ lst (hexB d) := hex_no hb 15 d
theorem sp_sep : Sep 32 := by unfold Sep; decide
theorem nl_sep : Sep 10 := by unfold Sep; decide
theorem line_join (e : Ev) (d : ByteArray) : lineB e ++ ⟨#[32]⟩ ++ d = joinS 32 [itoaB e.time, e.kind, e.name, itoaB e.value, d] := by
  unfold lineB
  refine lst_inj ?_
  simp only [joinS, lst_app, List.append_assoc]
theorem num_back {n : Int} (h1 : -10000000 ≤ n) (h2 : n ≤ 10000000) : numB (itoaB n) = (n, true) := by
  unfold numB
  have h := num_itoa h1 h2
  rw [show numF (itoaB n) = (n, true) from h]
  simp
theorem num_can {s : ByteArray} (h : (numB s).2 = true) : itoaB (numB s).1 = s := by
  unfold numB at h ⊢
  simp only [Bool.and_eq_true, beq_iff_eq] at h
  have h2 := h.2
  rw [Lib.toList_data, Lib.toList_data] at h2
  exact lst_inj h2
theorem evE_of {e : Ev} (h : evE e = 0) : (0 ≤ e.time ∧ e.time ≤ 200000) ∧ (kindF e.kind = true ∧ nm 8 e.name = true) ∧ -1000000 ≤ e.value ∧ e.value ≤ 1000000 := evE_ok h
theorem read_ok {e : Ev} {d : ByteArray} (h : evE e = 0) (hd : (32 : UInt8) ∉ lst d) : readF (lineB e ++ ⟨#[32]⟩ ++ d) = (e, d, true) := by
  obtain ⟨h1, ⟨h2, h3⟩, h4⟩ := evE_of h
  have hs : splitS (lineB e ++ ⟨#[32]⟩ ++ d) 32 = [itoaB e.time, e.kind, e.name, itoaB e.value, d] := by
    rw [line_join]
    refine split_join (List.cons_ne_nil _ _) fun p hp => ?_
    simp only [List.mem_cons, List.not_mem_nil, or_false] at hp
    rcases hp with rfl | rfl | rfl | rfl | rfl
    · exact itoa_no' sp_sep _
    · exact kind_no sp_sep h2
    · exact nm_no sp_sep h3
    · exact itoa_no' sp_sep _
    · exact hd
  unfold readF
  rw [hs]
  dsimp only
  rw [num_back (by omega) (by omega), num_back (by omega) (by omega)]
  have : evE ⟨e.time, e.kind, e.name, e.value⟩ = 0 := h
  simp [this]
theorem read_can {l : ByteArray} (h : (readF l).2.2 = true) : l = lineB (readF l).1 ++ ⟨#[32]⟩ ++ (readF l).2.1 ∧ evE (readF l).1 = 0 := by
  have hj := join_split l 32
  unfold readF at h ⊢
  generalize splitS l 32 = L at *
  split at h
  · rename_i a b c d e
    dsimp only at h ⊢
    simp only [Bool.and_eq_true, beq_iff_eq] at h
    refine ⟨?_, h.2⟩
    rw [line_join, ← hj]
    dsimp only
    rw [num_can h.1.1, num_can h.1.2]
  · cases h
/-- What an event adds to the text. -/
def ent (a : Ar) (e : Ev) : ByteArray := lineB e ++ ⟨#[32]⟩ ++ hexB (digN a e) ++ ⟨#[10]⟩
theorem appE_ev' {a : Ar} {e : Ev} (h : appE a e = 0) : evE e = 0 := appE_ev h
theorem line_no10 {e : Ev} {d : ByteArray} (h : evE e = 0) (hd : (10 : UInt8) ∉ lst d) : (10 : UInt8) ∉ lst (lineB e ++ ⟨#[32]⟩ ++ d) := by
  obtain ⟨h1, ⟨h2, h3⟩, h4⟩ := evE_of h
  have k1 := itoa_no' nl_sep e.time
  have k2 := kind_no nl_sep h2
  have k3 := nm_no nl_sep h3
  have k4 := itoa_no' nl_sep e.value
  unfold lineB
  simp only [lst_app, lst_one, List.mem_append, List.mem_singleton]
  intro hm
  rcases hm with (((((((hm | hm) | hm) | hm) | hm) | hm) | hm) | hm) | hm
  · exact k1 hm
  · exact absurd hm (by decide)
  · exact k2 hm
  · exact absurd hm (by decide)
  · exact k3 hm
  · exact absurd hm (by decide)
  · exact k4 hm
  · exact absurd hm (by decide)
  · exact hd hm
theorem ent_cut {a : Ar} {e : Ev} (h : appE a e = 0) {l z z' : ByteArray} (hl : (10 : UInt8) ∉ lst l) (he : l ++ ⟨#[10]⟩ ++ z = ent a e ++ z') : l = lineB e ++ ⟨#[32]⟩ ++ hexB (digN a e) ∧ z = z' := by
  unfold ent at he
  exact txt_cut hl (line_no10 (appE_ev h) (hexB_no nl_sep _)) he
inductive Good : Ar → Prop
  | zero : Good Ar0
  | step {a : Ar} {e : Ev} : Good a → appE a e = 0 → Good (appD a e)
theorem appD_of {a : Ar} {e : Ev} (h : appE a e = 0) : appD a e = ⟨a.list ++ [e], a.text ++ ent a e, digN a e⟩ := by
  unfold appD
  rw [if_pos h]; rfl
theorem appD_not {a : Ar} {e : Ev} (h : appE a e ≠ 0) : appD a e = a := by
  unfold appD
  rw [if_neg h]
theorem good_len {a : Ar} (h : Good a) : a.list.length ≤ 300 ∧ a.dig < 18446744073709551616 := by
  induction h with
  | zero => exact ⟨by decide, by show begin0 < _; decide⟩
  | @step a e ha he ih =>
    rw [appD_of he]
    refine ⟨?_, fnv_lt _ _⟩
    show (a.list ++ [e]).length ≤ 300
    rw [List.length_append, List.length_singleton]
    have : a.list.length ≠ 300 := fun h300 => by
      unfold appE at he
      split at he
      · rename_i h1; exact h1 he
      · split at he
        · cases he
        · simp [h300] at he
    omega
/-- What is recovered from a text. -/
structure RecOut (s : ByteArray) (b : Ar) (rest : ByteArray) : Prop where
  good : Good b
  text : b.text ++ rest = s
  stop : ∀ e z, appE b e = 0 → rest ≠ ent b e ++ z
end Go.Proofs.YtemgclhenkbikaaDoor
