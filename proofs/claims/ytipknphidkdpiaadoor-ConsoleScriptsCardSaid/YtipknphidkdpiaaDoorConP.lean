/- The console: commands printed and parsed, plain. -/
import Derived.Test.YtipknphidkdpiaaDoorAwZl
import Derived.Test.YtipknphidkdpiaaDoorConB
import Derived.Test.YtipknphidkdpiaaDoorLibA
set_option linter.unusedVariables false
set_option linter.unusedSimpArgs false
namespace Go.Proofs.YtipknphidkdpiaaDoor
open Go.Proofs.YtipknphidkdpiaaDoor.Aw
attribute [local go_sem] Int.natCast_zero Int.natCast_one bne_self_eq_false beq_self_eq_true Bool.not_true Bool.not_false Option.isSome_none Option.isSome_some Aw.bkM_nil Option.getD_some Option.getD_none Nat.sub_zero Int.toNat_zero Aw.frzS Aw.frzT Aw.frzA Aw.frzL Aw.frzR Aw.frzO Aw.frzOL Aw.frzOT Aw.frzOR Aw.killS Aw.mapT Aw.mapR Aw.killM Aw.resAVs Aw.resAV Aw.quietOps Aw.wpP Aw.wpT Aw.wpS Aw.AOp.mild List.getElem?_cons_zero List.getElem?_cons_succ Bool.and_false Bool.and_self Bool.false_and Aw.opOb Aw.gdB Aw.Rnd Aw.subTm List.length_map Int.toNat_natCast and_self Aw.SeqC Aw.stops Aw.Ends Aw.looks Aw.renA Aw.renL Aw.renT Aw.renS Aw.wpO Aw.aop Aw.putTm Aw.St.ev Aw.St.put Aw.St.putO Aw.binAV Aw.intBin Aw.strBin Aw.pickAV Aw.optInt Aw.AV.strip Aw.AV.guard Aw.AV.cells Aw.gdOb Aw.AOp.opds Aw.AOp.still Aw.ptrCells Aw.St.reg Aw.fillAV Aw.fillOb Aw.elsOb Aw.splice Aw.firm Aw.cellish Aw.AV.shut Aw.shutAll Aw.Seq Aw.Blk Aw.retS_nil Aw.mapA Aw.mapL Aw.borA Aw.borOb Aw.allOb Aw.tupOf Aw.params Aw.Opd.of Array.toList Value.cells List.map_cons List.map_nil List.getD_cons_zero List.getD_cons_succ List.getD_nil List.length_cons List.length_nil List.take_succ_cons List.take_zero List.take_nil List.drop_zero List.drop_succ_cons List.drop_nil List.set_cons_zero List.set_cons_succ List.append_nil List.nil_append List.cons_append List.all_cons List.all_nil cond_false cond_true if_true if_false true_and and_true Bool.and_true Bool.true_and Option.map_some Option.map_none false_implies forall_const implies_true forall_eq imp_self Bool.cond_false_right Bool.cond_true_left beq_true beq_false Bool.not_eq_true' Bool.false_eq_true Nat.zero_add Nat.add_zero Aw.eqCells Aw.stopDraw Aw.skipS Aw.exactCap Aw.revealS Aw.srcEls Aw.srcSz
attribute [local go_sem ↓] Aw.look_nil Aw.look_ite Aw.wpL_nil Aw.wpL_op Aw.wpL_gd Aw.wpQ_nil Aw.wpQ_op Aw.wpQ_gd Aw.wpC_draw Aw.wpC_reg Aw.wpC_skip Aw.wpC_ret Aw.wpC_exit Aw.wpC_seq Aw.wpC_block Aw.wpC_loop Aw.wpC_cond Aw.stopAt_nil Aw.stopAt_cons Aw.wpD_skip Aw.wpD_ret Aw.wpD_exit Aw.wpD_region Aw.wpD_draw Aw.wpM_nil Aw.wpM_op Aw.wpM_gd Aw.wpD_seq Aw.wpD_block Aw.wpD_loop Aw.wpD_cond
structure Vb where
  name : ByteArray
  named : Bool
  number : Bool
  least : Int
  most : Int
abbrev vc (v : Vb) : List AV := [S v.name, B v.named, B v.number, I v.least, I v.most]
structure Cmd where
  verb : ByteArray
  name : ByteArray
  n : Int
abbrev cc (c : Cmd) : List AV := [S c.verb, S c.name, I c.n]
def vz : Vb := ⟨⟨#[]⟩, false, false, 0, 0⟩
def cz : Cmd := ⟨⟨#[]⟩, ⟨#[]⟩, 0⟩
def vbs : List Vb := [⟨⟨#[97, 99, 107]⟩, true, false, 0, 0⟩, ⟨⟨#[99, 108, 111, 115, 101]⟩, true, false, 0, 0⟩, ⟨⟨#[103, 101, 110]⟩, true, true, 0, 100000⟩, ⟨⟨#[108, 111, 97, 100]⟩, true, true, 0, 100000⟩,
  ⟨⟨#[111, 112, 101, 110]⟩, true, false, 0, 0⟩, ⟨⟨#[115, 116, 111, 114, 101]⟩, true, true, -100000, 100000⟩, ⟨⟨#[116, 101, 108, 108]⟩, false, false, 0, 0⟩, ⟨⟨#[119, 97, 105, 116]⟩, false, true, 0, 3600⟩]
def idxV (s : ByteArray) : Int := fIndex (fun v : Vb => v.name.toList == s.toList) 0 vbs
def findV (s : ByteArray) : Vb × Bool := if idxV s < 0 then (vz, false) else (vbs.getD (idxV s).toNat vz, true)
def emp (s : ByteArray) : Bool := s.toList == (⟨#[]⟩ : ByteArray).toList
def checkF (c : Cmd) : Int :=
  if (findV c.verb).2 = false then 5
  else if ((findV c.verb).1.named && !nm 8 c.name) = true then 6
  else if ((!(findV c.verb).1.named && !emp c.name) || (!(findV c.verb).1.number && (c.n != 0))) = true then 3
  else if (decide (c.n < (findV c.verb).1.least) || decide (c.n > (findV c.verb).1.most)) = true then 4 else 0
def textF (v : Vb) (c : Cmd) : ByteArray :=
  let s1 := if v.named = true then c.verb ++ (⟨#[32]⟩ ++ c.name) else c.verb
  if v.number = true then s1 ++ (⟨#[32]⟩ ++ itoaB c.n) else s1
def printF (c : Cmd) : ByteArray × Int := if checkF c = 0 then (textF (findV c.verb).1 c, 0) else (⟨#[]⟩, checkF c)
def manyF (v : Vb) : Nat := 1 + (if v.named = true then 1 else 0) + (if v.number = true then 1 else 0)
def doneF (c : Cmd) : Cmd × Int := if checkF c = 0 then (c, 0) else (cz, checkF c)
def parseL (L : List ByteArray) : Cmd × Int :=
  if (findV (L.getD 0 ⟨#[]⟩)).2 = false ∨ L.length ≠ manyF (findV (L.getD 0 ⟨#[]⟩)).1 then (cz, 5)
  else if (findV (L.getD 0 ⟨#[]⟩)).1.number = true then
    if (numB (L.getD (manyF (findV (L.getD 0 ⟨#[]⟩)).1 - 1) ⟨#[]⟩)).2 = false then (cz, 5)
    else doneF ⟨(findV (L.getD 0 ⟨#[]⟩)).1.name, if (findV (L.getD 0 ⟨#[]⟩)).1.named = true then L.getD 1 ⟨#[]⟩ else ⟨#[]⟩, (numB (L.getD (manyF (findV (L.getD 0 ⟨#[]⟩)).1 - 1) ⟨#[]⟩)).1⟩
  else doneF ⟨(findV (L.getD 0 ⟨#[]⟩)).1.name, if (findV (L.getD 0 ⟨#[]⟩)).1.named = true then L.getD 1 ⟨#[]⟩ else ⟨#[]⟩, 0⟩
def parseF (s : ByteArray) : Cmd × Int := if s.size > 8192 then (cz, 2) else parseL (splitS s 32)
theorem fIndex_cases {A : Type} (p : A → Bool) : ∀ (l : List A) (k : Nat), fIndex p k l = -1 ∨ ∃ i, ∃ h : i < l.length, fIndex p k l = ((k + i : Nat) : Int) ∧ p l[i] = true
  | [], k => .inl rfl
  | x :: l, k => by
    unfold fIndex
    split
    · rename_i h
      exact .inr ⟨0, by simp, by simp, h⟩
    · rcases fIndex_cases p l (k + 1) with h | ⟨i, hi, h1, h2⟩
      · exact .inl h
      · exact .inr ⟨i + 1, by simpa using hi, by rw [h1]; congr 1; omega, by simpa using h2⟩
theorem idxV_cases (s : ByteArray) : idxV s = -1 ∨ ∃ i, ∃ h : i < vbs.length, idxV s = (i : Int) ∧ vbs[i].name = s := by
  rcases fIndex_cases (fun v : Vb => v.name.toList == s.toList) vbs 0 with h | ⟨i, hi, h1, h2⟩
  · exact .inl h
  · refine .inr ⟨i, hi, by unfold idxV; rw [h1, Nat.zero_add], ?_⟩
    rw [beq_iff_eq, Lib.toList_data, Lib.toList_data] at h2
    exact lst_inj h2
theorem find_of {s : ByteArray} (h : (findV s).2 = true) : (findV s).1 ∈ vbs ∧ (findV s).1.name = s := by
  unfold findV at h ⊢
  rcases idxV_cases s with h1 | ⟨i, hi, h1, h2⟩
  · rw [h1, if_pos (by decide)] at h; cases h
  · rw [h1, if_neg (by omega)]
    dsimp only
    rw [Int.toNat_natCast, List.getD_eq_getElem?_getD, List.getElem?_eq_getElem hi]
    exact ⟨List.getElem_mem hi, h2⟩
theorem vbs_facts : ∀ v ∈ vbs, (32 : UInt8) ∉ lst v.name ∧ (10 : UInt8) ∉ lst v.name ∧ v.name.size ≤ 5 ∧ -100000 ≤ v.least ∧ v.most ≤ 100000 := by
  have h : ∀ v ∈ vbs, (!(lst v.name).contains 32 && !(lst v.name).contains 10 && decide (v.name.size ≤ 5) && decide (-100000 ≤ v.least) && decide (v.most ≤ 100000)) = true := by
    unfold vbs
    intro v hv
    simp only [List.mem_cons, List.not_mem_nil, or_false] at hv
    rcases hv with rfl | rfl | rfl | rfl | rfl | rfl | rfl | rfl <;> decide +kernel
  intro v hv
  have := h v hv
  simp only [Bool.and_eq_true, Bool.not_eq_true', decide_eq_true_eq, List.contains_eq_mem, decide_eq_false_iff_not] at this
  exact ⟨this.1.1.1.1, this.1.1.1.2, this.1.1.2, this.1.2, this.2⟩
/-- What a command that is right says. -/
theorem check_of {c : Cmd} (h : checkF c = 0) : (findV c.verb).2 = true ∧ ((findV c.verb).1.named = true → nm 8 c.name = true) ∧ ((findV c.verb).1.named = false → c.name = ⟨#[]⟩) ∧ ((findV c.verb).1.number = false → c.n = 0) ∧ (findV c.verb).1.least ≤ c.n ∧ c.n ≤ (findV c.verb).1.most := by
  unfold checkF at h
  split at h
  · cases h
  · rename_i h1
    split at h
    · cases h
    · rename_i h2
      split at h
      · cases h
      · rename_i h3
        split at h
        · cases h
        · rename_i h4
          simp only [Bool.or_eq_true, decide_eq_true_eq] at h4
          refine ⟨by simpa using h1, fun hn => ?_, fun hn => ?_, fun hn => ?_, by omega, by omega⟩
          · rw [hn] at h2; simpa using h2
          · rw [hn] at h3
            simp only [Bool.not_false, Bool.true_and, Bool.or_eq_true, not_or, Bool.not_eq_true', Bool.not_eq_false] at h3
            have h5 := h3.1
            unfold emp at h5
            rw [beq_iff_eq, Lib.toList_data, Lib.toList_data] at h5
            exact lst_inj h5
          · rw [hn] at h3
            simp only [Bool.not_false, Bool.true_and, Bool.or_eq_true, not_or] at h3
            have := h3.2
            simpa using this
def partsF (v : Vb) (c : Cmd) : List ByteArray := c.verb :: ((if v.named = true then [c.name] else []) ++ (if v.number = true then [itoaB c.n] else []))
theorem text_join (v : Vb) (c : Cmd) : textF v c = joinS 32 (partsF v c) := by
  unfold textF partsF
  cases v.named <;> cases v.number <;> refine lst_inj ?_ <;> simp [joinS, lst_app]
theorem parts_len (v : Vb) (c : Cmd) : (partsF v c).length = manyF v := by
  unfold partsF manyF
  cases v.named <;> cases v.number <;> rfl
theorem parts_no {c : Cmd} (h : checkF c = 0) {b : UInt8} (hb : b = 32 ∨ b = 10) : ∀ p ∈ partsF (findV c.verb).1 c, b ∉ lst p := by
  obtain ⟨h1, h2, h3, h4, h5⟩ := check_of h
  obtain ⟨f1, f2⟩ := find_of h1
  obtain ⟨g1, g2, g3, g4, g5⟩ := vbs_facts _ f1
  have hs : Sep b := by rcases hb with rfl | rfl <;> (unfold Sep; decide)
  intro p hp
  unfold partsF at hp
  rcases List.mem_cons.1 hp with rfl | hp
  · rw [f2] at g1 g2
    rcases hb with rfl | rfl
    · exact g1
    · exact g2
  · rcases List.mem_append.1 hp with hp | hp
    · split at hp
      · rename_i hn
        rw [List.mem_singleton.1 hp]
        exact nm_no hs (h2 hn)
      · cases hp
    · split at hp
      · rw [List.mem_singleton.1 hp]
        exact itoa_no' hs _
      · cases hp
theorem split_text {c : Cmd} (h : checkF c = 0) : splitS (textF (findV c.verb).1 c) 32 = partsF (findV c.verb).1 c := by
  rw [text_join]
  exact split_join (List.cons_ne_nil _ _) (parts_no h (.inl rfl))
theorem text_size {c : Cmd} (h : checkF c = 0) : (textF (findV c.verb).1 c).size ≤ 100 := by
  obtain ⟨h1, h2, h3, h4, h5, h6⟩ := check_of h
  obtain ⟨f1, f2⟩ := find_of h1
  obtain ⟨g1, g2, g3, g4, g5⟩ := vbs_facts _ f1
  have hz : (⟨#[32]⟩ : ByteArray).size = 1 := rfl
  have hi : (itoaB c.n).size ≤ 21 := Lib.itoa_length_le c.n (by omega) (by omega)
  have hv : c.verb.size ≤ 5 := by rw [f2] at g3; exact g3
  have hn : (findV c.verb).1.named = true → c.name.size ≤ 8 := fun hn => by
    have := h2 hn
    unfold nm at this
    simp only [Bool.and_eq_true, decide_eq_true_eq] at this
    omega
  unfold textF
  dsimp only
  split
  · split
    · rename_i _ hnm
      have := hn hnm
      simp only [ByteArray.size_append]; omega
    · simp only [ByteArray.size_append]; omega
  · split
    · rename_i _ hnm
      have := hn hnm
      simp only [ByteArray.size_append]; omega
    · omega
theorem print_parse {c : Cmd} (h : checkF c = 0) : parseF (textF (findV c.verb).1 c) = (c, 0) := by
  have hz := text_size h
  obtain ⟨h1, h2, h3, h4, h5, h6⟩ := check_of h
  obtain ⟨f1, f2⟩ := find_of h1
  obtain ⟨g1, g2, g3, g4, g5⟩ := vbs_facts _ f1
  unfold parseF
  rw [if_neg (by omega), split_text h]
  have hl := parts_len (findV c.verb).1 c
  have h0 : (partsF (findV c.verb).1 c).getD 0 ⟨#[]⟩ = c.verb := rfl
  unfold parseL
  rw [h0, if_neg (by rw [h1, hl]; simp)]
  have hnb := num_back (n := c.n) (by omega) (by omega)
  have hend : ∀ c' : Cmd, c' = c → doneF c' = (c, 0) := fun c' e => by subst e; unfold doneF; rw [if_pos h]
  generalize hv : (findV c.verb).1 = v at *
  unfold partsF manyF
  cases hn : v.named with
  | true =>
    cases hm : v.number with
    | true =>
      simp [hnb]
      exact hend _ (by rw [f2])
    | false =>
      simp
      exact hend _ (by rw [f2, ← h4 hm])
  | false =>
    cases hm : v.number with
    | true =>
      simp [hnb]
      exact hend _ (by rw [f2, ← h3 hn])
    | false =>
      simp
      exact hend _ (by rw [f2, ← h3 hn, ← h4 hm])
theorem done_of {c d : Cmd} (h : doneF c = (d, 0)) : d = c ∧ checkF c = 0 := by
  unfold doneF at h
  split at h
  · rename_i h1
    exact ⟨(congrArg (·.1) h).symm, h1⟩
  · rename_i h1
    exact absurd (congrArg (·.2) h) h1
theorem parse_print {s : ByteArray} {d : Cmd} (h : parseF s = (d, 0)) : printF d = (s, 0) := by
  unfold parseF at h
  split at h
  · exact absurd (congrArg (·.2) h) (by simp)
  have hj := join_split s 32
  generalize splitS s 32 = L at *
  unfold parseL at h
  split at h
  · exact absurd (congrArg (·.2) h) (by simp)
  rename_i h1
  rw [not_or] at h1
  obtain ⟨h1, h2⟩ := h1
  have h1 : (findV (L.getD 0 ⟨#[]⟩)).2 = true := by simpa using h1
  have h2 : L.length = manyF (findV (L.getD 0 ⟨#[]⟩)).1 := by
    have := h2
    simpa using this
  obtain ⟨f1, f2⟩ := find_of h1
  have key : ∀ c : Cmd, checkF c = 0 → c.verb = L.getD 0 ⟨#[]⟩ → partsF (findV c.verb).1 c = L → printF c = (s, 0) := fun c hc hv hp => by
    unfold printF
    rw [if_pos hc, text_join, hp, hj]
  generalize hv : (findV (L.getD 0 ⟨#[]⟩)).1 = v at *
  split at h
  · rename_i hm
    split at h
    · exact absurd (congrArg (·.2) h) (by simp)
    · rename_i hnum
      have hq : (numB (L.getD (manyF v - 1) ⟨#[]⟩)).2 = true := by
        cases hb : (numB (L.getD (manyF v - 1) ⟨#[]⟩)).2 with
        | true => rfl
        | false => exact absurd hb hnum
      have hcan := num_can hq
      obtain ⟨rfl, hc⟩ := done_of h
      refine key _ hc f2 ?_
      unfold partsF
      dsimp only
      rw [f2, hv, if_pos hm, hcan]
      unfold manyF at h2 ⊢
      rw [if_pos hm] at h2 ⊢
      cases hn : v.named with
      | true =>
        rw [hn] at h2
        obtain ⟨a, b, c, rfl⟩ : ∃ a b c, L = [a, b, c] := by
          match L, h2 with
          | [a, b, c], _ => exact ⟨a, b, c, rfl⟩
        rfl
      | false =>
        rw [hn] at h2
        obtain ⟨a, b, rfl⟩ : ∃ a b, L = [a, b] := by
          match L, h2 with
          | [a, b], _ => exact ⟨a, b, rfl⟩
        rfl
  · rename_i hm
    obtain ⟨rfl, hc⟩ := done_of h
    refine key _ hc f2 ?_
    unfold partsF
    dsimp only
    rw [f2, hv, if_neg hm]
    unfold manyF at h2
    rw [if_neg hm] at h2
    cases hn : v.named with
    | true =>
      rw [hn] at h2
      obtain ⟨a, b, rfl⟩ : ∃ a b, L = [a, b] := by
        match L, h2 with
        | [a, b], _ => exact ⟨a, b, rfl⟩
      rfl
    | false =>
      rw [hn] at h2
      obtain ⟨a, rfl⟩ : ∃ a, L = [a] := by
        match L, h2 with
        | [a], _ => exact ⟨a, rfl⟩
      rfl
theorem done_err {c d : Cmd} {e : Int} (h : doneF c = (d, e)) (he : e ≠ 0) : d = cz := by
  unfold doneF at h
  split at h
  · exact absurd (congrArg (·.2) h).symm he
  · exact (congrArg (·.1) h).symm
theorem parse_err {s : ByteArray} {d : Cmd} {e : Int} (h : parseF s = (d, e)) (he : e ≠ 0) : d = cz := by
  unfold parseF at h
  split at h
  · exact (congrArg (·.1) h).symm
  unfold parseL at h
  split at h
  · exact (congrArg (·.1) h).symm
  split at h
  · split at h
    · exact (congrArg (·.1) h).symm
    · exact done_err h he
  · exact done_err h he
end Go.Proofs.YtipknphidkdpiaaDoor
