/- The verbs that begin with a text are those of all verbs that do: for every text of at most 140737488351232 bytes. -/
import Derived.Test.YthmehpojcecldaaPConsoleCompletesx1
namespace Go.Proofs.Ythmehpojcecldaa.Pure
open Go.RowKit Go.Proofs.Ythmehpojcecldaa.PConsoleCompletes Go.Proofs.YthmehpojcecldaaW.PrintWords Go.Proofs.YthmehpojcecldaaW.PrintLast

def hp (a b : ByteArray) : Bool := (strings_HasPrefix.f a b).getD false

theorem hp_some (a b : ByteArray) : strings_HasPrefix.f a b = some (hp a b) := by
  unfold hp strings_HasPrefix.f stringslite_HasPrefix.f
  split <;> rfl

theorem hp_empty (a : ByteArray) : hp a ⟨#[]⟩ = true := by
  unfold hp strings_HasPrefix.f stringslite_HasPrefix.f
  have e : ((⟨#[]⟩ : ByteArray).size : Int) = 0 := rfl
  rw [if_pos (by omega), if_pos (by omega), if_pos (by omega), e]
  simp

theorem rd_get (vs : List S89) (i : Int) (h0 : 0 ≤ i) (h : i < vs.length) : vs.drop i.toNat = rd_T89 vs i :: vs.drop (i + 1).toNat := by
  have e : (i + 1).toNat = i.toNat + 1 := by omega
  rw [e, List.drop_eq_getElem_cons (by omega)]
  unfold rd_T89
  rw [List.getD_eq_getElem?_getD, List.getElem?_eq_getElem (by omega)]; rfl

theorem rdOf_get (vs : List ByteArray) (i : Int) (h0 : 0 ≤ i) (h : i < vs.length) : vs.drop i.toNat = rdOf ByteArray.empty vs i :: vs.drop (i + 1).toNat := by
  have e : (i + 1).toNat = i.toNat + 1 := by omega
  rw [e, List.drop_eq_getElem_cons (by omega)]
  unfold rdOf
  rw [List.getD_eq_getElem?_getD, List.getElem?_eq_getElem (by omega)]; rfl

theorem complete_tells (x : ByteArray) (vs : List S89) (hn : vs.length ≤ 1000) (d : Nat) : ∀ (k : Nat) (out : List ByteArray) (i : Int), 0 ≤ i → i ≤ vs.length → (vs.length : Int) - i = d → d < k → out.length + d ≤ 2000 →
    console_Complete.l0 k x out vs vs.length i = some (out ++ ((vs.drop i.toNat).filter (fun v => hp v.f0 x)).map S89.f0) := by
  induction d with
  | zero =>
    intro k out i h0 h1 hd hk _
    obtain ⟨k, rfl⟩ : ∃ m, k = m + 1 := ⟨k - 1, by omega⟩
    have e : vs.drop i.toNat = [] := List.drop_eq_nil_of_le (by omega)
    simp only [console_Complete.l0]; rw [if_neg (by omega), e]; simp
  | succ d ih =>
    intro k out i h0 h1 hd hk ho
    obtain ⟨k, rfl⟩ : ∃ m, k = m + 1 := ⟨k - 1, by omega⟩
    have hlt : i < (vs.length : Int) := by omega
    have hw : wrap64 (i + 1) = i + 1 := by unfold wrap64; omega
    simp only [console_Complete.l0]
    rw [if_pos hlt, if_pos h0, if_pos hlt, hp_some]
    simp only [Option.bind_some]
    rw [hw, rd_get vs i h0 hlt]
    by_cases hb : hp (rd_T89 vs i).f0 x = true
    · rw [if_pos hb, if_pos (by omega), ih k (out ++ [(rd_T89 vs i).f0]) (i + 1) (by omega) (by omega) (by omega) (by omega) (by simp; omega)]
      simp [hb]
    · rw [if_neg hb, ih k out (i + 1) (by omega) (by omega) (by omega) (by omega) (by omega)]
      simp [hb]

theorem law_tells (x : ByteArray) (vs : List ByteArray) (hn : vs.length ≤ 1000) (r : Option Bool) (d : Nat) : ∀ (k : Nat) (out : List ByteArray) (i : Int), 0 ≤ i → i ≤ vs.length → (vs.length : Int) - i = d → d < k → out.length + d ≤ 2000 →
    (((console_Complete.f (k - 1 - d) x).bind fun t130 => ((slices_Equal_string_string.f (k - 1 - d) t130 (out ++ (vs.drop i.toNat).filter (fun v => hp v x))).bind fun t133 => (some t133))) = r) →
    gridhallkeep4_ConsoleCompletes.l0 k x out vs vs.length i = r := by
  induction d with
  | zero =>
    intro k out i h0 h1 hd hk _ hr
    obtain ⟨k, rfl⟩ : ∃ m, k = m + 1 := ⟨k - 1, by omega⟩
    have e : vs.drop i.toNat = [] := List.drop_eq_nil_of_le (by omega)
    simp only [gridhallkeep4_ConsoleCompletes.l0]; rw [if_neg (by omega)]
    rw [e] at hr
    simpa using hr
  | succ d ih =>
    intro k out i h0 h1 hd hk ho hr
    obtain ⟨k, rfl⟩ : ∃ m, k = m + 1 := ⟨k - 1, by omega⟩
    have hlt : i < (vs.length : Int) := by omega
    have hw : wrap64 (i + 1) = i + 1 := by unfold wrap64; omega
    simp only [gridhallkeep4_ConsoleCompletes.l0]
    rw [if_pos hlt, if_pos h0, if_pos hlt, hp_some]
    simp only [Option.bind_some]
    rw [rdOf_get vs i h0 hlt] at hr
    rw [show k + 1 - 1 - (d + 1) = k - 1 - d by omega] at hr
    rw [hw]
    by_cases hb : hp (rdOf ByteArray.empty vs i) x = true
    · rw [if_pos hb, if_pos (by omega)]
      refine ih k _ (i + 1) (by omega) (by omega) (by omega) (by omega) (by simp; omega) ?_
      rw [List.filter_cons_of_pos (p := fun v => hp v x) hb] at hr
      simpa using hr
    · rw [if_neg hb]
      refine ih k _ (i + 1) (by omega) (by omega) (by omega) (by omega) (by omega) ?_
      rw [List.filter_cons_of_neg (p := fun v => hp v x) hb] at hr
      exact hr

theorem equal_tells (l : List ByteArray) (hn : l.length ≤ 2000) (d : Nat) : ∀ (k : Nat) (i : Int), 0 ≤ i → i ≤ l.length → (l.length : Int) - i = d → d < k →
    slices_Equal_string_string.l0 k l l l.length i = some true := by
  induction d with
  | zero =>
    intro k i h0 h1 hd hk
    obtain ⟨k, rfl⟩ : ∃ m, k = m + 1 := ⟨k - 1, by omega⟩
    simp only [slices_Equal_string_string.l0]; rw [if_neg (by omega)]
  | succ d ih =>
    intro k i h0 h1 hd hk
    obtain ⟨k, rfl⟩ : ∃ m, k = m + 1 := ⟨k - 1, by omega⟩
    have hlt : i < (l.length : Int) := by omega
    have hw : wrap64 (i + 1) = i + 1 := by unfold wrap64; omega
    simp only [slices_Equal_string_string.l0]
    rw [if_pos hlt, if_pos h0, if_pos hlt, if_pos hlt, hw]
    simp only [if_true]
    exact ih k (i + 1) (by omega) (by omega) (by omega) (by omega)

def theVerbs : List S89 := [(⟨(⟨#[97, 99, 107]⟩ : ByteArray), true, false, 0, 0⟩ : S89), (⟨(⟨#[99, 108, 111, 115, 101]⟩ : ByteArray), true, false, 0, 0⟩ : S89), (⟨(⟨#[103, 101, 110]⟩ : ByteArray), true, true, 0, 100000⟩ : S89), (⟨(⟨#[108, 111, 97, 100]⟩ : ByteArray), true, true, 0, 100000⟩ : S89), (⟨(⟨#[111, 112, 101, 110]⟩ : ByteArray), true, false, 0, 0⟩ : S89), (⟨(⟨#[115, 116, 111, 114, 101]⟩ : ByteArray), true, true, (-100000), 100000⟩ : S89), (⟨(⟨#[116, 101, 108, 108]⟩ : ByteArray), false, false, 0, 0⟩ : S89), (⟨(⟨#[119, 97, 105, 116]⟩ : ByteArray), false, true, 0, 3600⟩ : S89)]

def theNames : List ByteArray := theVerbs.map S89.f0

theorem verbs_are : console_verbs.f = some theVerbs := rfl
theorem verbs_length : theVerbs.length = 8 := rfl
theorem names_length : theNames.length = 8 := rfl

theorem complete_is (x : ByteArray) (k : Nat) (hk : 8 < k) : console_Complete.f k x = some ((theVerbs.filter (fun v => hp v.f0 x)).map S89.f0) := by
  unfold console_Complete.f
  rw [verbs_are]
  simp only [Option.bind_some]
  rw [complete_tells x theVerbs (by rw [verbs_length]; omega) 8 k [] 0 (by omega) (by omega) (by rw [verbs_length]; omega) hk (by simp)]
  rw [List.nil_append]
  rfl

theorem filter_names (x : ByteArray) : theNames.filter (fun v => hp v x) = (theVerbs.filter (fun v => hp v.f0 x)).map S89.f0 := by
  unfold theNames
  rw [List.filter_map]; rfl

theorem all_names : (theVerbs.filter (fun v => hp v.f0 ⟨#[]⟩)).map S89.f0 = theNames := by
  have e : (theVerbs.filter (fun v => hp v.f0 ⟨#[]⟩)) = theVerbs := List.filter_eq_self.mpr fun v _ => hp_empty v.f0
  rw [e]; rfl

theorem sorted_least : slices_IsSorted_string_string.f 8 theNames = some true := by kernel_rfl
theorem sorted_names (k : Nat) : slices_IsSorted_string_string.f (k + 8) theNames = some true := by
  induction k with
  | zero => exact sorted_least
  | succ k ih =>
    rw [show k + 1 + 8 = (k + 8) + 1 by omega]
    exact slices_IsSorted_string_string.mono theNames (k + 8) true ih

theorem last_step (a0 : ByteArray) (k : Nat) (hk : 20 ≤ k) :
    ((console_Complete.f k a0).bind fun t130 => ((slices_Equal_string_string.f k t130 (([] : List ByteArray) ++ (theNames.drop (0 : Int).toNat).filter (fun v => hp v a0))).bind fun t133 => (some t133))) = some true := by
  rw [complete_is _ _ (by omega)]
  simp only [Option.bind_some]
  have e2 : ([] : List ByteArray) ++ (theNames.drop (0 : Int).toNat).filter (fun v => hp v a0) = (theVerbs.filter (fun v => hp v.f0 a0)).map S89.f0 := filter_names a0
  rw [e2]
  unfold slices_Equal_string_string.f
  rw [if_pos rfl]
  have hlen : ((theVerbs.filter (fun v => hp v.f0 a0)).map S89.f0).length ≤ 8 := by
    rw [List.length_map]; exact List.length_filter_le _ _
  generalize (theVerbs.filter (fun v => hp v.f0 a0)).map S89.f0 = l at *
  rw [equal_tells l (by omega) l.length _ 0 (by omega) (by omega) (by omega) (by omega)]
  rfl

theorem law_all (a0 : ByteArray) (k : Nat) (hk : 32 ≤ k) : gridhallkeep4_ConsoleCompletes.f (k + 1 + 8) a0 = some true := by
  unfold gridhallkeep4_ConsoleCompletes.f
  rw [complete_is _ (k + 1 + 8) (by omega), all_names]
  simp only [Option.bind_some]
  rw [if_pos (by rw [names_length]; rfl), sorted_names]
  simp only [Option.bind_some, Bool.not_true]
  rw [show k + 1 + 8 = (k + 8) + 1 by omega]
  simp only [gridhallkeep4_ConsoleCompletes.j0]
  rw [if_neg (by simp)]
  refine law_tells a0 theNames (by rw [names_length]; omega) _ 8 (k + 8) [] 0 (by omega) (by omega) (by rw [names_length]; rfl) (by omega) (by simp) ?_
  exact last_step a0 _ (by omega)

theorem ConsoleCompletes : gridhallkeep4_ConsoleCompletes.Pure := by
  intro a0 _
  exact ⟨_, law_all a0 32 (Nat.le_refl _)⟩

end Go.Proofs.Ythmehpojcecldaa.Pure
