/- Texts cut at a byte: plain facts. -/
import Derived.Test.YtocghkacngoblaaDoorAwZl
import Derived.Test.YtocghkacngoblaaDoorSplA
import Derived.Lib.CountLaws
set_option linter.unusedVariables false
set_option linter.unusedSimpArgs false
namespace Go.Proofs.YtocghkacngoblaaDoor
open Go.Proofs.YtocghkacngoblaaDoor.Aw
attribute [local go_sem] Int.natCast_zero Int.natCast_one bne_self_eq_false beq_self_eq_true Bool.not_true Bool.not_false Option.isSome_none Option.isSome_some Aw.bkM_nil Option.getD_some Option.getD_none Nat.sub_zero Int.toNat_zero Aw.frzS Aw.frzT Aw.frzA Aw.frzL Aw.frzR Aw.frzO Aw.frzOL Aw.frzOT Aw.frzOR Aw.killS Aw.mapT Aw.mapR Aw.killM Aw.resAVs Aw.resAV Aw.quietOps Aw.wpP Aw.wpT Aw.wpS Aw.AOp.mild List.getElem?_cons_zero List.getElem?_cons_succ Bool.and_false Bool.and_self Bool.false_and Aw.opOb Aw.gdB Aw.Rnd Aw.subTm List.length_map Int.toNat_natCast and_self Aw.SeqC Aw.stops Aw.Ends Aw.looks Aw.renA Aw.renL Aw.renT Aw.renS Aw.wpO Aw.aop Aw.putTm Aw.St.ev Aw.St.put Aw.St.putO Aw.binAV Aw.intBin Aw.strBin Aw.pickAV Aw.optInt Aw.AV.strip Aw.AV.guard Aw.AV.cells Aw.gdOb Aw.AOp.opds Aw.AOp.still Aw.ptrCells Aw.St.reg Aw.fillAV Aw.fillOb Aw.elsOb Aw.splice Aw.firm Aw.cellish Aw.AV.shut Aw.shutAll Aw.Seq Aw.Blk Aw.retS_nil Aw.mapA Aw.mapL Aw.borA Aw.borOb Aw.allOb Aw.tupOf Aw.params Aw.Opd.of Array.toList Value.cells List.map_cons List.map_nil List.getD_cons_zero List.getD_cons_succ List.getD_nil List.length_cons List.length_nil List.take_succ_cons List.take_zero List.take_nil List.drop_zero List.drop_succ_cons List.drop_nil List.set_cons_zero List.set_cons_succ List.append_nil List.nil_append List.cons_append List.all_cons List.all_nil cond_false cond_true if_true if_false true_and and_true Bool.and_true Bool.true_and Option.map_some Option.map_none false_implies forall_const implies_true forall_eq imp_self Bool.cond_false_right Bool.cond_true_left beq_true beq_false Bool.not_eq_true' Bool.false_eq_true Nat.zero_add Nat.add_zero Aw.eqCells Aw.stopDraw Aw.skipS Aw.exactCap Aw.revealS Aw.srcEls Aw.srcSz
attribute [local go_sem ↓] Aw.look_nil Aw.look_ite Aw.wpL_nil Aw.wpL_op Aw.wpL_gd Aw.wpQ_nil Aw.wpQ_op Aw.wpQ_gd Aw.wpC_draw Aw.wpC_reg Aw.wpC_skip Aw.wpC_ret Aw.wpC_exit Aw.wpC_seq Aw.wpC_block Aw.wpC_loop Aw.wpC_cond Aw.stopAt_nil Aw.stopAt_cons Aw.wpD_skip Aw.wpD_ret Aw.wpD_exit Aw.wpD_region Aw.wpD_draw Aw.wpM_nil Aw.wpM_op Aw.wpM_gd Aw.wpD_seq Aw.wpD_block Aw.wpD_loop Aw.wpD_cond
abbrev lst (s : ByteArray) : List UInt8 := s.data.toList
theorem lst_inj {a b : ByteArray} (h : lst a = lst b) : a = b := ByteArray.ext (Array.toList_inj.1 h)
theorem lst_app (a b : ByteArray) : lst (a ++ b) = lst a ++ lst b := by simp [lst, ByteArray.data_append]
theorem lst_one (b : UInt8) : lst ⟨#[b]⟩ = [b] := rfl
theorem lst_len (a : ByteArray) : (lst a).length = a.size := rfl
theorem idx_miss {b : UInt8} : ∀ {l : List UInt8}, b ∉ l → Lib.indexByte l b = -1
  | [], _ => rfl
  | x :: l, h => by
    have h1 : ¬x = b := fun e => h (e ▸ List.mem_cons_self)
    have h2 := idx_miss (l := l) fun hm => h (List.mem_cons_of_mem _ hm)
    unfold Lib.indexByte
    rw [if_neg (by simpa using h1), if_pos (by rw [h2]; rfl)]
theorem idx_hit {b : UInt8} {r : List UInt8} : ∀ {l : List UInt8}, b ∉ l → Lib.indexByte (l ++ b :: r) b = l.length
  | [], _ => by simp [Lib.indexByte]
  | x :: l, h => by
    have h1 : ¬x = b := fun e => h (e ▸ List.mem_cons_self)
    have h2 := idx_hit (r := r) (l := l) fun hm => h (List.mem_cons_of_mem _ hm)
    rw [List.cons_append]
    unfold Lib.indexByte
    rw [if_neg (by simpa using h1), h2, if_neg (by simp)]
    simp
theorem lst_split {b : UInt8} : ∀ {l : List UInt8}, b ∈ l → ∃ p r, l = p ++ b :: r ∧ b ∉ p
  | [], h => by cases h
  | x :: l, h => by
    by_cases hx : x = b
    · exact ⟨[], l, by rw [hx]; rfl, by simp⟩
    · obtain ⟨p, r, h1, h2⟩ := lst_split (l := l) (by rcases List.mem_cons.1 h with e | e; exact absurd e.symm hx; exact e)
      exact ⟨x :: p, r, by rw [h1]; rfl, fun hm => by rcases List.mem_cons.1 hm with e | e; exact hx e.symm; exact h2 e⟩
/-- A text holds the byte, or is what comes before it, it, and what comes after. -/
theorem txt_split {b : UInt8} {s : ByteArray} (h : b ∈ lst s) : ∃ p r : ByteArray, s = p ++ ⟨#[b]⟩ ++ r ∧ b ∉ lst p := by
  obtain ⟨p, r, h1, h2⟩ := lst_split h
  refine ⟨⟨p.toArray⟩, ⟨r.toArray⟩, lst_inj ?_, by simpa [lst] using h2⟩
  rw [lst_app, lst_app, h1]
  simp [lst]
theorem app_cut {b : UInt8} : ∀ {p q r t : List UInt8}, b ∉ p → b ∉ q → p ++ b :: r = q ++ b :: t → p = q ∧ r = t
  | [], [], _, _, _, _, h => by simpa using h
  | [], x :: q, _, _, _, hq, h => by
    rw [List.nil_append, List.cons_append] at h
    obtain ⟨rfl, _⟩ := List.cons.inj h
    exact absurd List.mem_cons_self hq
  | x :: p, [], _, _, hp, _, h => by
    rw [List.nil_append, List.cons_append] at h
    obtain ⟨rfl, _⟩ := List.cons.inj h
    exact absurd List.mem_cons_self hp
  | x :: p, y :: q, _, _, hp, hq, h => by
    rw [List.cons_append, List.cons_append] at h
    obtain ⟨rfl, h2⟩ := List.cons.inj h
    obtain ⟨rfl, rfl⟩ := app_cut (fun hm => hp (List.mem_cons_of_mem _ hm)) (fun hm => hq (List.mem_cons_of_mem _ hm)) h2
    exact ⟨rfl, rfl⟩
theorem txt_cut {b : UInt8} {p q r t : ByteArray} (hp : b ∉ lst p) (hq : b ∉ lst q) (h : p ++ ⟨#[b]⟩ ++ r = q ++ ⟨#[b]⟩ ++ t) : p = q ∧ r = t := by
  have h' := congrArg lst h
  rw [lst_app, lst_app, lst_app, lst_app, lst_one] at h'
  obtain ⟨h1, h2⟩ := app_cut hp hq (by simpa using h')
  exact ⟨lst_inj h1, lst_inj h2⟩
theorem sp_eq (s : ByteArray) (b : UInt8) : splitS s b = if b ∈ lst s then s.extract 0 (Lib.indexByte (lst s) b).toNat :: splitS (s.extract ((Lib.indexByte (lst s) b).toNat + 1) s.size) b else [s] := by
  have hI : Lib.indexB s ⟨#[b]⟩ = Lib.indexByte (lst s) b := Lib.index_one _ _
  by_cases h : b ∈ lst s
  · rw [if_pos h]
    obtain ⟨p, r, h1, h2⟩ := lst_split h
    have h3 : Lib.indexB s ⟨#[b]⟩ = (p.length : Nat) := by rw [hI, h1, idx_hit h2]
    have h4 : Lib.indexByte (lst s) b = (p.length : Nat) := by rw [h1, idx_hit h2]
    unfold splitS
    rw [Lib.countB_hit s ⟨#[b]⟩ p.length (Nat.le_refl 1) h3, Nat.add_comm 1, Lib.splitB_hit _ _ _ _ _ h3, h4]
    rfl
  · rw [if_neg h]
    have h3 : Lib.indexB s ⟨#[b]⟩ = -1 := by rw [hI, idx_miss h]
    exact Lib.splitB_miss _ _ _ _ h3
theorem sp_miss {s : ByteArray} {b : UInt8} (h : b ∉ lst s) : splitS s b = [s] := by rw [sp_eq, if_neg h]
theorem lst_ext (s : ByteArray) (i j : Nat) : lst (s.extract i j) = ((lst s).drop i).take (j - i) := by
  simp [lst, ByteArray.data_extract, List.extract_eq_take_drop]
theorem ext_hit (p r : ByteArray) (b : UInt8) : (p ++ ⟨#[b]⟩ ++ r).extract 0 p.size = p ∧ (p ++ ⟨#[b]⟩ ++ r).extract (p.size + 1) (p ++ ⟨#[b]⟩ ++ r).size = r := by
  have hz : (p ++ ⟨#[b]⟩ ++ r).size = p.size + 1 + r.size := by rw [ByteArray.size_append, ByteArray.size_append]; rfl
  have hl : (lst p ++ [b]).length = p.size + 1 := by rw [List.length_append, lst_len]; rfl
  constructor
  · refine lst_inj ?_
    rw [lst_ext, lst_app, lst_app, List.append_assoc, List.drop_zero, Nat.sub_zero, List.take_left' (lst_len p)]
  · refine lst_inj ?_
    rw [lst_ext, lst_app, lst_app, lst_one, List.drop_left' hl, hz, List.take_of_length_le (by rw [lst_len]; omega)]
theorem idx_txt {p r : ByteArray} {b : UInt8} (h : b ∉ lst p) : Lib.indexByte (lst (p ++ ⟨#[b]⟩ ++ r)) b = (p.size : Nat) := by
  rw [lst_app, lst_app, lst_one, List.append_assoc]
  exact idx_hit h
theorem mem_hit (p r : ByteArray) (b : UInt8) : b ∈ lst (p ++ ⟨#[b]⟩ ++ r) := by
  rw [lst_app, lst_app, lst_one]
  exact List.mem_append_left _ (List.mem_append_right _ (List.mem_singleton_self b))
theorem sp_hit {p r : ByteArray} {b : UInt8} (h : b ∉ lst p) : splitS (p ++ ⟨#[b]⟩ ++ r) b = p :: splitS r b := by
  rw [sp_eq, if_pos (mem_hit p r b), idx_txt h]
  obtain ⟨h1, h2⟩ := ext_hit p r b
  rw [Int.toNat_natCast, h1, h2]
theorem split_ind (b : UInt8) {C : ByteArray → Prop} (miss : ∀ s, b ∉ lst s → C s) (hit : ∀ p r, b ∉ lst p → C r → C (p ++ ⟨#[b]⟩ ++ r)) : ∀ (k : Nat) (s : ByteArray), s.size ≤ k → C s
  | k, s, h => by
    by_cases hb : b ∈ lst s
    · obtain ⟨p, r, rfl, hp⟩ := txt_split hb
      rw [ByteArray.size_append, ByteArray.size_append] at h
      have h1 : (⟨#[b]⟩ : ByteArray).size = 1 := rfl
      match k, h with
      | 0, h => omega
      | k + 1, h => exact hit p r hp (split_ind b miss hit k r (by omega))
    · exact miss s hb
def joinS (b : UInt8) : List ByteArray → ByteArray
  | [] => ⟨#[]⟩
  | [x] => x
  | x :: y :: l => x ++ ⟨#[b]⟩ ++ joinS b (y :: l)
theorem split_ne (s : ByteArray) (b : UInt8) : ∃ x l, splitS s b = x :: l := by
  rw [sp_eq]
  split
  · exact ⟨_, _, rfl⟩
  · exact ⟨_, _, rfl⟩
theorem join_split (s : ByteArray) (b : UInt8) : joinS b (splitS s b) = s := by
  refine split_ind b (C := fun s => joinS b (splitS s b) = s) (fun s h => by rw [sp_miss h]; rfl) (fun p r hp hr => ?_) s.size s (Nat.le_refl _)
  rw [sp_hit hp]
  obtain ⟨x, l, hx⟩ := split_ne r b
  rw [hx] at hr ⊢
  show p ++ ⟨#[b]⟩ ++ joinS b (x :: l) = _
  rw [hr]
theorem split_no (s : ByteArray) (b : UInt8) : ∀ p ∈ splitS s b, b ∉ lst p := by
  refine split_ind b (C := fun s => ∀ p ∈ splitS s b, b ∉ lst p) (fun s h => by rw [sp_miss h]; intro p hp; rw [List.mem_singleton.1 hp]; exact h) (fun p r hp hr => ?_) s.size s (Nat.le_refl _)
  rw [sp_hit hp]
  intro q hq
  rcases List.mem_cons.1 hq with rfl | hq
  · exact hp
  · exact hr q hq
theorem split_size (s : ByteArray) (b : UInt8) : ∀ p ∈ splitS s b, p.size ≤ s.size := by
  refine split_ind b (C := fun s => ∀ p ∈ splitS s b, p.size ≤ s.size) (fun s h => by rw [sp_miss h]; intro p hp; rw [List.mem_singleton.1 hp]; exact Nat.le_refl _) (fun p r hp hr => ?_) s.size s (Nat.le_refl _)
  rw [sp_hit hp]
  intro q hq
  rw [ByteArray.size_append, ByteArray.size_append]
  rcases List.mem_cons.1 hq with rfl | hq
  · omega
  · have := hr q hq; omega
theorem split_len (s : ByteArray) (b : UInt8) : (splitS s b).length ≤ s.size + 1 := by
  refine split_ind b (C := fun s => (splitS s b).length ≤ s.size + 1) (fun s h => by rw [sp_miss h]; simp) (fun p r hp hr => ?_) s.size s (Nat.le_refl _)
  rw [sp_hit hp, ByteArray.size_append, ByteArray.size_append, List.length_cons]
  have h1 : (⟨#[b]⟩ : ByteArray).size = 1 := rfl
  omega
theorem split_join {b : UInt8} : ∀ {l : List ByteArray}, l ≠ [] → (∀ p ∈ l, b ∉ lst p) → splitS (joinS b l) b = l
  | [], h, _ => absurd rfl h
  | [x], _, h => sp_miss (h x List.mem_cons_self)
  | x :: y :: l, _, h => by
    show splitS (x ++ ⟨#[b]⟩ ++ joinS b (y :: l)) b = _
    rw [sp_hit (h x List.mem_cons_self), split_join (List.cons_ne_nil _ _) fun p hp => h p (List.mem_cons_of_mem _ hp)]
/-! Numbers. -/
/-- A byte that a line's parts do not hold. -/
def Sep (b : UInt8) : Prop := b.toNat < 45
theorem nmOk_no {b : UInt8} (hb : Sep b) : ∀ (l : List UInt8) (k : Nat), nmOk k l = true → b ∉ l
  | [], _, _ => by simp
  | c :: l, k, h => by
    unfold nmOk at h
    simp only [Bool.and_eq_true, Bool.or_eq_true, decide_eq_true_eq] at h
    intro hm
    rcases List.mem_cons.1 hm with rfl | hm
    · unfold Sep at hb; omega
    · exact nmOk_no hb l (k + 1) h.2 hm
theorem nm_no {b : UInt8} (hb : Sep b) {s : ByteArray} (h : nm 8 s = true) : b ∉ lst s := by
  unfold nm at h
  simp only [Bool.and_eq_true] at h
  exact nmOk_no hb _ 0 h.1
theorem sp_sep : Sep 32 := by unfold Sep; decide
theorem nl_sep : Sep 10 := by unfold Sep; decide
theorem join_app (b : UInt8) : ∀ {x y : List ByteArray}, x ≠ [] → y ≠ [] → joinS b (x ++ y) = joinS b x ++ ⟨#[b]⟩ ++ joinS b y
  | [], _, h, _ => absurd rfl h
  | [x], [], _, h => absurd rfl h
  | [x], y :: l, _, _ => rfl
  | x :: x' :: l, y, _, hy => by
    show x ++ ⟨#[b]⟩ ++ joinS b ((x' :: l) ++ y) = x ++ ⟨#[b]⟩ ++ joinS b (x' :: l) ++ ⟨#[b]⟩ ++ joinS b y
    rw [join_app b (List.cons_ne_nil _ _) hy]
    simp only [ByteArray.append_assoc]
theorem join_cons (b : UInt8) (x : ByteArray) {l : List ByteArray} (h : l ≠ []) : joinS b (x :: l) = x ++ ⟨#[b]⟩ ++ joinS b l := by
  cases l with
  | nil => exact absurd rfl h
  | cons y l => rfl
/-- The bytes of words that are joined. -/
def wl : List ByteArray → Nat
  | [] => 0
  | w :: l => w.size + 1 + wl l
theorem wl_app : ∀ a b : List ByteArray, wl (a ++ b) = wl a + wl b
  | [], b => by simp [wl]
  | w :: l, b => by simp only [List.cons_append, wl, wl_app l b]; omega
theorem join_size (b : UInt8) : ∀ {l : List ByteArray}, l ≠ [] → (joinS b l).size + 1 = wl l
  | [], h => absurd rfl h
  | [x], _ => rfl
  | x :: y :: l, _ => by
    have h := join_size b (l := y :: l) (List.cons_ne_nil _ _)
    show (x ++ ⟨#[b]⟩ ++ joinS b (y :: l)).size + 1 = x.size + 1 + wl (y :: l)
    rw [ByteArray.size_append, ByteArray.size_append, show (⟨#[b]⟩ : ByteArray).size = 1 from rfl]
    omega
end Go.Proofs.YtocghkacngoblaaDoor
