/- Texts: split and joined; numbers printed and read. -/
import Derived.Test.YtemgclhenkbikaaDoorAwZl
import Derived.Test.YtemgclhenkbikaaDoorTxtL
import Derived.Lib.AtoiTie
set_option linter.unusedVariables false
set_option linter.unusedSimpArgs false
namespace Go.Proofs.YtemgclhenkbikaaDoor
open Go.Proofs.YtemgclhenkbikaaDoor.Aw
attribute [local go_sem] Int.natCast_zero Int.natCast_one bne_self_eq_false beq_self_eq_true Bool.not_true Bool.not_false Option.isSome_none Option.isSome_some Aw.bkM_nil Option.getD_some Option.getD_none Nat.sub_zero Int.toNat_zero Aw.frzS Aw.frzT Aw.frzA Aw.frzL Aw.frzR Aw.frzO Aw.frzOL Aw.frzOT Aw.frzOR Aw.killS Aw.mapT Aw.mapR Aw.killM Aw.resAVs Aw.resAV Aw.quietOps Aw.wpP Aw.wpT Aw.wpS Aw.AOp.mild List.getElem?_cons_zero List.getElem?_cons_succ Bool.and_false Bool.and_self Bool.false_and Aw.opOb Aw.gdB Aw.Rnd Aw.subTm List.length_map Int.toNat_natCast and_self Aw.SeqC Aw.stops Aw.Ends Aw.looks Aw.renA Aw.renL Aw.renT Aw.renS Aw.wpO Aw.aop Aw.putTm Aw.St.ev Aw.St.put Aw.St.putO Aw.binAV Aw.intBin Aw.strBin Aw.pickAV Aw.optInt Aw.AV.strip Aw.AV.guard Aw.AV.cells Aw.gdOb Aw.AOp.opds Aw.AOp.still Aw.ptrCells Aw.St.reg Aw.fillAV Aw.fillOb Aw.elsOb Aw.splice Aw.firm Aw.cellish Aw.AV.shut Aw.shutAll Aw.Seq Aw.Blk Aw.retS_nil Aw.mapA Aw.mapL Aw.borA Aw.borOb Aw.allOb Aw.tupOf Aw.params Aw.Opd.of Array.toList Value.cells List.map_cons List.map_nil List.getD_cons_zero List.getD_cons_succ List.getD_nil List.length_cons List.length_nil List.take_succ_cons List.take_zero List.take_nil List.drop_zero List.drop_succ_cons List.drop_nil List.set_cons_zero List.set_cons_succ List.append_nil List.nil_append List.cons_append List.all_cons List.all_nil cond_false cond_true if_true if_false true_and and_true Bool.and_true Bool.true_and Option.map_some Option.map_none false_implies forall_const implies_true forall_eq imp_self Bool.cond_false_right Bool.cond_true_left beq_true beq_false Bool.not_eq_true' Bool.false_eq_true Nat.zero_add Nat.add_zero Aw.eqCells Aw.stopDraw Aw.skipS Aw.exactCap Aw.revealS Aw.srcEls Aw.srcSz
attribute [local go_sem ↓] Aw.look_nil Aw.look_ite Aw.wpL_nil Aw.wpL_op Aw.wpL_gd Aw.wpQ_nil Aw.wpQ_op Aw.wpQ_gd Aw.wpC_draw Aw.wpC_reg Aw.wpC_skip Aw.wpC_ret Aw.wpC_exit Aw.wpC_seq Aw.wpC_block Aw.wpC_loop Aw.wpC_cond Aw.stopAt_nil Aw.stopAt_cons Aw.wpD_skip Aw.wpD_ret Aw.wpD_exit Aw.wpD_region Aw.wpD_draw Aw.wpM_nil Aw.wpM_op Aw.wpM_gd Aw.wpD_seq Aw.wpD_block Aw.wpD_loop Aw.wpD_cond
theorem split_ind (b : UInt8) {C : ByteArray → Prop} (miss : ∀ s, b ∉ lst s → C s) (hit : ∀ p r, b ∉ lst p → C r → C (p ++ ⟨#[b]⟩ ++ r)) : ∀ (k : Nat) (s : ByteArray), s.size ≤ k → C s
  | k, s, h => by
    by_cases hb : b ∈ lst s
    · obtain ⟨p, r, rfl, hp⟩ := txt_split hb
      rw [ByteArray.size_append, ByteArray.size_append] at h
      have h1 : (⟨#[b]⟩ : ByteArray).size = 1 := rfl
      match k, h with
      | 0, h => omega
      | k + 1, h => exact hit p r hp (split_ind b miss hit k r (by omega))
    · exact miss s hb
def joinS (b : UInt8) : List ByteArray → ByteArray
  | [] => ⟨#[]⟩
  | [x] => x
  | x :: y :: l => x ++ ⟨#[b]⟩ ++ joinS b (y :: l)
theorem split_ne (s : ByteArray) (b : UInt8) : ∃ x l, splitS s b = x :: l := by
  rw [sp_eq]
  split
  · exact ⟨_, _, rfl⟩
  · exact ⟨_, _, rfl⟩
theorem join_split (s : ByteArray) (b : UInt8) : joinS b (splitS s b) = s := by
  refine split_ind b (C := fun s => joinS b (splitS s b) = s) (fun s h => by rw [sp_miss h]; rfl) (fun p r hp hr => ?_) s.size s (Nat.le_refl _)
  rw [sp_hit hp]
  obtain ⟨x, l, hx⟩ := split_ne r b
  rw [hx] at hr ⊢
  show p ++ ⟨#[b]⟩ ++ joinS b (x :: l) = _
  rw [hr]
theorem split_no (s : ByteArray) (b : UInt8) : ∀ p ∈ splitS s b, b ∉ lst p := by
  refine split_ind b (C := fun s => ∀ p ∈ splitS s b, b ∉ lst p) (fun s h => by rw [sp_miss h]; intro p hp; rw [List.mem_singleton.1 hp]; exact h) (fun p r hp hr => ?_) s.size s (Nat.le_refl _)
  rw [sp_hit hp]
  intro q hq
  rcases List.mem_cons.1 hq with rfl | hq
  · exact hp
  · exact hr q hq
theorem split_size (s : ByteArray) (b : UInt8) : ∀ p ∈ splitS s b, p.size ≤ s.size := by
  refine split_ind b (C := fun s => ∀ p ∈ splitS s b, p.size ≤ s.size) (fun s h => by rw [sp_miss h]; intro p hp; rw [List.mem_singleton.1 hp]; exact Nat.le_refl _) (fun p r hp hr => ?_) s.size s (Nat.le_refl _)
  rw [sp_hit hp]
  intro q hq
  rw [ByteArray.size_append, ByteArray.size_append]
  rcases List.mem_cons.1 hq with rfl | hq
  · omega
  · have := hr q hq; omega
theorem split_len (s : ByteArray) (b : UInt8) : (splitS s b).length ≤ s.size + 1 := by
  refine split_ind b (C := fun s => (splitS s b).length ≤ s.size + 1) (fun s h => by rw [sp_miss h]; simp) (fun p r hp hr => ?_) s.size s (Nat.le_refl _)
  rw [sp_hit hp, ByteArray.size_append, ByteArray.size_append, List.length_cons]
  have h1 : (⟨#[b]⟩ : ByteArray).size = 1 := rfl
  omega
theorem split_join {b : UInt8} : ∀ {l : List ByteArray}, l ≠ [] → (∀ p ∈ l, b ∉ lst p) → splitS (joinS b l) b = l
  | [], h, _ => absurd rfl h
  | [x], _, h => sp_miss (h x List.mem_cons_self)
  | x :: y :: l, _, h => by
    show splitS (x ++ ⟨#[b]⟩ ++ joinS b (y :: l)) b = _
    rw [sp_hit (h x List.mem_cons_self), split_join (List.cons_ne_nil _ _) fun p hp => h p (List.mem_cons_of_mem _ hp)]
/-! Numbers. -/
theorem dec_snoc : ∀ (l : List UInt8) (acc m : Nat) (c : UInt8) (d : Nat), Lib.decFrom acc l = some m → Lib.digitVal c = some d → Lib.decFrom acc (l ++ [c]) = some (m * 10 + d)
  | [], acc, m, c, d, h, hd => by
    simp only [Lib.decFrom, Option.some.injEq] at h
    subst h
    simp [Lib.decFrom, hd]
  | x :: l, acc, m, c, d, h, hd => by
    simp only [List.cons_append, Lib.decFrom] at h ⊢
    cases hx : Lib.digitVal x with
    | none => rw [hx] at h; simp at h
    | some e =>
      rw [hx] at h
      simp only at h ⊢
      exact dec_snoc l _ m c d h hd
theorem digit_of {u : Nat} (h : u < 10) : Lib.digitVal (UInt8.ofNat (48 + u)) = some u := by
  unfold Lib.digitVal
  have e : (UInt8.ofNat (48 + u)).toNat = 48 + u := by simp [UInt8.toNat_ofNat']; omega
  rw [e, if_pos (by omega)]
  congr 1; omega
theorem dec_digits : ∀ (k u : Nat), u ≤ k → Lib.decFrom 0 (Lib.decDigits u) = some u ∧ Lib.decDigits u ≠ [] ∧ (∀ c ∈ Lib.decDigits u, 48 ≤ c.toNat ∧ c.toNat ≤ 57)
  | k, u, hk => by
    by_cases h : u < 10
    · rw [Lib.decDigits, dif_pos h]
      have hc : (UInt8.ofNat (48 + u)).toNat = 48 + u := by simp [UInt8.toNat_ofNat']; omega
      refine ⟨?_, by simp, fun c hm => by rw [List.mem_singleton.1 hm, hc]; omega⟩
      unfold Lib.decFrom
      rw [digit_of h]
      simp [Lib.decFrom]
    · match k, hk with
      | 0, hk => omega
      | k + 1, hk =>
        obtain ⟨h1, h2, h3⟩ := dec_digits k (u / 10) (by omega)
        rw [Lib.decDigits, dif_neg h]
        have hd : u % 10 < 10 := Nat.mod_lt _ (by omega)
        have hc : (UInt8.ofNat (48 + u % 10)).toNat = 48 + u % 10 := by simp [UInt8.toNat_ofNat']; omega
        refine ⟨?_, by simp, fun c hm => ?_⟩
        · rw [dec_snoc _ _ _ _ _ h1 (digit_of hd)]
          congr 1; omega
        · rcases List.mem_append.1 hm with hm | hm
          · exact h3 c hm
          · rw [List.mem_singleton.1 hm, hc]; omega
theorem atoi_itoa {n : Int} (h1 : -10000000 ≤ n) (h2 : n ≤ 10000000) : Lib.atoi (Lib.itoa n) = some n := by
  unfold Lib.itoa
  obtain ⟨d1, d2, d3⟩ := dec_digits n.natAbs n.natAbs (Nat.le_refl _)
  have hd : Lib.decNat (Lib.decDigits n.natAbs) = some n.natAbs := by
    unfold Lib.decNat
    rw [if_neg (by simpa using d2), d1]
  by_cases h : n < 0
  · rw [if_pos h]
    simp only [Lib.atoi, beq_self_eq_true, if_true, hd]
    show some (-(n.natAbs : Int)) = some n
    congr 1; omega
  · rw [if_neg h, show n.toNat = n.natAbs by omega]
    cases hl : Lib.decDigits n.natAbs with
    | nil => exact absurd hl d2
    | cons c r =>
      rw [hl] at hd d3
      have hc := d3 c List.mem_cons_self
      have h45 : (c == 45) = false := beq_eq_false_iff_ne.2 fun e => by subst e; exact absurd hc.1 (by decide)
      have h43 : (c == 43) = false := beq_eq_false_iff_ne.2 fun e => by subst e; exact absurd hc.1 (by decide)
      simp only [Lib.atoi, h45, h43, hd, Bool.false_eq_true, if_false]
      show some (n.natAbs : Int) = some n
      congr 1; omega
theorem nd_le : ∀ (k u : Nat), u < 10 ^ (k + 1) → Lib.nDigits u ≤ k + 1
  | 0, u, h => by rw [Lib.nDigits_small (by simpa using h)]; exact Nat.le_refl _
  | k + 1, u, h => by
    by_cases h1 : u < 10
    · rw [Lib.nDigits_small h1]; omega
    · rw [Lib.nDigits_big h1]
      have := nd_le k (u / 10) (by rw [Nat.pow_succ] at h; omega)
      omega
theorem itoa_short {n : Int} (h1 : -10000000 ≤ n) (h2 : n ≤ 10000000) : (Lib.itoa n).length ≤ 18 := by
  have hn : Lib.nDigits n.natAbs ≤ 16 + 1 := nd_le 16 n.natAbs (Nat.lt_of_le_of_lt (show n.natAbs ≤ 10000000 by omega) (by decide))
  unfold Lib.itoa
  split
  · rw [List.length_cons, Lib.decDigits_length]; omega
  · rw [show n.toNat = n.natAbs by omega, Lib.decDigits_length]; omega
theorem num_itoa {n : Int} (h1 : -10000000 ≤ n) (h2 : n ≤ 10000000) : numF ⟨(Lib.itoa n).toArray⟩ = (n, true) := by
  unfold numF
  rw [show lst ⟨(Lib.itoa n).toArray⟩ = Lib.itoa n from rfl, Lib.atoiAll_short _ (itoa_short h1 h2), atoi_itoa h1 h2]
  rfl
theorem itoa_no (n : Int) (b : UInt8) (hb : b.toNat < 45 ∨ 57 < b.toNat) : b ∉ lst ⟨(Lib.itoa n).toArray⟩ := by
  intro hm
  have hm : b ∈ Lib.itoa n := hm
  unfold Lib.itoa at hm
  have key : ∀ u, b ∉ Lib.decDigits u := fun u h => by
    have := (dec_digits u u (Nat.le_refl _)).2.2 b h
    omega
  split at hm
  · rcases List.mem_cons.1 hm with rfl | hm
    · revert hb; decide
    · exact key _ hm
  · exact key _ hm
end Go.Proofs.YtemgclhenkbikaaDoor
