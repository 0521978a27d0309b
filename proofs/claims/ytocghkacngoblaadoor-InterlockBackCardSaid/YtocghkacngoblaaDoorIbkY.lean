/- Interlocks: rules printed and parsed, plain. -/
import Derived.Test.YtocghkacngoblaaDoorIbkW
set_option linter.unusedVariables false
set_option linter.unusedSimpArgs false
namespace Go.Proofs.YtocghkacngoblaaDoor
open Go.Proofs.YtocghkacngoblaaDoor.Aw
attribute [local go_sem] Int.natCast_zero Int.natCast_one bne_self_eq_false beq_self_eq_true Bool.not_true Bool.not_false Option.isSome_none Option.isSome_some Aw.bkM_nil Option.getD_some Option.getD_none Nat.sub_zero Int.toNat_zero Aw.frzS Aw.frzT Aw.frzA Aw.frzL Aw.frzR Aw.frzO Aw.frzOL Aw.frzOT Aw.frzOR Aw.killS Aw.mapT Aw.mapR Aw.killM Aw.resAVs Aw.resAV Aw.quietOps Aw.wpP Aw.wpT Aw.wpS Aw.AOp.mild List.getElem?_cons_zero List.getElem?_cons_succ Bool.and_false Bool.and_self Bool.false_and Aw.opOb Aw.gdB Aw.Rnd Aw.subTm List.length_map Int.toNat_natCast and_self Aw.SeqC Aw.stops Aw.Ends Aw.looks Aw.renA Aw.renL Aw.renT Aw.renS Aw.wpO Aw.aop Aw.putTm Aw.St.ev Aw.St.put Aw.St.putO Aw.binAV Aw.intBin Aw.strBin Aw.pickAV Aw.optInt Aw.AV.strip Aw.AV.guard Aw.AV.cells Aw.gdOb Aw.AOp.opds Aw.AOp.still Aw.ptrCells Aw.St.reg Aw.fillAV Aw.fillOb Aw.elsOb Aw.splice Aw.firm Aw.cellish Aw.AV.shut Aw.shutAll Aw.Seq Aw.Blk Aw.retS_nil Aw.mapA Aw.mapL Aw.borA Aw.borOb Aw.allOb Aw.tupOf Aw.params Aw.Opd.of Array.toList Value.cells List.map_cons List.map_nil List.getD_cons_zero List.getD_cons_succ List.getD_nil List.length_cons List.length_nil List.take_succ_cons List.take_zero List.take_nil List.drop_zero List.drop_succ_cons List.drop_nil List.set_cons_zero List.set_cons_succ List.append_nil List.nil_append List.cons_append List.all_cons List.all_nil cond_false cond_true if_true if_false true_and and_true Bool.and_true Bool.true_and Option.map_some Option.map_none false_implies forall_const implies_true forall_eq imp_self Bool.cond_false_right Bool.cond_true_left beq_true beq_false Bool.not_eq_true' Bool.false_eq_true Nat.zero_add Nat.add_zero Aw.eqCells Aw.stopDraw Aw.skipS Aw.exactCap Aw.revealS Aw.srcEls Aw.srcSz
attribute [local go_sem ↓] Aw.look_nil Aw.look_ite Aw.wpL_nil Aw.wpL_op Aw.wpL_gd Aw.wpQ_nil Aw.wpQ_op Aw.wpQ_gd Aw.wpC_draw Aw.wpC_reg Aw.wpC_skip Aw.wpC_ret Aw.wpC_exit Aw.wpC_seq Aw.wpC_block Aw.wpC_loop Aw.wpC_cond Aw.stopAt_nil Aw.stopAt_cons Aw.wpD_skip Aw.wpD_ret Aw.wpD_exit Aw.wpD_region Aw.wpD_draw Aw.wpM_nil Aw.wpM_op Aw.wpM_gd Aw.wpD_seq Aw.wpD_block Aw.wpD_loop Aw.wpD_cond
open Ibk
def ruX (x : Rul × Tr) : Rul := ⟨x.1.close, x.1.sw, none, false, nds x.2 0⟩
theorem toks_no {b : UInt8} (hb : Sep b) (h1 : b ∉ lst wLp) (h2 : b ∉ lst wRp) (h3 : b ∉ lst wAlw ∧ b ∉ lst wNev ∧ b ∉ lst wNot ∧ b ∉ lst wOpn ∧ b ∉ lst wClo ∧ b ∉ lst wAnd ∧ b ∉ lst wOr) : ∀ (t : Tr) (k : Nat), Val (nm 8) t → ∀ p ∈ toks t k, b ∉ lst p := by
  obtain ⟨c1, c2, c3, c4, c5, c6, c7⟩ := h3
  have hpar : ∀ (q : Bool) (l : List ByteArray), (∀ p ∈ l, b ∉ lst p) → ∀ p ∈ par q l, b ∉ lst p := fun q l hl p hp => by
    unfold par at hp
    split at hp
    · rcases List.mem_cons.1 hp with rfl | hp
      · exact h1
      · rcases List.mem_append.1 hp with hp | hp
        · exact hl p hp
        · rw [List.mem_singleton.1 hp]; exact h2
    · exact hl p hp
  intro t
  induction t with
  | alw => intro k _ p hp; rw [List.mem_singleton.1 hp]; exact c1
  | nev => intro k _ p hp; rw [List.mem_singleton.1 hp]; exact c2
  | opn s =>
    intro k h p hp
    have hp : p ∈ [wOpn, s] := hp
    rcases List.mem_cons.1 hp with rfl | hp
    · exact c4
    · rw [List.mem_singleton.1 hp]; exact nm_no hb h
  | clo s =>
    intro k h p hp
    have hp : p ∈ [wClo, s] := hp
    rcases List.mem_cons.1 hp with rfl | hp
    · exact c5
    · rw [List.mem_singleton.1 hp]; exact nm_no hb h
  | no t ih =>
    intro k h p hp
    have hp : p ∈ wNot :: toks t 2 := hp
    rcases List.mem_cons.1 hp with rfl | hp
    · exact c3
    · exact ih 2 h p hp
  | an x y ihx ihy =>
    intro k h
    refine hpar _ _ fun p hp => ?_
    rcases List.mem_append.1 hp with hp | hp
    · exact ihx 1 h.1 p hp
    · rcases List.mem_cons.1 hp with rfl | hp
      · exact c6
      · exact ihy 2 h.2 p hp
  | orr x y ihx ihy =>
    intro k h
    refine hpar _ _ fun p hp => ?_
    rcases List.mem_append.1 hp with hp | hp
    · exact ihx 0 h.1 p hp
    · rcases List.mem_cons.1 hp with rfl | hp
      · exact c7
      · exact ihy 1 h.2 p hp
theorem lnW_sp {x : Rul × Tr} (h : GoodX x) : ∀ p ∈ lnW x, (32 : UInt8) ∉ lst p := by
  intro p hp
  unfold lnW at hp
  rcases List.mem_cons.1 hp with rfl | hp
  · unfold vb; split <;> decide +kernel
  rcases List.mem_cons.1 hp with rfl | hp
  · exact nm_no sp_sep h.1
  rcases List.mem_cons.1 hp with rfl | hp
  · decide +kernel
  · exact toks_no sp_sep (by decide +kernel) (by decide +kernel) (by decide +kernel) x.2 0 h.2.1 p hp
theorem lnW_nl {x : Rul × Tr} (h : GoodX x) : ∀ p ∈ lnW x, (10 : UInt8) ∉ lst p := by
  intro p hp
  unfold lnW at hp
  rcases List.mem_cons.1 hp with rfl | hp
  · unfold vb; split <;> decide +kernel
  rcases List.mem_cons.1 hp with rfl | hp
  · exact nm_no nl_sep h.1
  rcases List.mem_cons.1 hp with rfl | hp
  · decide +kernel
  · exact toks_no nl_sep (by decide +kernel) (by decide +kernel) (by decide +kernel) x.2 0 h.2.1 p hp
theorem join_no {b c : UInt8} (hbc : c ≠ b) : ∀ {l : List ByteArray}, (∀ p ∈ l, c ∉ lst p) → c ∉ lst (joinS b l)
  | [], _ => fun h => by cases (show c ∈ ([] : List UInt8) from h)
  | [x], h => h x List.mem_cons_self
  | x :: y :: l, h => by
    rw [join_cons b x (by simp), lst_app, lst_app, lst_one]
    intro hc
    rcases List.mem_append.1 hc with hc | hc
    · rcases List.mem_append.1 hc with hc | hc
      · exact h x List.mem_cons_self hc
      · exact hbc (List.mem_singleton.1 hc)
    · exact join_no hbc (fun p hp => h p (List.mem_cons_of_mem _ hp)) hc
theorem good_line {x : Rul × Tr} (h : GoodX x) : RuleOk (lnT x) (ruX x) := by
  refine ⟨x.1.sw, toks x.2 0, x.2, ?_, toks_ne _ _, h.1, ?_, h.2.2.1, rfl⟩
  · unfold lnT
    rw [split_join (by unfold lnW; simp) (lnW_sp h)]
    rfl
  · have := (back x.2 h.2.1).2.2 [] (x.2, []) (fun v l e => by cases e) (OL.stop fun v l e => by cases e)
    rwa [List.append_nil] at this
theorem good_lines : ∀ {xs : List (Rul × Tr)}, (∀ x ∈ xs, GoodX x) → LnOk (xs.map lnT) (xs.map ruX)
  | [], _ => trivial
  | x :: xs, h => ⟨good_line (h x List.mem_cons_self), good_lines fun y hy => h y (List.mem_cons_of_mem _ hy)⟩
theorem good_split : ∀ {xs : List (Rul × Tr)}, (∀ x ∈ xs, GoodX x) → splitS (txtX xs) 10 = xs.map lnT ++ [nE]
  | [], _ => sp_miss (by decide +kernel)
  | x :: xs, h => by
    show splitS (lnT x ++ ⟨#[10]⟩ ++ txtX xs) 10 = lnT x :: (xs.map lnT ++ [nE])
    rw [sp_hit (p := lnT x) (join_no (by decide) (lnW_nl (h x List.mem_cons_self))), good_split fun y hy => h y (List.mem_cons_of_mem _ hy)]
/-- What is printed is parsed. -/
theorem good_parse {xs : List (Rul × Tr)} (hl : xs.length ≤ 24) (h : ∀ x ∈ xs, GoodX x) (hs : (txtX xs).size ≤ 8192) : ParseOk (txtX xs) (xs.map ruX) :=
  ⟨hs, xs.map lnT, good_split h, good_lines h, by rw [List.length_map]; exact hl⟩
theorem line_good {l : ByteArray} {r : Rul} (h : RuleOk l r) : ∃ t, GoodX (r, t) ∧ ruX (r, t) = r ∧ (lnT (r, t)).size ≤ l.size := by
  obtain ⟨sw, ws, t, h1, h2, h3, ⟨n, h4⟩, h5, h6⟩ := h
  obtain ⟨hv, pre, h7, h8⟩ := (short (nm := N8) n).2.2.2.1 _ _ _ h4
  rw [List.append_nil] at h7
  subst h7
  have hsw : r.sw = sw := by rw [h6]
  have hco : r.cond = nds t 0 := by rw [h6]
  refine ⟨t, ⟨by rw [← hsw] at h3; exact h3, hv, h5, hco⟩, by unfold ruX; rw [hsw]; exact h6.symm, ?_⟩
  have e1 := join_size 32 (l := lnW (r, t)) (by unfold lnW; simp)
  have e2 := join_size 32 (l := splitS l 32) (by rw [h1]; simp)
  rw [join_split, h1] at e2
  unfold lnT
  have e3 : wl (lnW (r, t)) = (vb r.close).size + 1 + (r.sw.size + 1 + (wWhen.size + 1 + wl (toks t 0))) := rfl
  have e4 : wl (vb r.close :: sw :: wWhen :: ws) = (vb r.close).size + 1 + (sw.size + 1 + (wWhen.size + 1 + wl ws)) := rfl
  rw [hsw] at e3
  omega
theorem lines_good : ∀ {ls : List ByteArray} {rs : List Rul}, LnOk ls rs → ∃ xs : List (Rul × Tr), xs.map Prod.fst = rs ∧ xs.map ruX = rs ∧ (∀ x ∈ xs, GoodX x) ∧ (txtX xs).size ≤ wl ls
  | [], [], _ => ⟨[], rfl, rfl, (fun x h => by cases h), Nat.le_refl _⟩
  | l :: ls, r :: rs, h => by
    obtain ⟨t, h1, h2, h3⟩ := line_good h.1
    obtain ⟨xs, k1, k2, k3, k4⟩ := lines_good h.2
    refine ⟨(r, t) :: xs, by rw [List.map_cons, k1], by rw [List.map_cons, k2, h2], fun x hx => ?_, ?_⟩
    · rcases List.mem_cons.1 hx with rfl | hx
      · exact h1
      · exact k3 x hx
    · show (lnT (r, t) ++ ⟨#[10]⟩ ++ txtX xs).size ≤ l.size + 1 + wl ls
      rw [ByteArray.size_append, ByteArray.size_append, show (⟨#[10]⟩ : ByteArray).size = 1 from rfl]
      omega
/-- What was parsed is printed, not longer than it was. -/
theorem parse_good {s : ByteArray} {rs : List Rul} (h : ParseOk s rs) : ∃ xs : List (Rul × Tr), xs.map Prod.fst = rs ∧ xs.map ruX = rs ∧ (∀ x ∈ xs, GoodX x) ∧ xs.length ≤ 24 ∧ (txtX xs).size ≤ s.size := by
  obtain ⟨h1, ls, h2, h3, h4⟩ := h
  obtain ⟨xs, k1, k2, k3, k4⟩ := lines_good h3
  refine ⟨xs, k1, k2, k3, ?_, ?_⟩
  · have := h3.len
    rw [← k1, List.length_map] at this
    omega
  · have e := join_size 10 (l := splitS s 10) (by rw [h2]; simp)
    rw [join_split, h2, wl_app] at e
    have : wl [nE] = 1 := rfl
    omega
end Go.Proofs.YtocghkacngoblaaDoor
