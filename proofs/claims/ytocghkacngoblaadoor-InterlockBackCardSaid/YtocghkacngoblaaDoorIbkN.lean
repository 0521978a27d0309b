/- Interlocks: the nodes of a tree in postorder, plain. -/
import Derived.Test.YtocghkacngoblaaDoorIbkP
import Derived.Test.YtocghkacngoblaaDoorOrdD
set_option linter.unusedVariables false
set_option linter.unusedSimpArgs false
namespace Go.Proofs.YtocghkacngoblaaDoor.Ibk
open Go.Proofs.YtocghkacngoblaaDoor.Aw
attribute [local go_sem] Int.natCast_zero Int.natCast_one bne_self_eq_false beq_self_eq_true Bool.not_true Bool.not_false Option.isSome_none Option.isSome_some Aw.bkM_nil Option.getD_some Option.getD_none Nat.sub_zero Int.toNat_zero Aw.frzS Aw.frzT Aw.frzA Aw.frzL Aw.frzR Aw.frzO Aw.frzOL Aw.frzOT Aw.frzOR Aw.killS Aw.mapT Aw.mapR Aw.killM Aw.resAVs Aw.resAV Aw.quietOps Aw.wpP Aw.wpT Aw.wpS Aw.AOp.mild List.getElem?_cons_zero List.getElem?_cons_succ Bool.and_false Bool.and_self Bool.false_and Aw.opOb Aw.gdB Aw.Rnd Aw.subTm List.length_map Int.toNat_natCast and_self Aw.SeqC Aw.stops Aw.Ends Aw.looks Aw.renA Aw.renL Aw.renT Aw.renS Aw.wpO Aw.aop Aw.putTm Aw.St.ev Aw.St.put Aw.St.putO Aw.binAV Aw.intBin Aw.strBin Aw.pickAV Aw.optInt Aw.AV.strip Aw.AV.guard Aw.AV.cells Aw.gdOb Aw.AOp.opds Aw.AOp.still Aw.ptrCells Aw.St.reg Aw.fillAV Aw.fillOb Aw.elsOb Aw.splice Aw.firm Aw.cellish Aw.AV.shut Aw.shutAll Aw.Seq Aw.Blk Aw.retS_nil Aw.mapA Aw.mapL Aw.borA Aw.borOb Aw.allOb Aw.tupOf Aw.params Aw.Opd.of Array.toList Value.cells List.map_cons List.map_nil List.getD_cons_zero List.getD_cons_succ List.getD_nil List.length_cons List.length_nil List.take_succ_cons List.take_zero List.take_nil List.drop_zero List.drop_succ_cons List.drop_nil List.set_cons_zero List.set_cons_succ List.append_nil List.nil_append List.cons_append List.all_cons List.all_nil cond_false cond_true if_true if_false true_and and_true Bool.and_true Bool.true_and Option.map_some Option.map_none false_implies forall_const implies_true forall_eq imp_self Bool.cond_false_right Bool.cond_true_left beq_true beq_false Bool.not_eq_true' Bool.false_eq_true Nat.zero_add Nat.add_zero Aw.eqCells Aw.stopDraw Aw.skipS Aw.exactCap Aw.revealS Aw.srcEls Aw.srcSz
attribute [local go_sem ↓] Aw.look_nil Aw.look_ite Aw.wpL_nil Aw.wpL_op Aw.wpL_gd Aw.wpQ_nil Aw.wpQ_op Aw.wpQ_gd Aw.wpC_draw Aw.wpC_reg Aw.wpC_skip Aw.wpC_ret Aw.wpC_exit Aw.wpC_seq Aw.wpC_block Aw.wpC_loop Aw.wpC_cond Aw.stopAt_nil Aw.stopAt_cons Aw.wpD_skip Aw.wpD_ret Aw.wpD_exit Aw.wpD_region Aw.wpD_draw Aw.wpM_nil Aw.wpM_op Aw.wpM_gd Aw.wpD_seq Aw.wpD_block Aw.wpD_loop Aw.wpD_cond
def nE : ByteArray := ⟨#[]⟩
def sz : Tr → Nat
  | .no t => sz t + 1
  | .an a b => sz a + sz b + 1
  | .orr a b => sz a + sz b + 1
  | _ => 1
/-- The index of the last of m nodes after k ones. -/
def top (k m : Nat) : Int := ((k + m - 1 : Nat) : Int)
def nds : Tr → Nat → List Nod
  | .alw, _ => [⟨0, nE, 0, 0⟩]
  | .nev, _ => [⟨1, nE, 0, 0⟩]
  | .opn s, _ => [⟨2, s, 0, 0⟩]
  | .clo s, _ => [⟨3, s, 0, 0⟩]
  | .no t, k => nds t k ++ [⟨4, nE, top k (sz t), 0⟩]
  | .an a b, k => nds a k ++ nds b (k + sz a) ++ [⟨5, nE, top k (sz a), top (k + sz a) (sz b)⟩]
  | .orr a b, k => nds a k ++ nds b (k + sz a) ++ [⟨6, nE, top k (sz a), top (k + sz a) (sz b)⟩]
theorem sz_pos : ∀ t, 1 ≤ sz t := fun t => by cases t <;> simp [sz]
theorem nds_len : ∀ (t : Tr) (k : Nat), (nds t k).length = sz t
  | .alw, _ => rfl
  | .nev, _ => rfl
  | .opn s, _ => rfl
  | .clo s, _ => rfl
  | .no t, k => by simp [nds, sz, nds_len t]
  | .an a b, k => by simp [nds, sz, nds_len a, nds_len b]; omega
  | .orr a b, k => by simp [nds, sz, nds_len a, nds_len b]; omega
def fsz : List Tr → Nat
  | [] => 0
  | t :: l => sz t + fsz l
def fnd : List Tr → Nat → List Nod
  | [], _ => []
  | t :: l, k => nds t k ++ fnd l (k + sz t)
def rts : List Tr → Nat → List Int
  | [], _ => []
  | t :: l, k => top k (sz t) :: rts l (k + sz t)
theorem fsz_app : ∀ a b, fsz (a ++ b) = fsz a + fsz b
  | [], b => by simp [fsz]
  | t :: a, b => by simp only [List.cons_append, fsz, fsz_app a b]; omega
theorem fnd_app : ∀ a b k, fnd (a ++ b) k = fnd a k ++ fnd b (k + fsz a)
  | [], b, k => by simp [fsz, fnd]
  | t :: a, b, k => by simp only [List.cons_append, fnd, fsz, fnd_app a b, List.append_assoc, Nat.add_assoc]
theorem rts_app : ∀ a b k, rts (a ++ b) k = rts a k ++ rts b (k + fsz a)
  | [], b, k => by simp [fsz, rts]
  | t :: a, b, k => by simp only [List.cons_append, rts, fsz, rts_app a b, Nat.add_assoc]
theorem rts_len : ∀ a k, (rts a k).length = a.length
  | [], _ => rfl
  | t :: a, k => by simp [rts, rts_len a]
theorem sqe {a b : ByteArray} : seq a b = true ↔ a = b := by
  unfold seq
  rw [beq_iff_eq]
  constructor
  · intro h; exact ByteArray.ext (Array.toList_inj.1 (by rw [← ByteArray.toList_eq, ← ByteArray.toList_eq]; exact h))
  · intro h; rw [h]
theorem toList_nil {s : ByteArray} : s.toList = [] ↔ s = nE := by
  rw [show ([] : List UInt8) = nE.toList by decide +kernel]
  constructor
  · intro h
    rw [← sqe]
    unfold seq
    rw [h]; exact beq_self_eq_true _
  · rintro rfl; rfl
theorem nE_toList : nE.toList = [] := toList_nil.2 rfl
/-- The forest with one more node, and that this node is no error. -/
theorem cond_go {x : Nod} {st : List Int} {k : Nat} {l : List Nod} (h : nodE st x = 0) : condGo k st (x :: l) = condGo (k + 1) (nodS st k x) l := by
  show (if nodE st x ≠ 0 then nodE st x else condGo (k + 1) (nodS st k x) l) = _
  rw [if_neg (by simp [h])]
theorem arF0 : arF 0 = (0, false) := rfl
theorem arF1 : arF 1 = (0, false) := rfl
theorem arF2 : arF 2 = (0, true) := rfl
theorem arF3 : arF 3 = (0, true) := rfl
theorem arF4 : arF 4 = (1, false) := rfl
theorem arF5 : arF 5 = (2, false) := rfl
theorem arF6 : arF 6 = (2, false) := rfl
/-- A tree's nodes are accepted. -/
theorem cond_tree : ∀ (t : Tr) (k : Nat) (st : List Int) (rest : List Nod), Val (nm 8) t → condGo k st (nds t k ++ rest) = condGo (k + sz t) (st ++ [top k (sz t)]) rest
  | .alw, k, st, rest, h => by
    have h0 : nodE st ⟨0, nE, 0, 0⟩ = 0 := by simp [nodE, arF0, nE_toList]
    show condGo k st (⟨0, nE, 0, 0⟩ :: rest) = _
    rw [cond_go h0]; simp [nodS, arF0, sz, top]
  | .nev, k, st, rest, h => by
    have h0 : nodE st ⟨1, nE, 0, 0⟩ = 0 := by simp [nodE, arF1, nE_toList]
    show condGo k st (⟨1, nE, 0, 0⟩ :: rest) = _
    rw [cond_go h0]; simp [nodS, arF1, sz, top]
  | .opn s, k, st, rest, h => by
    have h : nm 8 s = true := h
    have h0 : nodE st ⟨2, s, 0, 0⟩ = 0 := by simp [nodE, arF2, h]
    show condGo k st (⟨2, s, 0, 0⟩ :: rest) = _
    rw [cond_go h0]; simp [nodS, arF2, sz, top]
  | .clo s, k, st, rest, h => by
    have h : nm 8 s = true := h
    have h0 : nodE st ⟨3, s, 0, 0⟩ = 0 := by simp [nodE, arF3, h]
    show condGo k st (⟨3, s, 0, 0⟩ :: rest) = _
    rw [cond_go h0]; simp [nodS, arF3, sz, top]
  | .no t, k, st, rest, h => by
    have p := sz_pos t
    rw [show nds (.no t) k ++ rest = nds t k ++ (⟨4, nE, top k (sz t), 0⟩ :: rest) by simp [nds], cond_tree t k st _ h]
    have h0 : nodE (st ++ [top k (sz t)]) ⟨4, nE, top k (sz t), 0⟩ = 0 := by simp [nodE, arF4, nE_toList]; omega
    rw [cond_go h0]; simp [nodS, arF4, sz, top, Nat.add_assoc]
  | .an a b, k, st, rest, h => by
    have p := sz_pos a
    have q := sz_pos b
    rw [show nds (.an a b) k ++ rest = nds a k ++ (nds b (k + sz a) ++ (⟨5, nE, top k (sz a), top (k + sz a) (sz b)⟩ :: rest)) by simp [nds], cond_tree a k st _ h.1, cond_tree b _ _ _ h.2]
    have h0 : nodE (st ++ [top k (sz a)] ++ [top (k + sz a) (sz b)]) ⟨5, nE, top k (sz a), top (k + sz a) (sz b)⟩ = 0 := by simp [nodE, arF5, nE_toList]; omega
    rw [cond_go h0]; simp [nodS, arF5, sz, top, Nat.add_assoc]
    rw [show ((k + (sz a + (sz b + 1)) - 1 : Nat) : Int) = (k : Int) + ((sz a : Int) + (sz b : Int)) by omega]
  | .orr a b, k, st, rest, h => by
    have p := sz_pos a
    have q := sz_pos b
    rw [show nds (.orr a b) k ++ rest = nds a k ++ (nds b (k + sz a) ++ (⟨6, nE, top k (sz a), top (k + sz a) (sz b)⟩ :: rest)) by simp [nds], cond_tree a k st _ h.1, cond_tree b _ _ _ h.2]
    have h0 : nodE (st ++ [top k (sz a)] ++ [top (k + sz a) (sz b)]) ⟨6, nE, top k (sz a), top (k + sz a) (sz b)⟩ = 0 := by simp [nodE, arF6, nE_toList]; omega
    rw [cond_go h0]; simp [nodS, arF6, sz, top, Nat.add_assoc]
    rw [show ((k + (sz a + (sz b + 1)) - 1 : Nat) : Int) = (k : Int) + ((sz a : Int) + (sz b : Int)) by omega]
theorem arF_leaf {k : Int} (h : arF k = (0, false)) : k = 0 ∨ k = 1 := by
  unfold arF at h
  split at h
  · assumption
  repeat' split at h
  all_goals simp at h
theorem arF_name {k : Int} (h : arF k = (0, true)) : k = 2 ∨ k = 3 := by
  unfold arF at h
  split at h
  · simp at h
  split at h
  · assumption
  repeat' split at h
  all_goals simp at h
theorem arF_not {k : Int} (h : arF k = (1, false)) : k = 4 := by
  unfold arF at h
  repeat' split at h
  all_goals first
    | assumption
    | simp at h
theorem arF_two {k : Int} (h : arF k = (2, false)) : k = 5 ∨ k = 6 := by
  unfold arF at h
  repeat' split at h
  all_goals first
    | assumption
    | simp at h
theorem last1 {α : Type} : ∀ {l : List α}, 1 ≤ l.length → ∃ a x, l = a ++ [x]
  | l, h => by
    refine ⟨l.dropLast, l.getLast (fun e => by simp [e] at h), ?_⟩
    exact (List.dropLast_concat_getLast _).symm
theorem last2 {α : Type} {l : List α} (h : 2 ≤ l.length) : ∃ a x y, l = a ++ [x, y] := by
  obtain ⟨a, y, rfl⟩ := last1 (l := l) (by omega)
  rw [List.length_append] at h
  obtain ⟨a, x, rfl⟩ := last1 (l := a) (by simp at h; omega)
  exact ⟨a, x, y, by simp⟩
theorem nodE_inv {st : List Int} {x : Nod} (h : nodE st x = 0) : 0 ≤ (arF x.kind).1 ∧ ((arF x.kind).2 = true → nm 8 x.name = true) ∧ ((arF x.kind).2 = false → x.name = nE) ∧ ((arF x.kind).1 < 1 → x.a = 0) ∧ ((arF x.kind).1 < 2 → x.b = 0) ∧
    (arF x.kind).1 ≤ st.length ∧ ((arF x.kind).1 = 1 → x.a = st.getD (st.length - 1) 0) ∧ ((arF x.kind).1 = 2 → x.a = st.getD (st.length - 2) 0 ∧ x.b = st.getD (st.length - 1) 0) := by
  unfold nodE at h
  split at h
  · cases h
  split at h
  · cases h
  split at h
  · cases h
  split at h
  · cases h
  rename_i h1 h2 h3 h4
  simp only [not_or, not_and, Decidable.not_not, toList_nil, ne_eq, Bool.not_eq_false] at h2 h3 h4
  exact ⟨by omega, h2, h3.1, h3.2.1, h3.2.2.1, by omega, h4.1, h4.2⟩
/-- Nodes that are accepted are those of a tree. -/
theorem tree_cond : ∀ (l : List Nod) (ts : List Tr), (∀ t ∈ ts, Val (nm 8) t) → condGo (fsz ts) (rts ts 0) l = 0 → ∃ t, Val (nm 8) t ∧ fnd ts 0 ++ l = nds t 0
  | [], ts, hv, h => by
    have h : (if (rts ts 0).length = 1 then (0 : Int) else 3) = 0 := h
    split at h
    · rename_i h1
      rw [rts_len] at h1
      obtain ⟨t, rfl⟩ := List.length_eq_one_iff.1 h1
      exact ⟨t, hv t List.mem_cons_self, by simp [fnd]⟩
    · cases h
  | x :: l, ts, hv, h => by
    have h0 : nodE (rts ts 0) x = 0 := by
      have h' : (if nodE (rts ts 0) x ≠ 0 then nodE (rts ts 0) x else condGo (fsz ts + 1) (nodS (rts ts 0) (fsz ts) x) l) = 0 := h
      split at h'
      · exact h'
      · rename_i e; exact Decidable.not_not.1 e
    rw [cond_go h0] at h
    have step : ∀ (xs bs : List Tr) (t : Tr), ts = xs ++ bs → Val (nm 8) t → fnd bs (fsz xs) ++ [x] = nds t (fsz xs) → fsz ts + 1 = fsz xs + sz t → nodS (rts ts 0) (fsz ts) x = rts xs 0 ++ [top (fsz xs) (sz t)] → ∃ t, Val (nm 8) t ∧ fnd ts 0 ++ x :: l = nds t 0 := by
      rintro xs bs t rfl hvt hn hs hr
      rw [hr, hs] at h
      have hf : fsz (xs ++ [t]) = fsz xs + sz t := by simp [fsz_app, fsz]
      have hrr : rts (xs ++ [t]) 0 = rts xs 0 ++ [top (fsz xs) (sz t)] := by simp [rts_app, rts]
      obtain ⟨u, hu, he⟩ := tree_cond l (xs ++ [t]) (fun z hz => by
        rcases List.mem_append.1 hz with hz | hz
        · exact hv z (List.mem_append_left _ hz)
        · rw [List.mem_singleton.1 hz]; exact hvt) (by rw [hf, hrr]; exact h)
      refine ⟨u, hu, ?_⟩
      rw [← he, fnd_app, fnd_app, Nat.zero_add]
      simp only [fnd, List.append_nil]
      rw [← hn]
      simp
    obtain ⟨kind, name, xa, xb⟩ := x
    have hi := nodE_inv h0
    dsimp only at hi step
    have hl : (rts ts 0).length = ts.length := rts_len ts 0
    rcases arF_cases kind with ha | ha | ha | ha | ha
    · rw [ha] at hi
      obtain ⟨-, -, h1, h2, h3, -⟩ := hi
      have h1 := h1 rfl
      have h2 := h2 (by decide)
      have h3 := h3 (by decide)
      subst h1 h2 h3
      rcases arF_leaf ha with rfl | rfl
      · exact step ts [] .alw (by simp) trivial rfl rfl (by simp [nodS, arF0, sz, top, rts_len, List.take_of_length_le])
      · exact step ts [] .nev (by simp) trivial rfl rfl (by simp [nodS, arF1, sz, top, rts_len, List.take_of_length_le])
    · rw [ha] at hi
      obtain ⟨-, h1, -, h2, h3, -⟩ := hi
      have h1 := h1 rfl
      have h2 := h2 (by decide)
      have h3 := h3 (by decide)
      subst h2 h3
      rcases arF_name ha with rfl | rfl
      · exact step ts [] (.opn name) (by simp) h1 rfl rfl (by simp [nodS, arF2, sz, top, rts_len, List.take_of_length_le])
      · exact step ts [] (.clo name) (by simp) h1 rfl rfl (by simp [nodS, arF3, sz, top, rts_len, List.take_of_length_le])
    · rw [ha] at hi
      obtain ⟨-, -, h1, -, h3, h4, h5, -⟩ := hi
      have h1 := h1 rfl
      have h3 := h3 (by decide)
      have h5 := h5 rfl
      have h4 : (1 : Int) ≤ (rts ts 0).length := h4
      obtain ⟨xs, t, rfl⟩ := last1 (l := ts) (by omega)
      have hr : rts (xs ++ [t]) 0 = rts xs 0 ++ [top (fsz xs) (sz t)] := by simp [rts_app, rts]
      rw [hr] at h5
      have h5 : xa = top (fsz xs) (sz t) := by rw [h5]; simp
      have := arF_not ha
      subst this h1 h3 h5
      exact step xs [t] (.no t) rfl (hv t (by simp)) (by simp [fnd, nds]) (by simp [fsz_app, fsz, sz] <;> omega) (by rw [hr]; simp [nodS, arF4, sz, top, fsz_app, fsz] <;> omega)
    · rw [ha] at hi
      obtain ⟨-, -, h1, -, -, h4, -, h5⟩ := hi
      have h1 := h1 rfl
      obtain ⟨h5, h6⟩ := h5 rfl
      have h4 : (2 : Int) ≤ (rts ts 0).length := h4
      obtain ⟨xs, a, b, rfl⟩ := last2 (l := ts) (by omega)
      have hr : rts (xs ++ [a, b]) 0 = rts xs 0 ++ [top (fsz xs) (sz a), top (fsz xs + sz a) (sz b)] := by simp [rts_app, rts]
      rw [hr] at h5 h6
      have h5 : xa = top (fsz xs) (sz a) := by rw [h5]; simp [List.getElem?_append]
      have h6 : xb = top (fsz xs + sz a) (sz b) := by rw [h6]; simp [List.getElem?_append]
      subst h1 h5 h6
      rcases arF_two ha with rfl | rfl
      · exact step xs [a, b] (.an a b) rfl ⟨hv a (by simp), hv b (by simp)⟩ (by simp [fnd, nds]) (by simp [fsz_app, fsz, sz] <;> omega) (by rw [hr]; simp [nodS, arF5, sz, top, fsz_app, fsz] <;> omega)
      · exact step xs [a, b] (.orr a b) rfl ⟨hv a (by simp), hv b (by simp)⟩ (by simp [fnd, nds]) (by simp [fsz_app, fsz, sz] <;> omega) (by rw [hr]; simp [nodS, arF6, sz, top, fsz_app, fsz] <;> omega)
    · rw [ha] at hi
      exact absurd hi.1 (by decide)
/-- Conditions that are accepted are those of trees. -/
theorem cond_iff {l : List Nod} : condF l = 0 ↔ ∃ t, Val (nm 8) t ∧ sz t ≤ 40 ∧ l = nds t 0 := by
  unfold condF
  constructor
  · intro h
    split at h
    · cases h
    split at h
    · cases h
    obtain ⟨t, ht, he⟩ := tree_cond l [] (fun t ht => by cases ht) h
    refine ⟨t, ht, ?_, he⟩
    have := nds_len t 0
    rw [← he] at this
    simp only [fnd, List.nil_append] at this
    omega
  · rintro ⟨t, ht, hs, rfl⟩
    have hl := nds_len t 0
    have p := sz_pos t
    rw [if_neg (by omega), if_neg (by omega)]
    have := cond_tree t 0 [] [] ht
    rw [List.append_nil] at this
    rw [this]; rfl
end Go.Proofs.YtocghkacngoblaaDoor.Ibk
