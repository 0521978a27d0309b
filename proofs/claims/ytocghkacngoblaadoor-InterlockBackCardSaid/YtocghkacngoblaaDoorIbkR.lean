/- Interlocks: the reader at any words. -/
import Derived.Test.YtocghkacngoblaaDoorIbkN
import Derived.Test.YtocghkacngoblaaDoorIntA
set_option linter.unusedVariables false
set_option linter.unusedSimpArgs false
namespace Go.Proofs.YtocghkacngoblaaDoor
open Go.Proofs.YtocghkacngoblaaDoor.Aw
attribute [local go_sem] Int.natCast_zero Int.natCast_one bne_self_eq_false beq_self_eq_true Bool.not_true Bool.not_false Option.isSome_none Option.isSome_some Aw.bkM_nil Option.getD_some Option.getD_none Nat.sub_zero Int.toNat_zero Aw.frzS Aw.frzT Aw.frzA Aw.frzL Aw.frzR Aw.frzO Aw.frzOL Aw.frzOT Aw.frzOR Aw.killS Aw.mapT Aw.mapR Aw.killM Aw.resAVs Aw.resAV Aw.quietOps Aw.wpP Aw.wpT Aw.wpS Aw.AOp.mild List.getElem?_cons_zero List.getElem?_cons_succ Bool.and_false Bool.and_self Bool.false_and Aw.opOb Aw.gdB Aw.Rnd Aw.subTm List.length_map Int.toNat_natCast and_self Aw.SeqC Aw.stops Aw.Ends Aw.looks Aw.renA Aw.renL Aw.renT Aw.renS Aw.wpO Aw.aop Aw.putTm Aw.St.ev Aw.St.put Aw.St.putO Aw.binAV Aw.intBin Aw.strBin Aw.pickAV Aw.optInt Aw.AV.strip Aw.AV.guard Aw.AV.cells Aw.gdOb Aw.AOp.opds Aw.AOp.still Aw.ptrCells Aw.St.reg Aw.fillAV Aw.fillOb Aw.elsOb Aw.splice Aw.firm Aw.cellish Aw.AV.shut Aw.shutAll Aw.Seq Aw.Blk Aw.retS_nil Aw.mapA Aw.mapL Aw.borA Aw.borOb Aw.allOb Aw.tupOf Aw.params Aw.Opd.of Array.toList Value.cells List.map_cons List.map_nil List.getD_cons_zero List.getD_cons_succ List.getD_nil List.length_cons List.length_nil List.take_succ_cons List.take_zero List.take_nil List.drop_zero List.drop_succ_cons List.drop_nil List.set_cons_zero List.set_cons_succ List.append_nil List.nil_append List.cons_append List.all_cons List.all_nil cond_false cond_true if_true if_false true_and and_true Bool.and_true Bool.true_and Option.map_some Option.map_none false_implies forall_const implies_true forall_eq imp_self Bool.cond_false_right Bool.cond_true_left beq_true beq_false Bool.not_eq_true' Bool.false_eq_true Nat.zero_add Nat.add_zero Aw.eqCells Aw.stopDraw Aw.skipS Aw.exactCap Aw.revealS Aw.srcEls Aw.srcSz
attribute [local go_sem ↓] Aw.look_nil Aw.look_ite Aw.wpL_nil Aw.wpL_op Aw.wpL_gd Aw.wpQ_nil Aw.wpQ_op Aw.wpQ_gd Aw.wpC_draw Aw.wpC_reg Aw.wpC_skip Aw.wpC_ret Aw.wpC_exit Aw.wpC_seq Aw.wpC_block Aw.wpC_loop Aw.wpC_cond Aw.stopAt_nil Aw.stopAt_cons Aw.wpD_skip Aw.wpD_ret Aw.wpD_exit Aw.wpD_region Aw.wpD_draw Aw.wpM_nil Aw.wpM_op Aw.wpM_gd Aw.wpD_seq Aw.wpD_block Aw.wpD_loop Aw.wpD_cond
open Ibk
theorem SG.fn {ws : List ByteArray} {x y} (h : SG (nm 8) ws x) (k : SG (nm 8) ws y) : x = y := by
  obtain ⟨n, h⟩ := h
  obtain ⟨m, k⟩ := k
  have h := (more _ (Nat.le_max_left n m)).1 _ _ h
  have k := (more _ (Nat.le_max_right n m)).1 _ _ k
  rw [h] at k; exact Option.some.inj k
theorem PA.fn {ws : List ByteArray} {x y} (h : PA (nm 8) ws x) (k : PA (nm 8) ws y) : x = y := by
  obtain ⟨n, h⟩ := h
  obtain ⟨m, k⟩ := k
  have h := (more _ (Nat.le_max_left n m)).2.1 _ _ h
  have k := (more _ (Nat.le_max_right n m)).2.1 _ _ k
  rw [h] at k; exact Option.some.inj k
theorem AL.fn {ws : List ByteArray} {a x y} (h : AL (nm 8) a ws x) (k : AL (nm 8) a ws y) : x = y := by
  obtain ⟨n, h⟩ := h
  obtain ⟨m, k⟩ := k
  have h := (more _ (Nat.le_max_left n m)).2.2.1 _ _ _ h
  have k := (more _ (Nat.le_max_right n m)).2.2.1 _ _ _ k
  rw [h] at k; exact Option.some.inj k
theorem PO.fn {ws : List ByteArray} {x y} (h : PO (nm 8) ws x) (k : PO (nm 8) ws y) : x = y := by
  obtain ⟨n, h⟩ := h
  obtain ⟨m, k⟩ := k
  have h := (more _ (Nat.le_max_left n m)).2.2.2.1 _ _ h
  have k := (more _ (Nat.le_max_right n m)).2.2.2.1 _ _ k
  rw [h] at k; exact Option.some.inj k
theorem OL.fn {ws : List ByteArray} {a x y} (h : OL (nm 8) a ws x) (k : OL (nm 8) a ws y) : x = y := by
  obtain ⟨n, h⟩ := h
  obtain ⟨m, k⟩ := k
  have h := (more _ (Nat.le_max_left n m)).2.2.2.2 _ _ _ h
  have k := (more _ (Nat.le_max_right n m)).2.2.2.2 _ _ _ k
  rw [h] at k; exact Option.some.inj k
theorem SG.nil_inv {x} (h : SG (nm 8) [] x) : False := by
  obtain ⟨n, h⟩ := h
  cases n with
  | zero => simp [sg] at h
  | succ n => rw [sg_nil] at h; cases h
theorem SG.alw {r : List ByteArray} : SG (nm 8) (wAlw :: r) (.alw, r) := ⟨1, by rw [sg_cons, if_pos rfl]⟩
theorem SG.nev {r : List ByteArray} : SG (nm 8) (wNev :: r) (.nev, r) := ⟨1, by rw [sg_cons, if_neg (by decide +kernel), if_pos rfl]⟩
theorem SG.not_has {r : List ByteArray} {x} (h : SG (nm 8) (wNot :: r) x) : ∃ t, SG (nm 8) r (t, x.2) ∧ x.1 = .no t := by
  obtain ⟨n, h⟩ := h
  cases n with
  | zero => simp [sg] at h
  | succ n =>
    rw [sg_cons, if_neg (by decide +kernel), if_neg (by decide +kernel), if_pos rfl, Option.map_eq_some_iff] at h
    obtain ⟨y, hy, rfl⟩ := h
    exact ⟨y.1, ⟨n, hy⟩, rfl⟩
theorem SG.not_inv {r : List ByteArray} {x} (h : SG (nm 8) (wNot :: r) x) (k : ∀ y, ¬SG (nm 8) r y) : False := by
  obtain ⟨t, ht, -⟩ := SG.not_has h
  exact k _ ht
theorem SG.par_get {r : List ByteArray} {x} (h : SG (nm 8) (wLp :: r) x) : PO (nm 8) r (x.1, wRp :: x.2) := by
  obtain ⟨n, h⟩ := h
  cases n with
  | zero => simp [sg] at h
  | succ n =>
    rw [sg_cons, if_neg (by decide +kernel), if_neg (by decide +kernel), if_neg (by decide +kernel), if_pos rfl, Option.bind_eq_some_iff] at h
    obtain ⟨⟨t, r'⟩, hy, hr⟩ := h
    dsimp only at hr
    split at hr
    · split at hr
      · rename_i e
        injection hr with hr
        subst hr e
        exact ⟨n, hy⟩
      · cases hr
    · cases hr
theorem SG.par_has {r : List ByteArray} {x} (h : SG (nm 8) (wLp :: r) x) (k : ∀ y, ¬PO (nm 8) r y) : False := k _ (SG.par_get h)
theorem SG.par_inv {r r' : List ByteArray} {t x} (h : SG (nm 8) (wLp :: r) x) (k : PO (nm 8) r (t, r')) (hn : ∀ r2, r' ≠ wRp :: r2) : False := by
  have e := PO.fn k (SG.par_get h)
  injection e with e1 e2
  exact hn _ e2
/-- A simple condition that begins with none of these words is one of a name. -/
theorem SG.name_has {ws : List ByteArray} {x} (h : SG (nm 8) ws x) (n1 : ∀ r, ws ≠ wAlw :: r) (n2 : ∀ r, ws ≠ wNev :: r) (n3 : ∀ r, ws ≠ wNot :: r) (n4 : ∀ r, ws ≠ wLp :: r) :
    ∃ w y r, ws = w :: y :: r ∧ (w = wOpn ∨ w = wClo) ∧ nm 8 y = true := by
  obtain ⟨n, h⟩ := h
  cases n with
  | zero => simp [sg] at h
  | succ n =>
    cases ws with
    | nil => rw [sg_nil] at h; cases h
    | cons w r =>
      rw [sg_cons, if_neg (fun e => n1 r (by rw [e])), if_neg (fun e => n2 r (by rw [e])), if_neg (fun e => n3 r (by rw [e])), if_neg (fun e => n4 r (by rw [e]))] at h
      split at h
      · rename_i e
        split at h
        · rename_i y r'
          split at h
          · rename_i hy
            exact ⟨w, y, r', rfl, e, hy⟩
          · cases h
        · cases h
      · cases h
theorem PA.get {ws : List ByteArray} {x} (h : PA (nm 8) ws x) : ∃ a r, SG (nm 8) ws (a, r) ∧ AL (nm 8) a r x := by
  obtain ⟨n, h⟩ := h
  cases n with
  | zero => simp [pa] at h
  | succ n =>
    rw [pa_step, Option.bind_eq_some_iff] at h
    obtain ⟨y, hy, hr⟩ := h
    exact ⟨y.1, y.2, ⟨n, hy⟩, ⟨n, hr⟩⟩
theorem PO.get {ws : List ByteArray} {x} (h : PO (nm 8) ws x) : ∃ a r, PA (nm 8) ws (a, r) ∧ OL (nm 8) a r x := by
  obtain ⟨n, h⟩ := h
  cases n with
  | zero => simp [po] at h
  | succ n =>
    rw [po_step, Option.bind_eq_some_iff] at h
    obtain ⟨y, hy, hr⟩ := h
    exact ⟨y.1, y.2, ⟨n, hy⟩, ⟨n, hr⟩⟩
theorem AL.get {a : Tr} {ws : List ByteArray} {x} (h : AL (nm 8) a (wAnd :: ws) x) : ∃ b r, SG (nm 8) ws (b, r) ∧ AL (nm 8) (.an a b) r x := by
  obtain ⟨n, h⟩ := h
  cases n with
  | zero => simp [al] at h
  | succ n =>
    rw [al_cons, if_pos rfl, Option.bind_eq_some_iff] at h
    obtain ⟨y, hy, hr⟩ := h
    exact ⟨y.1, y.2, ⟨n, hy⟩, ⟨n, hr⟩⟩
theorem OL.get {a : Tr} {ws : List ByteArray} {x} (h : OL (nm 8) a (wOr :: ws) x) : ∃ b r, PA (nm 8) ws (b, r) ∧ OL (nm 8) (.orr a b) r x := by
  obtain ⟨n, h⟩ := h
  cases n with
  | zero => simp [ol] at h
  | succ n =>
    rw [ol_cons, if_pos rfl, Option.bind_eq_some_iff] at h
    obtain ⟨y, hy, hr⟩ := h
    exact ⟨y.1, y.2, ⟨n, hy⟩, ⟨n, hr⟩⟩
theorem neq_word {x w : ByteArray} (h : x ≠ w) : (x.toList == w.toList) = false := by
  have := sqe (a := x) (b := w)
  unfold seq at this
  cases hb : (x.toList == w.toList)
  · rfl
  · exact absurd (this.1 hb) h
theorem eq_word (w : ByteArray) : (w.toList == w.toList) = true := beq_self_eq_true _
theorem take_yes (fl : Bool) (ws : List ByteArray) (ns : List Nod) (w : ByteArray) (hl : ws.length ≤ 20000) :
    Aw.Spec Tryd.prog 50 (rdR fl (w :: ws) ns) [.ptr 0 0 0, S w] (fun rg v => rg = rdR false ws ns ∧ v = B true) := by
  refine Aw.Spec.of k50 rfl fun E hn hnp hp => ?_
  replace hnp : E.np = 2 := hnp
  unfold a50
  have hx := eq_word w
  have e1 : (((ws.length + 1 : Nat) : Int) == 0) = false := by rw [beq_eq_false_iff_ne]; omega
  refine AWp.ofD [] [] hn mixed rfl ?_
  simp (config := { maxSteps := 2000000 }) only [go_sem, ↓reduceIte, Int.reduceToNat, Nat.reduceMul, Int.reduceBEq, Int.reduceBNe, Nat.reduceBEq, Nat.reduceAdd, Nat.reduceSub, Nat.reduceLeDiff, Nat.reduceEqDiff, Nat.reduceLT, reduceCtorEq, e1, hx]
  (repeat (refine And.intro (by first | omega | (refine ⟨by omega, by omega⟩) | (refine ⟨by omega, by omega, by omega⟩) | (simp only [List.length_map, List.length_range, List.length_append, List.length_cons, List.length_nil, List.length_replicate, List.length_set]; omega) | (simp; omega) | (intro hgd; cases hgd) | (intro hgd; refine ⟨hgd, ?_⟩; first | omega | (refine ⟨by omega, by omega⟩) | (simp; omega))) ?_))
  refine Retn.ret (π := [0, 1]) hp hnp ⟨rfl, ?_⟩
  simp (config := { maxSteps := 2000000 }) only [go_sem, ↓reduceIte, Int.reduceToNat, Nat.reduceMul, Int.reduceBEq, Int.reduceBNe, Nat.reduceBEq, Nat.reduceAdd, Nat.reduceSub, Nat.reduceLeDiff, Nat.reduceEqDiff, Nat.reduceLT, reduceCtorEq, Aw.renR, Aw.pos]
  rw [List.take_of_length_le (by rw [List.length_map]; exact Nat.le_refl _)]
theorem take_not (fl : Bool) (ws : List ByteArray) (ns : List Nod) (w : ByteArray) (h : ∀ r, ws ≠ w :: r) (hl : ws.length ≤ 20000) :
    Aw.Spec Tryd.prog 50 (rdR fl ws ns) [.ptr 0 0 0, S w] (fun rg v => rg = rdR fl ws ns ∧ v = B false) := by
  refine take_no fl ws ns w (fun x hx => ?_) hl
  cases ws with
  | nil => cases hx
  | cons y r =>
    injection hx with hx
    subst hx
    exact neq_word fun e => h r (by rw [e])
/-- What a reading function gives. -/
def RD (R : List ByteArray → Tr × List ByteArray → Prop) (ws : List ByteArray) (ns : List Nod) (rg : List Reg) (v : AV) : Prop :=
  (∃ t r, R ws (t, r) ∧ sz t + r.length ≤ ws.length ∧ (∀ w ∈ r, w ∈ ws) ∧ rg = rdR false r (ns ++ nds t ns.length) ∧ v = .tup [I (top ns.length (sz t)), B true]) ∨
    ((∀ x, ¬R ws x) ∧ ∃ fl ws' ns' z, rg = rdR fl ws' ns' ∧ v = .tup [I z, B false])
def SpS (F : Nat) (R : List ByteArray → Tr × List ByteArray → Prop) (ws : List ByteArray) : Prop :=
  ∀ fl ns, ns.length + ws.length ≤ 20000 → (∀ w ∈ ws, w.size ≤ 20000) → Aw.Spec Tryd.prog F (rdR fl ws ns) [.ptr 0 0 0] (RD R ws ns)
abbrev N8 := nm 8
theorem single_nil (fl : Bool) (ns : List Nod) : Aw.Spec Tryd.prog 56 (rdR fl [] ns) [.ptr 0 0 0] (fun rg v => rg = rdR fl [] ns ∧ v = .tup [I 0, B false]) := by
  refine Aw.Spec.of k56 rfl fun E hn hnp hp => ?_
  replace hnp : E.np = 2 := hnp
  have pin1 := hp.arr 1 rfl
  have tn : ∀ w : ByteArray, Aw.Spec Tryd.prog 50 (rdR fl [] ns) [.ptr 0 0 0, S w] (fun rg v => rg = rdR fl [] ns ∧ v = B false) := fun w => take_no fl [] ns w (fun x hx => by cases hx) (by decide)
  unfold a56
  refine AWp.seq (AWp.ofD [] [] hn mixed rfl ?_)
  simp (config := { maxSteps := 2000000 }) only [go_sem, ↓reduceIte, Int.reduceToNat, Nat.reduceMul, Int.reduceBEq, Int.reduceBNe, Nat.reduceBEq, Nat.reduceAdd, Nat.reduceSub, Nat.reduceLeDiff, Nat.reduceEqDiff, Nat.reduceLT, reduceCtorEq]
  refine AWp.seq (AWp.ofD [] [] hn mixed rfl ?_)
  simp (config := { maxSteps := 2000000 }) only [go_sem, ↓reduceIte, Int.reduceToNat, Nat.reduceMul, Int.reduceBEq, Int.reduceBNe, Nat.reduceBEq, Nat.reduceAdd, Nat.reduceSub, Nat.reduceLeDiff, Nat.reduceEqDiff, Nat.reduceLT, reduceCtorEq]
  refine AWpL.callA [0, 1] (tn ⟨#[97, 108, 119, 97, 121, 115]⟩) rfl rfl (by rw [hn]; rfl) rfl (fun r hr => by { rcases List.mem_cons.1 hr with rfl | hr; exact .inl rfl; cases List.mem_singleton.1 hr; exact .inr pin1 }) fun rg v hv => ?_
  obtain ⟨rfl, rfl⟩ := hv
  refine ⟨Nat.le_refl _, AWpL.ofM hn rfl ?_⟩
  simp (config := { maxSteps := 2000000 }) only [go_sem, ↓reduceIte, Int.reduceToNat, Nat.reduceMul, Int.reduceBEq, Int.reduceBNe, Nat.reduceBEq, Nat.reduceAdd, Nat.reduceSub, Nat.reduceLeDiff, Nat.reduceEqDiff, Nat.reduceLT, reduceCtorEq, Aw.retS, Aw.retRg, Aw.kpM, Aw.bkM, Aw.pos, Aw.isBox]
  refine AWpL.callA [0, 1] (tn ⟨#[110, 101, 118, 101, 114]⟩) rfl rfl (by rw [hn]; rfl) rfl (fun r hr => by { rcases List.mem_cons.1 hr with rfl | hr; exact .inl rfl; cases List.mem_singleton.1 hr; exact .inr pin1 }) fun rg v hv => ?_
  obtain ⟨rfl, rfl⟩ := hv
  refine ⟨Nat.le_refl _, AWpL.ofM hn rfl ?_⟩
  simp (config := { maxSteps := 2000000 }) only [go_sem, ↓reduceIte, Int.reduceToNat, Nat.reduceMul, Int.reduceBEq, Int.reduceBNe, Nat.reduceBEq, Nat.reduceAdd, Nat.reduceSub, Nat.reduceLeDiff, Nat.reduceEqDiff, Nat.reduceLT, reduceCtorEq, Aw.retS, Aw.retRg, Aw.kpM, Aw.bkM, Aw.pos, Aw.isBox]
  refine AWpL.callA [0, 1] (tn ⟨#[110, 111, 116]⟩) rfl rfl (by rw [hn]; rfl) rfl (fun r hr => by { rcases List.mem_cons.1 hr with rfl | hr; exact .inl rfl; cases List.mem_singleton.1 hr; exact .inr pin1 }) fun rg v hv => ?_
  obtain ⟨rfl, rfl⟩ := hv
  refine ⟨Nat.le_refl _, AWpL.ofM hn rfl ?_⟩
  simp (config := { maxSteps := 2000000 }) only [go_sem, ↓reduceIte, Int.reduceToNat, Nat.reduceMul, Int.reduceBEq, Int.reduceBNe, Nat.reduceBEq, Nat.reduceAdd, Nat.reduceSub, Nat.reduceLeDiff, Nat.reduceEqDiff, Nat.reduceLT, reduceCtorEq, Aw.retS, Aw.retRg, Aw.kpM, Aw.bkM, Aw.pos, Aw.isBox]
  refine AWpL.callA [0, 1] (tn ⟨#[40]⟩) rfl rfl (by rw [hn]; rfl) rfl (fun r hr => by { rcases List.mem_cons.1 hr with rfl | hr; exact .inl rfl; cases List.mem_singleton.1 hr; exact .inr pin1 }) fun rg v hv => ?_
  obtain ⟨rfl, rfl⟩ := hv
  refine ⟨Nat.le_refl _, AWpL.ofM hn rfl ?_⟩
  simp (config := { maxSteps := 2000000 }) only [go_sem, ↓reduceIte, Int.reduceToNat, Nat.reduceMul, Int.reduceBEq, Int.reduceBNe, Nat.reduceBEq, Nat.reduceAdd, Nat.reduceSub, Nat.reduceLeDiff, Nat.reduceEqDiff, Nat.reduceLT, reduceCtorEq, Aw.retS, Aw.retRg, Aw.kpM, Aw.bkM, Aw.pos, Aw.isBox]
  refine AWp.seq (AWp.seq (AWp.region (AWpL.upto 7 hn rfl ?_)))
  have e0 : decide ((0 : Int) < 2) = true := by decide
  simp (config := { maxSteps := 2000000 }) only [go_sem, ↓reduceIte, Int.reduceToNat, Nat.reduceMul, Int.reduceBEq, Int.reduceBNe, Nat.reduceBEq, Nat.reduceAdd, Nat.reduceSub, Nat.reduceLeDiff, Nat.reduceEqDiff, Nat.reduceLT, reduceCtorEq, Int.natCast_zero, List.length_nil, e0]
  refine AWpL.skips hn 56 false 8 (by rfl) rfl ?_
  simp (config := { maxSteps := 2000000 }) only [go_sem, ↓reduceIte, Int.reduceToNat, Nat.reduceMul, Int.reduceBEq, Int.reduceBNe, Nat.reduceBEq, Nat.reduceAdd, Nat.reduceSub, Nat.reduceLeDiff, Nat.reduceEqDiff, Nat.reduceLT, reduceCtorEq]
  refine AWpL.weak (weak_ent 64 (y := .opt false (B false)) (by rfl) Ent.off) ?_
  refine AWpL.skips hn 64 true 7 (by rfl) rfl ?_
  simp (config := { maxSteps := 2000000 }) only [go_sem, ↓reduceIte, Int.reduceToNat, Nat.reduceMul, Int.reduceBEq, Int.reduceBNe, Nat.reduceBEq, Nat.reduceAdd, Nat.reduceSub, Nat.reduceLeDiff, Nat.reduceEqDiff, Nat.reduceLT, reduceCtorEq]
  refine AWpL.skips hn 56 false 1 (by rfl) rfl ?_
  simp (config := { maxSteps := 2000000 }) only [go_sem, ↓reduceIte, Int.reduceToNat, Nat.reduceMul, Int.reduceBEq, Int.reduceBNe, Nat.reduceBEq, Nat.reduceAdd, Nat.reduceSub, Nat.reduceLeDiff, Nat.reduceEqDiff, Nat.reduceLT, reduceCtorEq]
  refine AWpL.weak (weak_ent 72 (y := .opt false (B false)) (by rfl) Ent.off) ?_
  refine AWpL.upto 2 hn rfl ?_
  have e1 : decide ((0 : Int) < 2) = true := by decide
  simp (config := { maxSteps := 2000000 }) only [go_sem, ↓reduceIte, Int.reduceToNat, Nat.reduceMul, Int.reduceBEq, Int.reduceBNe, Nat.reduceBEq, Nat.reduceAdd, Nat.reduceSub, Nat.reduceLeDiff, Nat.reduceEqDiff, Nat.reduceLT, reduceCtorEq, e1]
  refine AWpL.skips hn 74 false 8 (by rfl) rfl ?_
  simp (config := { maxSteps := 2000000 }) only [go_sem, ↓reduceIte, Int.reduceToNat, Nat.reduceMul, Int.reduceBEq, Int.reduceBNe, Nat.reduceBEq, Nat.reduceAdd, Nat.reduceSub, Nat.reduceLeDiff, Nat.reduceEqDiff, Nat.reduceLT, reduceCtorEq]
  refine AWpL.weak (weak_ent 82 (y := .opt false (B false)) (by rfl) Ent.off) (AWpL.ofM hn rfl ?_)
  simp (config := { maxSteps := 2000000 }) only [go_sem, ↓reduceIte, Int.reduceToNat, Nat.reduceMul, Int.reduceBEq, Int.reduceBNe, Nat.reduceBEq, Nat.reduceAdd, Nat.reduceSub, Nat.reduceLeDiff, Nat.reduceEqDiff, Nat.reduceLT, reduceCtorEq]
  refine AWp.ofD [] [] hn mixed rfl ?_
  simp (config := { maxSteps := 2000000 }) only [go_sem, ↓reduceIte, Int.reduceToNat, Nat.reduceMul, Int.reduceBEq, Int.reduceBNe, Nat.reduceBEq, Nat.reduceAdd, Nat.reduceSub, Nat.reduceLeDiff, Nat.reduceEqDiff, Nat.reduceLT, reduceCtorEq]
  refine Retn.ret (π := [0, 1]) hp hnp ⟨rfl, ?_⟩
  simp (config := { maxSteps := 2000000 }) only [go_sem, ↓reduceIte, Int.reduceToNat, Nat.reduceMul, Int.reduceBEq, Int.reduceBNe, Nat.reduceBEq, Nat.reduceAdd, Nat.reduceSub, Nat.reduceLeDiff, Nat.reduceEqDiff, Nat.reduceLT, reduceCtorEq, Aw.renR, Aw.pos]
  rfl
set_option maxRecDepth 100000 in
set_option maxHeartbeats 4000000 in
theorem single_g (m : Nat) (ih1 : ∀ ws : List ByteArray, ws.length < m → SpS 56 (SG N8) ws) (ih2 : ∀ ws : List ByteArray, ws.length < m → SpS 43 (PO N8) ws) : ∀ ws : List ByteArray, ws.length ≤ m → SpS 56 (SG N8) ws := by
  intro ws hm fl ns hl hs
  by_cases hne : ws = []
  · subst hne
    refine Aw.Spec.post (single_nil fl ns) ?_
    rintro rg v ⟨rfl, rfl⟩
    exact .inr ⟨fun x hx => SG.nil_inv hx, fl, [], ns, 0, rfl, rfl⟩
  refine Aw.Spec.of k56 rfl fun E hn hnp hp => ?_
  replace hnp : E.np = 2 := hnp
  have pin1 := hp.arr 1 rfl
  unfold a56
  refine AWp.ofD [] [] hn mixed rfl ?_
  simp (config := { maxSteps := 2000000 }) only [go_sem, ↓reduceIte, Int.reduceToNat, Nat.reduceMul, Int.reduceBEq, Int.reduceBNe, Nat.reduceBEq, Nat.reduceAdd, Nat.reduceSub, Nat.reduceLeDiff, Nat.reduceEqDiff, Nat.reduceLT, reduceCtorEq]
  by_cases h1 : ∃ r, ws = wAlw :: r
  · obtain ⟨r, rfl⟩ := h1
    rw [List.length_cons] at hl hm
    have hs' : ∀ w ∈ r, w.size ≤ 20000 := fun w hw => hs w (List.mem_cons_of_mem _ hw)
    refine AWpL.callA [0, 1] (take_yes fl r ns wAlw (by omega)) rfl rfl (by rw [hn]; rfl) rfl (fun r hr => by { rcases List.mem_cons.1 hr with rfl | hr; exact .inl rfl; cases List.mem_singleton.1 hr; exact .inr pin1 }) fun rg v hv => ?_
    obtain ⟨rfl, rfl⟩ := hv
    refine ⟨Nat.le_refl _, AWpL.ofM hn rfl ?_⟩
    simp (config := { maxSteps := 2000000 }) only [go_sem, ↓reduceIte, Int.reduceToNat, Nat.reduceMul, Int.reduceBEq, Int.reduceBNe, Nat.reduceBEq, Nat.reduceAdd, Nat.reduceSub, Nat.reduceLeDiff, Nat.reduceEqDiff, Nat.reduceLT, reduceCtorEq, Aw.retS, Aw.retRg, Aw.kpM, Aw.bkM, Aw.pos, Aw.isBox]
    refine AWpL.callA [0, 1] (s51 false r ns ⟨0, nE, 0, 0⟩ (by omega)) rfl rfl (by rw [hn]; rfl) rfl (fun r hr => by { rcases List.mem_cons.1 hr with rfl | hr; exact .inl rfl; cases List.mem_singleton.1 hr; exact .inr pin1 }) fun rg v hv => ?_
    obtain ⟨rfl, rfl⟩ := hv
    refine ⟨Nat.le_refl _, AWpL.ofM hn rfl ?_⟩
    simp (config := { maxSteps := 2000000 }) only [go_sem, ↓reduceIte, Int.reduceToNat, Nat.reduceMul, Int.reduceBEq, Int.reduceBNe, Nat.reduceBEq, Nat.reduceAdd, Nat.reduceSub, Nat.reduceLeDiff, Nat.reduceEqDiff, Nat.reduceLT, reduceCtorEq, Aw.retS, Aw.retRg, Aw.kpM, Aw.bkM, Aw.pos, Aw.isBox]
    refine Retn.ret (π := [0, 1]) hp hnp ⟨rfl, ?_⟩
    simp (config := { maxSteps := 2000000 }) only [go_sem, ↓reduceIte, Int.reduceToNat, Nat.reduceMul, Int.reduceBEq, Int.reduceBNe, Nat.reduceBEq, Nat.reduceAdd, Nat.reduceSub, Nat.reduceLeDiff, Nat.reduceEqDiff, Nat.reduceLT, reduceCtorEq, Aw.renR, Aw.pos]
    exact .inl ⟨.alw, r, SG.alw, by simp [sz]; omega, fun w hw => List.mem_cons_of_mem _ hw, rfl, rfl⟩
  have n1 : ∀ r, ws ≠ wAlw :: r := fun r e => h1 ⟨r, e⟩
  refine AWpL.callA [0, 1] (take_not fl ws ns wAlw n1 (by omega)) rfl rfl (by rw [hn]; rfl) rfl (fun r hr => by { rcases List.mem_cons.1 hr with rfl | hr; exact .inl rfl; cases List.mem_singleton.1 hr; exact .inr pin1 }) fun rg v hv => ?_
  obtain ⟨rfl, rfl⟩ := hv
  refine ⟨Nat.le_refl _, AWpL.ofM hn rfl ?_⟩
  simp (config := { maxSteps := 2000000 }) only [go_sem, ↓reduceIte, Int.reduceToNat, Nat.reduceMul, Int.reduceBEq, Int.reduceBNe, Nat.reduceBEq, Nat.reduceAdd, Nat.reduceSub, Nat.reduceLeDiff, Nat.reduceEqDiff, Nat.reduceLT, reduceCtorEq, Aw.retS, Aw.retRg, Aw.kpM, Aw.bkM, Aw.pos, Aw.isBox]
  by_cases h2 : ∃ r, ws = wNev :: r
  · obtain ⟨r, rfl⟩ := h2
    rw [List.length_cons] at hl hm
    have hs' : ∀ w ∈ r, w.size ≤ 20000 := fun w hw => hs w (List.mem_cons_of_mem _ hw)
    refine AWpL.callA [0, 1] (take_yes fl r ns wNev (by omega)) rfl rfl (by rw [hn]; rfl) rfl (fun r hr => by { rcases List.mem_cons.1 hr with rfl | hr; exact .inl rfl; cases List.mem_singleton.1 hr; exact .inr pin1 }) fun rg v hv => ?_
    obtain ⟨rfl, rfl⟩ := hv
    refine ⟨Nat.le_refl _, AWpL.ofM hn rfl ?_⟩
    simp (config := { maxSteps := 2000000 }) only [go_sem, ↓reduceIte, Int.reduceToNat, Nat.reduceMul, Int.reduceBEq, Int.reduceBNe, Nat.reduceBEq, Nat.reduceAdd, Nat.reduceSub, Nat.reduceLeDiff, Nat.reduceEqDiff, Nat.reduceLT, reduceCtorEq, Aw.retS, Aw.retRg, Aw.kpM, Aw.bkM, Aw.pos, Aw.isBox]
    refine AWpL.callA [0, 1] (s51 false r ns ⟨1, nE, 0, 0⟩ (by omega)) rfl rfl (by rw [hn]; rfl) rfl (fun r hr => by { rcases List.mem_cons.1 hr with rfl | hr; exact .inl rfl; cases List.mem_singleton.1 hr; exact .inr pin1 }) fun rg v hv => ?_
    obtain ⟨rfl, rfl⟩ := hv
    refine ⟨Nat.le_refl _, AWpL.ofM hn rfl ?_⟩
    simp (config := { maxSteps := 2000000 }) only [go_sem, ↓reduceIte, Int.reduceToNat, Nat.reduceMul, Int.reduceBEq, Int.reduceBNe, Nat.reduceBEq, Nat.reduceAdd, Nat.reduceSub, Nat.reduceLeDiff, Nat.reduceEqDiff, Nat.reduceLT, reduceCtorEq, Aw.retS, Aw.retRg, Aw.kpM, Aw.bkM, Aw.pos, Aw.isBox]
    refine Retn.ret (π := [0, 1]) hp hnp ⟨rfl, ?_⟩
    simp (config := { maxSteps := 2000000 }) only [go_sem, ↓reduceIte, Int.reduceToNat, Nat.reduceMul, Int.reduceBEq, Int.reduceBNe, Nat.reduceBEq, Nat.reduceAdd, Nat.reduceSub, Nat.reduceLeDiff, Nat.reduceEqDiff, Nat.reduceLT, reduceCtorEq, Aw.renR, Aw.pos]
    exact .inl ⟨.nev, r, SG.nev, by simp [sz]; omega, fun w hw => List.mem_cons_of_mem _ hw, rfl, rfl⟩
  have n2 : ∀ r, ws ≠ wNev :: r := fun r e => h2 ⟨r, e⟩
  refine AWpL.callA [0, 1] (take_not fl ws ns wNev n2 (by omega)) rfl rfl (by rw [hn]; rfl) rfl (fun r hr => by { rcases List.mem_cons.1 hr with rfl | hr; exact .inl rfl; cases List.mem_singleton.1 hr; exact .inr pin1 }) fun rg v hv => ?_
  obtain ⟨rfl, rfl⟩ := hv
  refine ⟨Nat.le_refl _, AWpL.ofM hn rfl ?_⟩
  simp (config := { maxSteps := 2000000 }) only [go_sem, ↓reduceIte, Int.reduceToNat, Nat.reduceMul, Int.reduceBEq, Int.reduceBNe, Nat.reduceBEq, Nat.reduceAdd, Nat.reduceSub, Nat.reduceLeDiff, Nat.reduceEqDiff, Nat.reduceLT, reduceCtorEq, Aw.retS, Aw.retRg, Aw.kpM, Aw.bkM, Aw.pos, Aw.isBox]
  by_cases h3 : ∃ r, ws = wNot :: r
  · obtain ⟨r, rfl⟩ := h3
    rw [List.length_cons] at hl hm
    have hs' : ∀ w ∈ r, w.size ≤ 20000 := fun w hw => hs w (List.mem_cons_of_mem _ hw)
    refine AWpL.callA [0, 1] (take_yes fl r ns wNot (by omega)) rfl rfl (by rw [hn]; rfl) rfl (fun r hr => by { rcases List.mem_cons.1 hr with rfl | hr; exact .inl rfl; cases List.mem_singleton.1 hr; exact .inr pin1 }) fun rg v hv => ?_
    obtain ⟨rfl, rfl⟩ := hv
    refine ⟨Nat.le_refl _, AWpL.ofM hn rfl ?_⟩
    simp (config := { maxSteps := 2000000 }) only [go_sem, ↓reduceIte, Int.reduceToNat, Nat.reduceMul, Int.reduceBEq, Int.reduceBNe, Nat.reduceBEq, Nat.reduceAdd, Nat.reduceSub, Nat.reduceLeDiff, Nat.reduceEqDiff, Nat.reduceLT, reduceCtorEq, Aw.retS, Aw.retRg, Aw.kpM, Aw.bkM, Aw.pos, Aw.isBox]
    refine AWpL.callA [0, 1] (ih1 r (by omega) false ns (by omega) hs') rfl rfl (by rw [hn]; rfl) rfl (fun r hr => by { rcases List.mem_cons.1 hr with rfl | hr; exact .inl rfl; cases List.mem_singleton.1 hr; exact .inr pin1 }) fun rg v hv => ?_
    rcases hv with ⟨t, r', hR, hsz, hmem, rfl, rfl⟩ | ⟨hR, fl', ws', ns', z, rfl, rfl⟩
    · refine ⟨Nat.le_refl _, AWpL.ofM hn rfl ?_⟩
      simp (config := { maxSteps := 2000000 }) only [go_sem, ↓reduceIte, Int.reduceToNat, Nat.reduceMul, Int.reduceBEq, Int.reduceBNe, Nat.reduceBEq, Nat.reduceAdd, Nat.reduceSub, Nat.reduceLeDiff, Nat.reduceEqDiff, Nat.reduceLT, reduceCtorEq, Aw.retS, Aw.retRg, Aw.kpM, Aw.bkM, Aw.pos, Aw.isBox]
      have hlen : (ns ++ nds t ns.length).length = ns.length + sz t := by rw [List.length_append, nds_len]
      refine AWpL.callA [0, 1] (s51 false r' (ns ++ nds t ns.length) ⟨4, nE, top ns.length (sz t), 0⟩ (by omega)) rfl rfl (by rw [hn]; rfl) rfl (fun r hr => by { rcases List.mem_cons.1 hr with rfl | hr; exact .inl rfl; cases List.mem_singleton.1 hr; exact .inr pin1 }) fun rg v hv => ?_
      obtain ⟨rfl, rfl⟩ := hv
      refine ⟨Nat.le_refl _, AWpL.ofM hn rfl ?_⟩
      simp (config := { maxSteps := 2000000 }) only [go_sem, ↓reduceIte, Int.reduceToNat, Nat.reduceMul, Int.reduceBEq, Int.reduceBNe, Nat.reduceBEq, Nat.reduceAdd, Nat.reduceSub, Nat.reduceLeDiff, Nat.reduceEqDiff, Nat.reduceLT, reduceCtorEq, Aw.retS, Aw.retRg, Aw.kpM, Aw.bkM, Aw.pos, Aw.isBox]
      refine Retn.ret (π := [0, 1]) hp hnp ⟨rfl, ?_⟩
      simp (config := { maxSteps := 2000000 }) only [go_sem, ↓reduceIte, Int.reduceToNat, Nat.reduceMul, Int.reduceBEq, Int.reduceBNe, Nat.reduceBEq, Nat.reduceAdd, Nat.reduceSub, Nat.reduceLeDiff, Nat.reduceEqDiff, Nat.reduceLT, reduceCtorEq, Aw.renR, Aw.pos]
      refine .inl ⟨.no t, r', SG.not hR, by show sz t + 1 + r'.length ≤ r.length + 1; omega, fun w hw => List.mem_cons_of_mem _ (hmem w hw), by rw [show ns ++ nds (.no t) ns.length = (ns ++ nds t ns.length) ++ [⟨4, nE, top ns.length (sz t), 0⟩] by simp [nds]], ?_⟩
      rw [hlen, show top ns.length (sz (.no t)) = ((ns.length + sz t : Nat) : Int) by simp [top, sz]]
    · refine ⟨Nat.le_refl _, AWpL.ofM hn rfl ?_⟩
      simp (config := { maxSteps := 2000000 }) only [go_sem, ↓reduceIte, Int.reduceToNat, Nat.reduceMul, Int.reduceBEq, Int.reduceBNe, Nat.reduceBEq, Nat.reduceAdd, Nat.reduceSub, Nat.reduceLeDiff, Nat.reduceEqDiff, Nat.reduceLT, reduceCtorEq, Aw.retS, Aw.retRg, Aw.kpM, Aw.bkM, Aw.pos, Aw.isBox]
      refine Retn.ret (π := [0, 1]) hp hnp ⟨rfl, ?_⟩
      simp (config := { maxSteps := 2000000 }) only [go_sem, ↓reduceIte, Int.reduceToNat, Nat.reduceMul, Int.reduceBEq, Int.reduceBNe, Nat.reduceBEq, Nat.reduceAdd, Nat.reduceSub, Nat.reduceLeDiff, Nat.reduceEqDiff, Nat.reduceLT, reduceCtorEq, Aw.renR, Aw.pos]
      exact .inr ⟨fun x hx => SG.not_inv hx hR, fl', ws', ns', 0, rfl, rfl⟩
  have n3 : ∀ r, ws ≠ wNot :: r := fun r e => h3 ⟨r, e⟩
  refine AWpL.callA [0, 1] (take_not fl ws ns wNot n3 (by omega)) rfl rfl (by rw [hn]; rfl) rfl (fun r hr => by { rcases List.mem_cons.1 hr with rfl | hr; exact .inl rfl; cases List.mem_singleton.1 hr; exact .inr pin1 }) fun rg v hv => ?_
  obtain ⟨rfl, rfl⟩ := hv
  refine ⟨Nat.le_refl _, AWpL.ofM hn rfl ?_⟩
  simp (config := { maxSteps := 2000000 }) only [go_sem, ↓reduceIte, Int.reduceToNat, Nat.reduceMul, Int.reduceBEq, Int.reduceBNe, Nat.reduceBEq, Nat.reduceAdd, Nat.reduceSub, Nat.reduceLeDiff, Nat.reduceEqDiff, Nat.reduceLT, reduceCtorEq, Aw.retS, Aw.retRg, Aw.kpM, Aw.bkM, Aw.pos, Aw.isBox]
  by_cases h4 : ∃ r, ws = wLp :: r
  · obtain ⟨r, rfl⟩ := h4
    rw [List.length_cons] at hl hm
    have hs' : ∀ w ∈ r, w.size ≤ 20000 := fun w hw => hs w (List.mem_cons_of_mem _ hw)
    refine AWpL.callA [0, 1] (take_yes fl r ns wLp (by omega)) rfl rfl (by rw [hn]; rfl) rfl (fun r hr => by { rcases List.mem_cons.1 hr with rfl | hr; exact .inl rfl; cases List.mem_singleton.1 hr; exact .inr pin1 }) fun rg v hv => ?_
    obtain ⟨rfl, rfl⟩ := hv
    refine ⟨Nat.le_refl _, AWpL.ofM hn rfl ?_⟩
    simp (config := { maxSteps := 2000000 }) only [go_sem, ↓reduceIte, Int.reduceToNat, Nat.reduceMul, Int.reduceBEq, Int.reduceBNe, Nat.reduceBEq, Nat.reduceAdd, Nat.reduceSub, Nat.reduceLeDiff, Nat.reduceEqDiff, Nat.reduceLT, reduceCtorEq, Aw.retS, Aw.retRg, Aw.kpM, Aw.bkM, Aw.pos, Aw.isBox]
    refine AWpL.callA [0, 1] (ih2 r (by omega) false ns (by omega) hs') rfl rfl (by rw [hn]; rfl) rfl (fun r hr => by { rcases List.mem_cons.1 hr with rfl | hr; exact .inl rfl; cases List.mem_singleton.1 hr; exact .inr pin1 }) fun rg v hv => ?_
    rcases hv with ⟨t, r', hR, hsz, hmem, rfl, rfl⟩ | ⟨hR, fl', ws', ns', z, rfl, rfl⟩
    · refine ⟨Nat.le_refl _, AWpL.ofM hn rfl ?_⟩
      have hlen : (ns ++ nds t ns.length).length = ns.length + sz t := by rw [List.length_append, nds_len]
      simp (config := { maxSteps := 2000000 }) only [go_sem, ↓reduceIte, Int.reduceToNat, Nat.reduceMul, Int.reduceBEq, Int.reduceBNe, Nat.reduceBEq, Nat.reduceAdd, Nat.reduceSub, Nat.reduceLeDiff, Nat.reduceEqDiff, Nat.reduceLT, reduceCtorEq, Aw.retS, Aw.retRg, Aw.kpM, Aw.bkM, Aw.pos, Aw.isBox]
      refine AWpL.guardT rfl (AWpL.weak (weak_opt 47 rfl) ?_)
      by_cases h5 : ∃ r2, r' = wRp :: r2
      · obtain ⟨r2, rfl⟩ := h5
        rw [List.length_cons] at hsz
        refine AWpL.callA [0, 1] (take_yes false r2 (ns ++ nds t ns.length) wRp (by omega)) rfl rfl (by rw [hn]; rfl) rfl (fun r hr => by { rcases List.mem_cons.1 hr with rfl | hr; exact .inl rfl; cases List.mem_singleton.1 hr; exact .inr pin1 }) fun rg v hv => ?_
        obtain ⟨rfl, rfl⟩ := hv
        refine ⟨Nat.le_refl _, AWpL.ofM hn rfl ?_⟩
        simp (config := { maxSteps := 2000000 }) only [go_sem, ↓reduceIte, Int.reduceToNat, Nat.reduceMul, Int.reduceBEq, Int.reduceBNe, Nat.reduceBEq, Nat.reduceAdd, Nat.reduceSub, Nat.reduceLeDiff, Nat.reduceEqDiff, Nat.reduceLT, reduceCtorEq, Aw.retS, Aw.retRg, Aw.kpM, Aw.bkM, Aw.pos, Aw.isBox]
        refine Retn.ret (π := [0, 1]) hp hnp ⟨rfl, ?_⟩
        simp (config := { maxSteps := 2000000 }) only [go_sem, ↓reduceIte, Int.reduceToNat, Nat.reduceMul, Int.reduceBEq, Int.reduceBNe, Nat.reduceBEq, Nat.reduceAdd, Nat.reduceSub, Nat.reduceLeDiff, Nat.reduceEqDiff, Nat.reduceLT, reduceCtorEq, Aw.renR, Aw.pos]
        exact .inl ⟨t, r2, SG.par hR, by rw [List.length_cons]; omega, fun w hw => List.mem_cons_of_mem _ (hmem w (List.mem_cons_of_mem _ hw)), rfl, rfl⟩
      · have n5 : ∀ r2, r' ≠ wRp :: r2 := fun r2 e => h5 ⟨r2, e⟩
        refine AWpL.callA [0, 1] (take_not false r' (ns ++ nds t ns.length) wRp n5 (by omega)) rfl rfl (by rw [hn]; rfl) rfl (fun r hr => by { rcases List.mem_cons.1 hr with rfl | hr; exact .inl rfl; cases List.mem_singleton.1 hr; exact .inr pin1 }) fun rg v hv => ?_
        obtain ⟨rfl, rfl⟩ := hv
        refine ⟨Nat.le_refl _, AWpL.ofM hn rfl ?_⟩
        simp (config := { maxSteps := 2000000 }) only [go_sem, ↓reduceIte, Int.reduceToNat, Nat.reduceMul, Int.reduceBEq, Int.reduceBNe, Nat.reduceBEq, Nat.reduceAdd, Nat.reduceSub, Nat.reduceLeDiff, Nat.reduceEqDiff, Nat.reduceLT, reduceCtorEq, Aw.retS, Aw.retRg, Aw.kpM, Aw.bkM, Aw.pos, Aw.isBox]
        refine Retn.ret (π := [0, 1]) hp hnp ⟨rfl, ?_⟩
        simp (config := { maxSteps := 2000000 }) only [go_sem, ↓reduceIte, Int.reduceToNat, Nat.reduceMul, Int.reduceBEq, Int.reduceBNe, Nat.reduceBEq, Nat.reduceAdd, Nat.reduceSub, Nat.reduceLeDiff, Nat.reduceEqDiff, Nat.reduceLT, reduceCtorEq, Aw.renR, Aw.pos]
        exact .inr ⟨fun x hx => SG.par_inv hx hR n5, false, r', _, _, rfl, rfl⟩
    · refine ⟨Nat.le_refl _, AWpL.ofM hn rfl ?_⟩
      simp (config := { maxSteps := 2000000 }) only [go_sem, ↓reduceIte, Int.reduceToNat, Nat.reduceMul, Int.reduceBEq, Int.reduceBNe, Nat.reduceBEq, Nat.reduceAdd, Nat.reduceSub, Nat.reduceLeDiff, Nat.reduceEqDiff, Nat.reduceLT, reduceCtorEq, Aw.retS, Aw.retRg, Aw.kpM, Aw.bkM, Aw.pos, Aw.isBox]
      refine AWpL.skips hn 46 true 1 (by rfl) rfl ?_
      refine AWpL.weak (weak_ent 48 (y := .opt false (B false)) (by rfl) Ent.off) (AWpL.ofM hn rfl ?_)
      simp (config := { maxSteps := 2000000 }) only [go_sem, ↓reduceIte, Int.reduceToNat, Nat.reduceMul, Int.reduceBEq, Int.reduceBNe, Nat.reduceBEq, Nat.reduceAdd, Nat.reduceSub, Nat.reduceLeDiff, Nat.reduceEqDiff, Nat.reduceLT, reduceCtorEq]
      refine Retn.ret (π := [0, 1]) hp hnp ⟨rfl, ?_⟩
      simp (config := { maxSteps := 2000000 }) only [go_sem, ↓reduceIte, Int.reduceToNat, Nat.reduceMul, Int.reduceBEq, Int.reduceBNe, Nat.reduceBEq, Nat.reduceAdd, Nat.reduceSub, Nat.reduceLeDiff, Nat.reduceEqDiff, Nat.reduceLT, reduceCtorEq, Aw.renR, Aw.pos]
      exact .inr ⟨fun x hx => SG.par_has hx hR, fl', ws', ns', z, rfl, rfl⟩
  have n4 : ∀ r, ws ≠ wLp :: r := fun r e => h4 ⟨r, e⟩
  refine AWpL.callA [0, 1] (take_not fl ws ns wLp n4 (by omega)) rfl rfl (by rw [hn]; rfl) rfl (fun r hr => by { rcases List.mem_cons.1 hr with rfl | hr; exact .inl rfl; cases List.mem_singleton.1 hr; exact .inr pin1 }) fun rg v hv => ?_
  obtain ⟨rfl, rfl⟩ := hv
  refine ⟨Nat.le_refl _, AWpL.ofM hn rfl ?_⟩
  simp (config := { maxSteps := 2000000 }) only [go_sem, ↓reduceIte, Int.reduceToNat, Nat.reduceMul, Int.reduceBEq, Int.reduceBNe, Nat.reduceBEq, Nat.reduceAdd, Nat.reduceSub, Nat.reduceLeDiff, Nat.reduceEqDiff, Nat.reduceLT, reduceCtorEq, Aw.retS, Aw.retRg, Aw.kpM, Aw.bkM, Aw.pos, Aw.isBox]
  have nn : ∀ x, ¬(∃ w y r, ws = w :: y :: r ∧ (w = wOpn ∨ w = wClo) ∧ nm 8 y = true) → ¬SG N8 ws x := fun x k h => k (SG.name_has h n1 n2 n3 n4)
  cases ws with
  | nil => exact absurd rfl hne
  | cons w r =>
    cases r with
    | nil =>
      have e1 : decide ((1 : Int) < 2) = true := by decide
      simp (config := { maxSteps := 2000000 }) only [go_sem, ↓reduceIte, Int.reduceToNat, Nat.reduceMul, Int.reduceBEq, Int.reduceBNe, Nat.reduceBEq, Nat.reduceAdd, Nat.reduceSub, Nat.reduceLeDiff, Nat.reduceEqDiff, Nat.reduceLT, reduceCtorEq, e1]
      refine AWpL.skips hn 74 false 2 (by rfl) rfl ?_
      refine AWpL.weak (weak_ent 82 (y := .opt false (B false)) (by rfl) Ent.off) (AWpL.ofM hn rfl ?_)
      simp (config := { maxSteps := 2000000 }) only [go_sem, ↓reduceIte, Int.reduceToNat, Nat.reduceMul, Int.reduceBEq, Int.reduceBNe, Nat.reduceBEq, Nat.reduceAdd, Nat.reduceSub, Nat.reduceLeDiff, Nat.reduceEqDiff, Nat.reduceLT, reduceCtorEq]
      refine Retn.ret (π := [0, 1]) hp hnp ⟨rfl, ?_⟩
      simp (config := { maxSteps := 2000000 }) only [go_sem, ↓reduceIte, Int.reduceToNat, Nat.reduceMul, Int.reduceBEq, Int.reduceBNe, Nat.reduceBEq, Nat.reduceAdd, Nat.reduceSub, Nat.reduceLeDiff, Nat.reduceEqDiff, Nat.reduceLT, reduceCtorEq, Aw.renR, Aw.pos]
      exact .inr ⟨fun x hx => nn x (by rintro ⟨w, y, r, h, -⟩; cases h) hx, fl, [w], ns, 0, rfl, rfl⟩
    | cons y r =>
      have e1 : decide (((r.length + 1 + 1 : Nat) : Int) < 2) = false := by rw [decide_eq_false_iff_not]; omega
      have etk : List.take r.length (r.map sc) = r.map sc := List.take_of_length_le (by rw [List.length_map]; exact Nat.le_refl _)
      have hys := hs y (List.mem_cons_of_mem _ List.mem_cons_self)
      by_cases hw1 : w = wOpn
      · subst hw1
        have d2 : (wOpn.toList == (ByteArray.mk #[111, 112, 101, 110]).toList) = true := by decide +kernel
        simp (config := { maxSteps := 2000000 }) only [go_sem, ↓reduceIte, Int.reduceToNat, Nat.reduceMul, Int.reduceBEq, Int.reduceBNe, Nat.reduceBEq, Nat.reduceAdd, Nat.reduceSub, Nat.reduceLeDiff, Nat.reduceEqDiff, Nat.reduceLT, reduceCtorEq, e1, d2]
        (repeat (refine And.intro (by first | omega | (refine ⟨by omega, by omega⟩) | (refine ⟨by omega, by omega, by omega⟩) | (simp only [List.length_map, List.length_range, List.length_append, List.length_cons, List.length_nil, List.length_replicate, List.length_set]; omega) | (simp; omega) | (intro hgd; cases hgd) | (intro hgd; refine ⟨hgd, ?_⟩; first | omega | (refine ⟨by omega, by omega⟩) | (simp; omega))) ?_))
        (refine AWpL.gcalle (b := true) rfl (fun _ => (s34 y (Nat.le_trans hys (by decide)))) rfl (by rw [hn]; rfl) (fun _ => by simp (config := { maxSteps := 2000000 }) only [go_sem, ↓reduceIte, Int.reduceToNat, Nat.reduceMul, Int.reduceBEq, Int.reduceBNe, Nat.reduceBEq, Nat.reduceAdd, Nat.reduceSub, Nat.reduceLeDiff, Nat.reduceEqDiff, Nat.reduceLT, reduceCtorEq]) (AWpL.ofM hn rfl ?_); simp (config := { maxSteps := 2000000 }) only [go_sem, ↓reduceIte, Int.reduceToNat, Nat.reduceMul, Int.reduceBEq, Int.reduceBNe, Nat.reduceBEq, Nat.reduceAdd, Nat.reduceSub, Nat.reduceLeDiff, Nat.reduceEqDiff, Nat.reduceLT, reduceCtorEq])
        have d4 : (wOpn.toList == (ByteArray.mk #[99, 108, 111, 115, 101, 100]).toList) = false := by decide +kernel
        by_cases hy : nm 8 y = true
        · simp (config := { maxSteps := 2000000 }) only [go_sem, ↓reduceIte, Int.reduceToNat, Nat.reduceMul, Int.reduceBEq, Int.reduceBNe, Nat.reduceBEq, Nat.reduceAdd, Nat.reduceSub, Nat.reduceLeDiff, Nat.reduceEqDiff, Nat.reduceLT, reduceCtorEq, hy, d4, etk]
          (repeat (refine And.intro (by first | omega | (refine ⟨by omega, by omega⟩) | (refine ⟨by omega, by omega, by omega⟩) | (simp only [List.length_map, List.length_range, List.length_append, List.length_cons, List.length_nil, List.length_replicate, List.length_set]; omega) | (simp; omega) | (intro hgd; cases hgd) | (intro hgd; refine ⟨hgd, ?_⟩; first | omega | (refine ⟨by omega, by omega⟩) | (simp; omega))) ?_))
          refine AWpL.callA [0, 1] (s51 false r ns ⟨2, y, 0, 0⟩ (by omega)) rfl rfl (by rw [hn]; rfl) rfl (fun r hr => by { rcases List.mem_cons.1 hr with rfl | hr; exact .inl rfl; cases List.mem_singleton.1 hr; exact .inr pin1 }) fun rg v hv => ?_
          obtain ⟨rfl, rfl⟩ := hv
          refine ⟨Nat.le_refl _, AWpL.ofM hn rfl ?_⟩
          simp (config := { maxSteps := 2000000 }) only [go_sem, ↓reduceIte, Int.reduceToNat, Nat.reduceMul, Int.reduceBEq, Int.reduceBNe, Nat.reduceBEq, Nat.reduceAdd, Nat.reduceSub, Nat.reduceLeDiff, Nat.reduceEqDiff, Nat.reduceLT, reduceCtorEq, Aw.retS, Aw.retRg, Aw.kpM, Aw.bkM, Aw.pos, Aw.isBox]
          refine Retn.ret (π := [0, 1]) hp hnp ⟨rfl, ?_⟩
          simp (config := { maxSteps := 2000000 }) only [go_sem, ↓reduceIte, Int.reduceToNat, Nat.reduceMul, Int.reduceBEq, Int.reduceBNe, Nat.reduceBEq, Nat.reduceAdd, Nat.reduceSub, Nat.reduceLeDiff, Nat.reduceEqDiff, Nat.reduceLT, reduceCtorEq, Aw.renR, Aw.pos]
          refine .inl ⟨.opn y, r, SG.opn hy, by show 1 + r.length ≤ r.length + 1 + 1; omega, fun w hw => List.mem_cons_of_mem _ (List.mem_cons_of_mem _ hw), rfl, rfl⟩
        · have hy := Bool.eq_false_iff.2 hy
          simp (config := { maxSteps := 2000000 }) only [go_sem, ↓reduceIte, Int.reduceToNat, Nat.reduceMul, Int.reduceBEq, Int.reduceBNe, Nat.reduceBEq, Nat.reduceAdd, Nat.reduceSub, Nat.reduceLeDiff, Nat.reduceEqDiff, Nat.reduceLT, reduceCtorEq, hy]
          refine Retn.ret (π := [0, 1]) hp hnp ⟨rfl, ?_⟩
          simp (config := { maxSteps := 2000000 }) only [go_sem, ↓reduceIte, Int.reduceToNat, Nat.reduceMul, Int.reduceBEq, Int.reduceBNe, Nat.reduceBEq, Nat.reduceAdd, Nat.reduceSub, Nat.reduceLeDiff, Nat.reduceEqDiff, Nat.reduceLT, reduceCtorEq, Aw.renR, Aw.pos]
          refine .inr ⟨fun x hx => nn x (by { rintro ⟨w, y', r', h, -, k⟩; injection h with h1 h2; injection h2 with h2 h3; subst h2; rw [hy] at k; cases k }) hx, fl, wOpn :: y :: r, ns, 0, rfl, rfl⟩
      have d2 := neq_word hw1
      unfold wOpn at d2
      by_cases hw2 : w = wClo
      · subst hw2
        have d3 : (wClo.toList == (ByteArray.mk #[99, 108, 111, 115, 101, 100]).toList) = true := by decide +kernel
        simp (config := { maxSteps := 2000000 }) only [go_sem, ↓reduceIte, Int.reduceToNat, Nat.reduceMul, Int.reduceBEq, Int.reduceBNe, Nat.reduceBEq, Nat.reduceAdd, Nat.reduceSub, Nat.reduceLeDiff, Nat.reduceEqDiff, Nat.reduceLT, reduceCtorEq, e1, d2, d3]
        (repeat (refine And.intro (by first | omega | (refine ⟨by omega, by omega⟩) | (refine ⟨by omega, by omega, by omega⟩) | (simp only [List.length_map, List.length_range, List.length_append, List.length_cons, List.length_nil, List.length_replicate, List.length_set]; omega) | (simp; omega) | (intro hgd; cases hgd) | (intro hgd; refine ⟨hgd, ?_⟩; first | omega | (refine ⟨by omega, by omega⟩) | (simp; omega))) ?_))
        (refine AWpL.gcalle (b := true) rfl (fun _ => (s34 y (Nat.le_trans hys (by decide)))) rfl (by rw [hn]; rfl) (fun _ => by simp (config := { maxSteps := 2000000 }) only [go_sem, ↓reduceIte, Int.reduceToNat, Nat.reduceMul, Int.reduceBEq, Int.reduceBNe, Nat.reduceBEq, Nat.reduceAdd, Nat.reduceSub, Nat.reduceLeDiff, Nat.reduceEqDiff, Nat.reduceLT, reduceCtorEq]) (AWpL.ofM hn rfl ?_); simp (config := { maxSteps := 2000000 }) only [go_sem, ↓reduceIte, Int.reduceToNat, Nat.reduceMul, Int.reduceBEq, Int.reduceBNe, Nat.reduceBEq, Nat.reduceAdd, Nat.reduceSub, Nat.reduceLeDiff, Nat.reduceEqDiff, Nat.reduceLT, reduceCtorEq])
        by_cases hy : nm 8 y = true
        · simp (config := { maxSteps := 2000000 }) only [go_sem, ↓reduceIte, Int.reduceToNat, Nat.reduceMul, Int.reduceBEq, Int.reduceBNe, Nat.reduceBEq, Nat.reduceAdd, Nat.reduceSub, Nat.reduceLeDiff, Nat.reduceEqDiff, Nat.reduceLT, reduceCtorEq, hy, d3, etk]
          (repeat (refine And.intro (by first | omega | (refine ⟨by omega, by omega⟩) | (refine ⟨by omega, by omega, by omega⟩) | (simp only [List.length_map, List.length_range, List.length_append, List.length_cons, List.length_nil, List.length_replicate, List.length_set]; omega) | (simp; omega) | (intro hgd; cases hgd) | (intro hgd; refine ⟨hgd, ?_⟩; first | omega | (refine ⟨by omega, by omega⟩) | (simp; omega))) ?_))
          refine AWpL.callA [0, 1] (s51 false r ns ⟨3, y, 0, 0⟩ (by omega)) rfl rfl (by rw [hn]; rfl) rfl (fun r hr => by { rcases List.mem_cons.1 hr with rfl | hr; exact .inl rfl; cases List.mem_singleton.1 hr; exact .inr pin1 }) fun rg v hv => ?_
          obtain ⟨rfl, rfl⟩ := hv
          refine ⟨Nat.le_refl _, AWpL.ofM hn rfl ?_⟩
          simp (config := { maxSteps := 2000000 }) only [go_sem, ↓reduceIte, Int.reduceToNat, Nat.reduceMul, Int.reduceBEq, Int.reduceBNe, Nat.reduceBEq, Nat.reduceAdd, Nat.reduceSub, Nat.reduceLeDiff, Nat.reduceEqDiff, Nat.reduceLT, reduceCtorEq, Aw.retS, Aw.retRg, Aw.kpM, Aw.bkM, Aw.pos, Aw.isBox]
          refine Retn.ret (π := [0, 1]) hp hnp ⟨rfl, ?_⟩
          simp (config := { maxSteps := 2000000 }) only [go_sem, ↓reduceIte, Int.reduceToNat, Nat.reduceMul, Int.reduceBEq, Int.reduceBNe, Nat.reduceBEq, Nat.reduceAdd, Nat.reduceSub, Nat.reduceLeDiff, Nat.reduceEqDiff, Nat.reduceLT, reduceCtorEq, Aw.renR, Aw.pos]
          refine .inl ⟨.clo y, r, SG.clo hy, by show 1 + r.length ≤ r.length + 1 + 1; omega, fun w hw => List.mem_cons_of_mem _ (List.mem_cons_of_mem _ hw), rfl, rfl⟩
        · have hy := Bool.eq_false_iff.2 hy
          simp (config := { maxSteps := 2000000 }) only [go_sem, ↓reduceIte, Int.reduceToNat, Nat.reduceMul, Int.reduceBEq, Int.reduceBNe, Nat.reduceBEq, Nat.reduceAdd, Nat.reduceSub, Nat.reduceLeDiff, Nat.reduceEqDiff, Nat.reduceLT, reduceCtorEq, hy]
          refine Retn.ret (π := [0, 1]) hp hnp ⟨rfl, ?_⟩
          simp (config := { maxSteps := 2000000 }) only [go_sem, ↓reduceIte, Int.reduceToNat, Nat.reduceMul, Int.reduceBEq, Int.reduceBNe, Nat.reduceBEq, Nat.reduceAdd, Nat.reduceSub, Nat.reduceLeDiff, Nat.reduceEqDiff, Nat.reduceLT, reduceCtorEq, Aw.renR, Aw.pos]
          refine .inr ⟨fun x hx => nn x (by { rintro ⟨w, y', r', h, -, k⟩; injection h with h1 h2; injection h2 with h2 h3; subst h2; rw [hy] at k; cases k }) hx, fl, wClo :: y :: r, ns, 0, rfl, rfl⟩
      have d3 := neq_word hw2
      unfold wClo at d3
      simp (config := { maxSteps := 2000000 }) only [go_sem, ↓reduceIte, Int.reduceToNat, Nat.reduceMul, Int.reduceBEq, Int.reduceBNe, Nat.reduceBEq, Nat.reduceAdd, Nat.reduceSub, Nat.reduceLeDiff, Nat.reduceEqDiff, Nat.reduceLT, reduceCtorEq, e1, d2, d3]
      (repeat (refine And.intro (by first | omega | (refine ⟨by omega, by omega⟩) | (refine ⟨by omega, by omega, by omega⟩) | (simp only [List.length_map, List.length_range, List.length_append, List.length_cons, List.length_nil, List.length_replicate, List.length_set]; omega) | (simp; omega) | (intro hgd; cases hgd) | (intro hgd; refine ⟨hgd, ?_⟩; first | omega | (refine ⟨by omega, by omega⟩) | (simp; omega))) ?_))
      refine AWpL.skips hn 74 false 2 (by rfl) rfl ?_
      refine AWpL.weak (weak_ent 82 (y := .opt false (B false)) (by rfl) Ent.off) (AWpL.ofM hn rfl ?_)
      simp (config := { maxSteps := 2000000 }) only [go_sem, ↓reduceIte, Int.reduceToNat, Nat.reduceMul, Int.reduceBEq, Int.reduceBNe, Nat.reduceBEq, Nat.reduceAdd, Nat.reduceSub, Nat.reduceLeDiff, Nat.reduceEqDiff, Nat.reduceLT, reduceCtorEq]
      refine Retn.ret (π := [0, 1]) hp hnp ⟨rfl, ?_⟩
      simp (config := { maxSteps := 2000000 }) only [go_sem, ↓reduceIte, Int.reduceToNat, Nat.reduceMul, Int.reduceBEq, Int.reduceBNe, Nat.reduceBEq, Nat.reduceAdd, Nat.reduceSub, Nat.reduceLeDiff, Nat.reduceEqDiff, Nat.reduceLT, reduceCtorEq, Aw.renR, Aw.pos]
      exact .inr ⟨fun x hx => nn x (by rintro ⟨w, y, r, h, k, -⟩; injection h with h; subst h; rcases k with k | k <;> contradiction) hx, fl, w :: y :: r, ns, 0, rfl, rfl⟩
/-- A node of two conditions. -/
theorem put_an (fl : Bool) (r : List ByteArray) (ns : List Nod) (a b : Tr) (hl : ns.length + sz a + sz b ≤ 20000) :
    Aw.Spec Tryd.prog 51 (rdR fl r (ns ++ nds a ns.length ++ nds b (ns ++ nds a ns.length).length)) [.ptr 0 0 0, .agg (nc ⟨5, nE, top ns.length (sz a), top (ns ++ nds a ns.length).length (sz b)⟩)]
      (fun rg v => rg = rdR fl r (ns ++ nds (.an a b) ns.length) ∧ v = I (top ns.length (sz (.an a b)))) := by
  have h := s51 fl r (ns ++ nds a ns.length ++ nds b (ns ++ nds a ns.length).length) ⟨5, nE, top ns.length (sz a), top (ns ++ nds a ns.length).length (sz b)⟩ (by simp only [List.length_append, nds_len]; omega)
  refine Aw.Spec.post h ?_
  rintro rg v ⟨rfl, rfl⟩
  have e : (ns ++ nds a ns.length).length = ns.length + sz a := by rw [List.length_append, nds_len]
  refine ⟨by rw [e]; simp [nds], ?_⟩
  rw [List.length_append, nds_len, e, show top ns.length (sz (.an a b)) = ((ns.length + sz a + sz b : Nat) : Int) by simp [top, sz]; omega]
theorem put_or (fl : Bool) (r : List ByteArray) (ns : List Nod) (a b : Tr) (hl : ns.length + sz a + sz b ≤ 20000) :
    Aw.Spec Tryd.prog 51 (rdR fl r (ns ++ nds a ns.length ++ nds b (ns ++ nds a ns.length).length)) [.ptr 0 0 0, .agg (nc ⟨6, nE, top ns.length (sz a), top (ns ++ nds a ns.length).length (sz b)⟩)]
      (fun rg v => rg = rdR fl r (ns ++ nds (.orr a b) ns.length) ∧ v = I (top ns.length (sz (.orr a b)))) := by
  have h := s51 fl r (ns ++ nds a ns.length ++ nds b (ns ++ nds a ns.length).length) ⟨6, nE, top ns.length (sz a), top (ns ++ nds a ns.length).length (sz b)⟩ (by simp only [List.length_append, nds_len]; omega)
  refine Aw.Spec.post h ?_
  rintro rg v ⟨rfl, rfl⟩
  have e : (ns ++ nds a ns.length).length = ns.length + sz a := by rw [List.length_append, nds_len]
  refine ⟨by rw [e]; simp [nds], ?_⟩
  rw [List.length_append, nds_len, e, show top ns.length (sz (.orr a b)) = ((ns.length + sz a + sz b : Nat) : Int) by simp [top, sz]; omega]
set_option maxRecDepth 100000 in
set_option maxHeartbeats 4000000 in
theorem and_g (m : Nat) (ih : ∀ ws : List ByteArray, ws.length ≤ m → SpS 56 (SG N8) ws) : ∀ ws : List ByteArray, ws.length ≤ m → SpS 49 (PA N8) ws := by
  intro ws hm fl ns hl hs
  refine Aw.Spec.of k49 rfl fun E hn hnp hp => ?_
  replace hnp : E.np = 2 := hnp
  have pin1 := hp.arr 1 rfl
  unfold a49
  refine AWp.ofD [] [] hn mixed rfl ?_
  simp (config := { maxSteps := 2000000 }) only [go_sem, ↓reduceIte, Int.reduceToNat, Nat.reduceMul, Int.reduceBEq, Int.reduceBNe, Nat.reduceBEq, Nat.reduceAdd, Nat.reduceSub, Nat.reduceLeDiff, Nat.reduceEqDiff, Nat.reduceLT, reduceCtorEq]
  refine AWpL.callA [0, 1] (ih ws hm fl ns hl hs) rfl rfl (by rw [hn]; rfl) rfl (fun r hr => by { rcases List.mem_cons.1 hr with rfl | hr; exact .inl rfl; cases List.mem_singleton.1 hr; exact .inr pin1 }) fun rg v hv => ?_
  rcases hv with ⟨t, r, hR, hsz, hmem, rfl, rfl⟩ | ⟨hR, fl', ws', ns', z, rfl, rfl⟩
  · refine ⟨Nat.le_refl _, AWpL.ofM hn rfl ?_⟩
    simp (config := { maxSteps := 2000000 }) only [go_sem, ↓reduceIte, Int.reduceToNat, Nat.reduceMul, Int.reduceBEq, Int.reduceBNe, Nat.reduceBEq, Nat.reduceAdd, Nat.reduceSub, Nat.reduceLeDiff, Nat.reduceEqDiff, Nat.reduceLT, reduceCtorEq, Aw.retS, Aw.retRg, Aw.kpM, Aw.bkM, Aw.pos, Aw.isBox]
    refine AWp.loop (fun k s => (∃ a r1, r1.length = k ∧ (∀ x, AL N8 a r1 x ↔ PA N8 ws x) ∧ sz a + r1.length ≤ ws.length ∧ (∀ w ∈ r1, w ∈ ws) ∧ Weak E s ⟨[(0, .ptr 0 0 0), (4, I (top ns.length (sz a))), (5, B true)], rdR false r1 (ns ++ nds a ns.length)⟩) ∨
        (∃ fl' ws' ns' z, (∀ x, ¬PA N8 ws x) ∧ Weak E s ⟨[(0, .ptr 0 0 0), (4, I z), (5, B false)], rdR fl' ws' ns'⟩)) (n := r.length)
      (.inl ⟨t, r, rfl, fun x => ⟨fun h => PA.mk hR h, fun h => ?_⟩, hsz, hmem, weak_to [0, 1] hp hnp rfl (by simp (config := { maxSteps := 2000000 }) only [go_sem, ↓reduceIte, Int.reduceToNat, Nat.reduceMul, Int.reduceBEq, Int.reduceBNe, Nat.reduceBEq, Nat.reduceAdd, Nat.reduceSub, Nat.reduceLeDiff, Nat.reduceEqDiff, Nat.reduceLT, reduceCtorEq, Aw.pos]) (by simp (config := { maxSteps := 2000000 }) only [go_sem, ↓reduceIte, Int.reduceToNat, Nat.reduceMul, Int.reduceBEq, Int.reduceBNe, Nat.reduceBEq, Nat.reduceAdd, Nat.reduceSub, Nat.reduceLeDiff, Nat.reduceEqDiff, Nat.reduceLT, reduceCtorEq, Aw.renR, Aw.pos])⟩) ?_
    · obtain ⟨a', r', h1, h2⟩ := PA.get h
      have e := SG.fn hR h1
      injection e with e1 e2
      rw [e1, e2]; exact h2
    rintro k s (⟨a, r1, rfl, hgo, hsz1, hmem1, hw⟩ | ⟨fl', ws', ns', z, hno, hw⟩)
    · refine AWp.weak hw (AWp.ofD [] [] hn mixed rfl ?_)
      simp (config := { maxSteps := 2000000 }) only [go_sem, ↓reduceIte, Int.reduceToNat, Nat.reduceMul, Int.reduceBEq, Int.reduceBNe, Nat.reduceBEq, Nat.reduceAdd, Nat.reduceSub, Nat.reduceLeDiff, Nat.reduceEqDiff, Nat.reduceLT, reduceCtorEq]
      refine AWpL.guardT rfl (AWpL.weak (weak_opt 14 rfl) ?_)
      have hlen : (ns ++ nds a ns.length).length = ns.length + sz a := by rw [List.length_append, nds_len]
      by_cases h1 : ∃ r2, r1 = wAnd :: r2
      · obtain ⟨r2, rfl⟩ := h1
        rw [List.length_cons] at hsz1
        have hs' : ∀ w ∈ r2, w.size ≤ 20000 := fun w hw => hs w (hmem1 w (List.mem_cons_of_mem _ hw))
        refine AWpL.callA [0, 1] (take_yes false r2 (ns ++ nds a ns.length) wAnd (by omega)) rfl rfl (by rw [hn]; rfl) rfl (fun r hr => by { rcases List.mem_cons.1 hr with rfl | hr; exact .inl rfl; cases List.mem_singleton.1 hr; exact .inr pin1 }) fun rg v hv => ?_
        obtain ⟨rfl, rfl⟩ := hv
        refine ⟨Nat.le_refl _, AWpL.ofM hn rfl ?_⟩
        simp (config := { maxSteps := 2000000 }) only [go_sem, ↓reduceIte, Int.reduceToNat, Nat.reduceMul, Int.reduceBEq, Int.reduceBNe, Nat.reduceBEq, Nat.reduceAdd, Nat.reduceSub, Nat.reduceLeDiff, Nat.reduceEqDiff, Nat.reduceLT, reduceCtorEq, Aw.retS, Aw.retRg, Aw.kpM, Aw.bkM, Aw.pos, Aw.isBox]
        refine AWpL.callA [0, 1] (ih r2 (by omega) false (ns ++ nds a ns.length) (by omega) hs') rfl rfl (by rw [hn]; rfl) rfl (fun r hr => by { rcases List.mem_cons.1 hr with rfl | hr; exact .inl rfl; cases List.mem_singleton.1 hr; exact .inr pin1 }) fun rg v hv => ?_
        rcases hv with ⟨b, r3, hR3, hsz3, hmem3, rfl, rfl⟩ | ⟨hR3, fl', ws', ns', z, rfl, rfl⟩
        · refine ⟨Nat.le_refl _, AWpL.ofM hn rfl ?_⟩
          simp (config := { maxSteps := 2000000 }) only [go_sem, ↓reduceIte, Int.reduceToNat, Nat.reduceMul, Int.reduceBEq, Int.reduceBNe, Nat.reduceBEq, Nat.reduceAdd, Nat.reduceSub, Nat.reduceLeDiff, Nat.reduceEqDiff, Nat.reduceLT, reduceCtorEq, Aw.retS, Aw.retRg, Aw.kpM, Aw.bkM, Aw.pos, Aw.isBox]
          refine AWpL.callA [0, 1] (put_an false r3 ns a b (by omega)) rfl rfl (by rw [hn]; rfl) rfl (fun r hr => by { rcases List.mem_cons.1 hr with rfl | hr; exact .inl rfl; cases List.mem_singleton.1 hr; exact .inr pin1 }) fun rg v hv => ?_
          obtain ⟨rfl, rfl⟩ := hv
          refine ⟨Nat.le_refl _, AWpL.ofM hn rfl ?_⟩
          simp (config := { maxSteps := 2000000 }) only [go_sem, ↓reduceIte, Int.reduceToNat, Nat.reduceMul, Int.reduceBEq, Int.reduceBNe, Nat.reduceBEq, Nat.reduceAdd, Nat.reduceSub, Nat.reduceLeDiff, Nat.reduceEqDiff, Nat.reduceLT, reduceCtorEq, Aw.retS, Aw.retRg, Aw.kpM, Aw.bkM, Aw.pos, Aw.isBox]
          refine ⟨r3.length, by omega, .inl ⟨.an a b, r3, rfl, fun x => ⟨fun h => (hgo x).1 (AL.step hR3 h), fun h => ?_⟩, by show sz a + sz b + 1 + r3.length ≤ ws.length; omega, fun w hw => hmem1 w (List.mem_cons_of_mem _ (hmem3 w hw)), weak_to [0, 1] hp hnp rfl (by simp (config := { maxSteps := 2000000 }) only [go_sem, ↓reduceIte, Int.reduceToNat, Nat.reduceMul, Int.reduceBEq, Int.reduceBNe, Nat.reduceBEq, Nat.reduceAdd, Nat.reduceSub, Nat.reduceLeDiff, Nat.reduceEqDiff, Nat.reduceLT, reduceCtorEq, Aw.pos]) (by simp (config := { maxSteps := 2000000 }) only [go_sem, ↓reduceIte, Int.reduceToNat, Nat.reduceMul, Int.reduceBEq, Int.reduceBNe, Nat.reduceBEq, Nat.reduceAdd, Nat.reduceSub, Nat.reduceLeDiff, Nat.reduceEqDiff, Nat.reduceLT, reduceCtorEq, Aw.renR, Aw.pos])⟩⟩
          obtain ⟨b', r', h1, h2⟩ := AL.get ((hgo x).2 h)
          have e := SG.fn hR3 h1
          injection e with e1 e2
          rw [e1, e2]; exact h2
        · refine ⟨Nat.le_refl _, AWpL.ofM hn rfl ?_⟩
          simp (config := { maxSteps := 2000000 }) only [go_sem, ↓reduceIte, Int.reduceToNat, Nat.reduceMul, Int.reduceBEq, Int.reduceBNe, Nat.reduceBEq, Nat.reduceAdd, Nat.reduceSub, Nat.reduceLeDiff, Nat.reduceEqDiff, Nat.reduceLT, reduceCtorEq, Aw.retS, Aw.retRg, Aw.kpM, Aw.bkM, Aw.pos, Aw.isBox]
          refine ⟨0, by omega, .inr ⟨fl', ws', ns', top ns.length (sz a), fun x h => ?_, weak_to [0, 1] hp hnp rfl (by simp (config := { maxSteps := 2000000 }) only [go_sem, ↓reduceIte, Int.reduceToNat, Nat.reduceMul, Int.reduceBEq, Int.reduceBNe, Nat.reduceBEq, Nat.reduceAdd, Nat.reduceSub, Nat.reduceLeDiff, Nat.reduceEqDiff, Nat.reduceLT, reduceCtorEq, Aw.pos]) (by simp (config := { maxSteps := 2000000 }) only [go_sem, ↓reduceIte, Int.reduceToNat, Nat.reduceMul, Int.reduceBEq, Int.reduceBNe, Nat.reduceBEq, Nat.reduceAdd, Nat.reduceSub, Nat.reduceLeDiff, Nat.reduceEqDiff, Nat.reduceLT, reduceCtorEq, Aw.renR, Aw.pos])⟩⟩
          obtain ⟨b', r', h1, h2⟩ := AL.get ((hgo x).2 h)
          exact hR3 _ h1
      · have n1 : ∀ r2, r1 ≠ wAnd :: r2 := fun r2 e => h1 ⟨r2, e⟩
        refine AWpL.callA [0, 1] (take_not false r1 (ns ++ nds a ns.length) wAnd n1 (by omega)) rfl rfl (by rw [hn]; rfl) rfl (fun r hr => by { rcases List.mem_cons.1 hr with rfl | hr; exact .inl rfl; cases List.mem_singleton.1 hr; exact .inr pin1 }) fun rg v hv => ?_
        obtain ⟨rfl, rfl⟩ := hv
        refine ⟨Nat.le_refl _, AWpL.ofM hn rfl ?_⟩
        simp (config := { maxSteps := 2000000 }) only [go_sem, ↓reduceIte, Int.reduceToNat, Nat.reduceMul, Int.reduceBEq, Int.reduceBNe, Nat.reduceBEq, Nat.reduceAdd, Nat.reduceSub, Nat.reduceLeDiff, Nat.reduceEqDiff, Nat.reduceLT, reduceCtorEq, Aw.retS, Aw.retRg, Aw.kpM, Aw.bkM, Aw.pos, Aw.isBox]
        refine Retn.ret (π := [0, 1]) hp hnp ⟨rfl, ?_⟩
        simp (config := { maxSteps := 2000000 }) only [go_sem, ↓reduceIte, Int.reduceToNat, Nat.reduceMul, Int.reduceBEq, Int.reduceBNe, Nat.reduceBEq, Nat.reduceAdd, Nat.reduceSub, Nat.reduceLeDiff, Nat.reduceEqDiff, Nat.reduceLT, reduceCtorEq, Aw.renR, Aw.pos]
        exact .inl ⟨a, r1, (hgo _).1 (AL.stop fun v l e h => n1 l (by rw [e, h])), hsz1, hmem1, rfl, rfl⟩
    · refine AWp.weak hw (AWp.ofD [] [] hn mixed rfl ?_)
      simp (config := { maxSteps := 2000000 }) only [go_sem, ↓reduceIte, Int.reduceToNat, Nat.reduceMul, Int.reduceBEq, Int.reduceBNe, Nat.reduceBEq, Nat.reduceAdd, Nat.reduceSub, Nat.reduceLeDiff, Nat.reduceEqDiff, Nat.reduceLT, reduceCtorEq]
      refine AWpL.skips hn 13 true 1 (by rfl) rfl ?_
      refine AWpL.weak (weak_ent 15 (y := .opt false (B false)) (by rfl) Ent.off) (AWpL.ofM hn rfl ?_)
      simp (config := { maxSteps := 2000000 }) only [go_sem, ↓reduceIte, Int.reduceToNat, Nat.reduceMul, Int.reduceBEq, Int.reduceBNe, Nat.reduceBEq, Nat.reduceAdd, Nat.reduceSub, Nat.reduceLeDiff, Nat.reduceEqDiff, Nat.reduceLT, reduceCtorEq]
      refine Retn.ret (π := [0, 1]) hp hnp ⟨rfl, ?_⟩
      simp (config := { maxSteps := 2000000 }) only [go_sem, ↓reduceIte, Int.reduceToNat, Nat.reduceMul, Int.reduceBEq, Int.reduceBNe, Nat.reduceBEq, Nat.reduceAdd, Nat.reduceSub, Nat.reduceLeDiff, Nat.reduceEqDiff, Nat.reduceLT, reduceCtorEq, Aw.renR, Aw.pos]
      exact .inr ⟨hno, fl', ws', ns', z, rfl, rfl⟩
  · refine ⟨Nat.le_refl _, AWpL.ofM hn rfl ?_⟩
    simp (config := { maxSteps := 2000000 }) only [go_sem, ↓reduceIte, Int.reduceToNat, Nat.reduceMul, Int.reduceBEq, Int.reduceBNe, Nat.reduceBEq, Nat.reduceAdd, Nat.reduceSub, Nat.reduceLeDiff, Nat.reduceEqDiff, Nat.reduceLT, reduceCtorEq, Aw.retS, Aw.retRg, Aw.kpM, Aw.bkM, Aw.pos, Aw.isBox]
    refine AWp.loop (fun k s => k = 0 ∧ Weak E s ⟨[(0, .ptr 0 0 0), (4, I z), (5, B false)], rdR fl' ws' ns'⟩) (n := 0) ⟨rfl, weak_to [0, 1] hp hnp rfl (by simp (config := { maxSteps := 2000000 }) only [go_sem, ↓reduceIte, Int.reduceToNat, Nat.reduceMul, Int.reduceBEq, Int.reduceBNe, Nat.reduceBEq, Nat.reduceAdd, Nat.reduceSub, Nat.reduceLeDiff, Nat.reduceEqDiff, Nat.reduceLT, reduceCtorEq, Aw.pos]) (by simp (config := { maxSteps := 2000000 }) only [go_sem, ↓reduceIte, Int.reduceToNat, Nat.reduceMul, Int.reduceBEq, Int.reduceBNe, Nat.reduceBEq, Nat.reduceAdd, Nat.reduceSub, Nat.reduceLeDiff, Nat.reduceEqDiff, Nat.reduceLT, reduceCtorEq, Aw.renR, Aw.pos])⟩ ?_
    rintro k s ⟨rfl, hw⟩
    refine AWp.weak hw (AWp.ofD [] [] hn mixed rfl ?_)
    simp (config := { maxSteps := 2000000 }) only [go_sem, ↓reduceIte, Int.reduceToNat, Nat.reduceMul, Int.reduceBEq, Int.reduceBNe, Nat.reduceBEq, Nat.reduceAdd, Nat.reduceSub, Nat.reduceLeDiff, Nat.reduceEqDiff, Nat.reduceLT, reduceCtorEq]
    refine AWpL.skips hn 13 true 1 (by rfl) rfl ?_
    refine AWpL.weak (weak_ent 15 (y := .opt false (B false)) (by rfl) Ent.off) (AWpL.ofM hn rfl ?_)
    simp (config := { maxSteps := 2000000 }) only [go_sem, ↓reduceIte, Int.reduceToNat, Nat.reduceMul, Int.reduceBEq, Int.reduceBNe, Nat.reduceBEq, Nat.reduceAdd, Nat.reduceSub, Nat.reduceLeDiff, Nat.reduceEqDiff, Nat.reduceLT, reduceCtorEq]
    refine Retn.ret (π := [0, 1]) hp hnp ⟨rfl, ?_⟩
    simp (config := { maxSteps := 2000000 }) only [go_sem, ↓reduceIte, Int.reduceToNat, Nat.reduceMul, Int.reduceBEq, Int.reduceBNe, Nat.reduceBEq, Nat.reduceAdd, Nat.reduceSub, Nat.reduceLeDiff, Nat.reduceEqDiff, Nat.reduceLT, reduceCtorEq, Aw.renR, Aw.pos]
    exact .inr ⟨fun x h => (PA.get h).elim fun a' h => h.elim fun r' h => hR _ h.1, fl', ws', ns', z, rfl, rfl⟩

set_option maxRecDepth 100000 in
set_option maxHeartbeats 4000000 in
theorem or_g (m : Nat) (ih : ∀ ws : List ByteArray, ws.length ≤ m → SpS 49 (PA N8) ws) : ∀ ws : List ByteArray, ws.length ≤ m → SpS 43 (PO N8) ws := by
  intro ws hm fl ns hl hs
  refine Aw.Spec.of k43 rfl fun E hn hnp hp => ?_
  replace hnp : E.np = 2 := hnp
  have pin1 := hp.arr 1 rfl
  unfold a43
  refine AWp.ofD [] [] hn mixed rfl ?_
  simp (config := { maxSteps := 2000000 }) only [go_sem, ↓reduceIte, Int.reduceToNat, Nat.reduceMul, Int.reduceBEq, Int.reduceBNe, Nat.reduceBEq, Nat.reduceAdd, Nat.reduceSub, Nat.reduceLeDiff, Nat.reduceEqDiff, Nat.reduceLT, reduceCtorEq]
  refine AWpL.callA [0, 1] (ih ws hm fl ns hl hs) rfl rfl (by rw [hn]; rfl) rfl (fun r hr => by { rcases List.mem_cons.1 hr with rfl | hr; exact .inl rfl; cases List.mem_singleton.1 hr; exact .inr pin1 }) fun rg v hv => ?_
  rcases hv with ⟨t, r, hR, hsz, hmem, rfl, rfl⟩ | ⟨hR, fl', ws', ns', z, rfl, rfl⟩
  · refine ⟨Nat.le_refl _, AWpL.ofM hn rfl ?_⟩
    simp (config := { maxSteps := 2000000 }) only [go_sem, ↓reduceIte, Int.reduceToNat, Nat.reduceMul, Int.reduceBEq, Int.reduceBNe, Nat.reduceBEq, Nat.reduceAdd, Nat.reduceSub, Nat.reduceLeDiff, Nat.reduceEqDiff, Nat.reduceLT, reduceCtorEq, Aw.retS, Aw.retRg, Aw.kpM, Aw.bkM, Aw.pos, Aw.isBox]
    refine AWp.loop (fun k s => (∃ a r1, r1.length = k ∧ (∀ x, OL N8 a r1 x ↔ PO N8 ws x) ∧ sz a + r1.length ≤ ws.length ∧ (∀ w ∈ r1, w ∈ ws) ∧ Weak E s ⟨[(0, .ptr 0 0 0), (4, I (top ns.length (sz a))), (5, B true)], rdR false r1 (ns ++ nds a ns.length)⟩) ∨
        (∃ fl' ws' ns' z, (∀ x, ¬PO N8 ws x) ∧ Weak E s ⟨[(0, .ptr 0 0 0), (4, I z), (5, B false)], rdR fl' ws' ns'⟩)) (n := r.length)
      (.inl ⟨t, r, rfl, fun x => ⟨fun h => PO.mk hR h, fun h => ?_⟩, hsz, hmem, weak_to [0, 1] hp hnp rfl (by simp (config := { maxSteps := 2000000 }) only [go_sem, ↓reduceIte, Int.reduceToNat, Nat.reduceMul, Int.reduceBEq, Int.reduceBNe, Nat.reduceBEq, Nat.reduceAdd, Nat.reduceSub, Nat.reduceLeDiff, Nat.reduceEqDiff, Nat.reduceLT, reduceCtorEq, Aw.pos]) (by simp (config := { maxSteps := 2000000 }) only [go_sem, ↓reduceIte, Int.reduceToNat, Nat.reduceMul, Int.reduceBEq, Int.reduceBNe, Nat.reduceBEq, Nat.reduceAdd, Nat.reduceSub, Nat.reduceLeDiff, Nat.reduceEqDiff, Nat.reduceLT, reduceCtorEq, Aw.renR, Aw.pos])⟩) ?_
    · obtain ⟨a', r', h1, h2⟩ := PO.get h
      have e := PA.fn hR h1
      injection e with e1 e2
      rw [e1, e2]; exact h2
    rintro k s (⟨a, r1, rfl, hgo, hsz1, hmem1, hw⟩ | ⟨fl', ws', ns', z, hno, hw⟩)
    · refine AWp.weak hw (AWp.ofD [] [] hn mixed rfl ?_)
      simp (config := { maxSteps := 2000000 }) only [go_sem, ↓reduceIte, Int.reduceToNat, Nat.reduceMul, Int.reduceBEq, Int.reduceBNe, Nat.reduceBEq, Nat.reduceAdd, Nat.reduceSub, Nat.reduceLeDiff, Nat.reduceEqDiff, Nat.reduceLT, reduceCtorEq]
      refine AWpL.guardT rfl (AWpL.weak (weak_opt 14 rfl) ?_)
      have hlen : (ns ++ nds a ns.length).length = ns.length + sz a := by rw [List.length_append, nds_len]
      by_cases h1 : ∃ r2, r1 = wOr :: r2
      · obtain ⟨r2, rfl⟩ := h1
        rw [List.length_cons] at hsz1
        have hs' : ∀ w ∈ r2, w.size ≤ 20000 := fun w hw => hs w (hmem1 w (List.mem_cons_of_mem _ hw))
        refine AWpL.callA [0, 1] (take_yes false r2 (ns ++ nds a ns.length) wOr (by omega)) rfl rfl (by rw [hn]; rfl) rfl (fun r hr => by { rcases List.mem_cons.1 hr with rfl | hr; exact .inl rfl; cases List.mem_singleton.1 hr; exact .inr pin1 }) fun rg v hv => ?_
        obtain ⟨rfl, rfl⟩ := hv
        refine ⟨Nat.le_refl _, AWpL.ofM hn rfl ?_⟩
        simp (config := { maxSteps := 2000000 }) only [go_sem, ↓reduceIte, Int.reduceToNat, Nat.reduceMul, Int.reduceBEq, Int.reduceBNe, Nat.reduceBEq, Nat.reduceAdd, Nat.reduceSub, Nat.reduceLeDiff, Nat.reduceEqDiff, Nat.reduceLT, reduceCtorEq, Aw.retS, Aw.retRg, Aw.kpM, Aw.bkM, Aw.pos, Aw.isBox]
        refine AWpL.callA [0, 1] (ih r2 (by omega) false (ns ++ nds a ns.length) (by omega) hs') rfl rfl (by rw [hn]; rfl) rfl (fun r hr => by { rcases List.mem_cons.1 hr with rfl | hr; exact .inl rfl; cases List.mem_singleton.1 hr; exact .inr pin1 }) fun rg v hv => ?_
        rcases hv with ⟨b, r3, hR3, hsz3, hmem3, rfl, rfl⟩ | ⟨hR3, fl', ws', ns', z, rfl, rfl⟩
        · refine ⟨Nat.le_refl _, AWpL.ofM hn rfl ?_⟩
          simp (config := { maxSteps := 2000000 }) only [go_sem, ↓reduceIte, Int.reduceToNat, Nat.reduceMul, Int.reduceBEq, Int.reduceBNe, Nat.reduceBEq, Nat.reduceAdd, Nat.reduceSub, Nat.reduceLeDiff, Nat.reduceEqDiff, Nat.reduceLT, reduceCtorEq, Aw.retS, Aw.retRg, Aw.kpM, Aw.bkM, Aw.pos, Aw.isBox]
          refine AWpL.callA [0, 1] (put_or false r3 ns a b (by omega)) rfl rfl (by rw [hn]; rfl) rfl (fun r hr => by { rcases List.mem_cons.1 hr with rfl | hr; exact .inl rfl; cases List.mem_singleton.1 hr; exact .inr pin1 }) fun rg v hv => ?_
          obtain ⟨rfl, rfl⟩ := hv
          refine ⟨Nat.le_refl _, AWpL.ofM hn rfl ?_⟩
          simp (config := { maxSteps := 2000000 }) only [go_sem, ↓reduceIte, Int.reduceToNat, Nat.reduceMul, Int.reduceBEq, Int.reduceBNe, Nat.reduceBEq, Nat.reduceAdd, Nat.reduceSub, Nat.reduceLeDiff, Nat.reduceEqDiff, Nat.reduceLT, reduceCtorEq, Aw.retS, Aw.retRg, Aw.kpM, Aw.bkM, Aw.pos, Aw.isBox]
          refine ⟨r3.length, by omega, .inl ⟨.orr a b, r3, rfl, fun x => ⟨fun h => (hgo x).1 (OL.step hR3 h), fun h => ?_⟩, by show sz a + sz b + 1 + r3.length ≤ ws.length; omega, fun w hw => hmem1 w (List.mem_cons_of_mem _ (hmem3 w hw)), weak_to [0, 1] hp hnp rfl (by simp (config := { maxSteps := 2000000 }) only [go_sem, ↓reduceIte, Int.reduceToNat, Nat.reduceMul, Int.reduceBEq, Int.reduceBNe, Nat.reduceBEq, Nat.reduceAdd, Nat.reduceSub, Nat.reduceLeDiff, Nat.reduceEqDiff, Nat.reduceLT, reduceCtorEq, Aw.pos]) (by simp (config := { maxSteps := 2000000 }) only [go_sem, ↓reduceIte, Int.reduceToNat, Nat.reduceMul, Int.reduceBEq, Int.reduceBNe, Nat.reduceBEq, Nat.reduceAdd, Nat.reduceSub, Nat.reduceLeDiff, Nat.reduceEqDiff, Nat.reduceLT, reduceCtorEq, Aw.renR, Aw.pos])⟩⟩
          obtain ⟨b', r', h1, h2⟩ := OL.get ((hgo x).2 h)
          have e := PA.fn hR3 h1
          injection e with e1 e2
          rw [e1, e2]; exact h2
        · refine ⟨Nat.le_refl _, AWpL.ofM hn rfl ?_⟩
          simp (config := { maxSteps := 2000000 }) only [go_sem, ↓reduceIte, Int.reduceToNat, Nat.reduceMul, Int.reduceBEq, Int.reduceBNe, Nat.reduceBEq, Nat.reduceAdd, Nat.reduceSub, Nat.reduceLeDiff, Nat.reduceEqDiff, Nat.reduceLT, reduceCtorEq, Aw.retS, Aw.retRg, Aw.kpM, Aw.bkM, Aw.pos, Aw.isBox]
          refine ⟨0, by omega, .inr ⟨fl', ws', ns', top ns.length (sz a), fun x h => ?_, weak_to [0, 1] hp hnp rfl (by simp (config := { maxSteps := 2000000 }) only [go_sem, ↓reduceIte, Int.reduceToNat, Nat.reduceMul, Int.reduceBEq, Int.reduceBNe, Nat.reduceBEq, Nat.reduceAdd, Nat.reduceSub, Nat.reduceLeDiff, Nat.reduceEqDiff, Nat.reduceLT, reduceCtorEq, Aw.pos]) (by simp (config := { maxSteps := 2000000 }) only [go_sem, ↓reduceIte, Int.reduceToNat, Nat.reduceMul, Int.reduceBEq, Int.reduceBNe, Nat.reduceBEq, Nat.reduceAdd, Nat.reduceSub, Nat.reduceLeDiff, Nat.reduceEqDiff, Nat.reduceLT, reduceCtorEq, Aw.renR, Aw.pos])⟩⟩
          obtain ⟨b', r', h1, h2⟩ := OL.get ((hgo x).2 h)
          exact hR3 _ h1
      · have n1 : ∀ r2, r1 ≠ wOr :: r2 := fun r2 e => h1 ⟨r2, e⟩
        refine AWpL.callA [0, 1] (take_not false r1 (ns ++ nds a ns.length) wOr n1 (by omega)) rfl rfl (by rw [hn]; rfl) rfl (fun r hr => by { rcases List.mem_cons.1 hr with rfl | hr; exact .inl rfl; cases List.mem_singleton.1 hr; exact .inr pin1 }) fun rg v hv => ?_
        obtain ⟨rfl, rfl⟩ := hv
        refine ⟨Nat.le_refl _, AWpL.ofM hn rfl ?_⟩
        simp (config := { maxSteps := 2000000 }) only [go_sem, ↓reduceIte, Int.reduceToNat, Nat.reduceMul, Int.reduceBEq, Int.reduceBNe, Nat.reduceBEq, Nat.reduceAdd, Nat.reduceSub, Nat.reduceLeDiff, Nat.reduceEqDiff, Nat.reduceLT, reduceCtorEq, Aw.retS, Aw.retRg, Aw.kpM, Aw.bkM, Aw.pos, Aw.isBox]
        refine Retn.ret (π := [0, 1]) hp hnp ⟨rfl, ?_⟩
        simp (config := { maxSteps := 2000000 }) only [go_sem, ↓reduceIte, Int.reduceToNat, Nat.reduceMul, Int.reduceBEq, Int.reduceBNe, Nat.reduceBEq, Nat.reduceAdd, Nat.reduceSub, Nat.reduceLeDiff, Nat.reduceEqDiff, Nat.reduceLT, reduceCtorEq, Aw.renR, Aw.pos]
        exact .inl ⟨a, r1, (hgo _).1 (OL.stop fun v l e h => n1 l (by rw [e, h])), hsz1, hmem1, rfl, rfl⟩
    · refine AWp.weak hw (AWp.ofD [] [] hn mixed rfl ?_)
      simp (config := { maxSteps := 2000000 }) only [go_sem, ↓reduceIte, Int.reduceToNat, Nat.reduceMul, Int.reduceBEq, Int.reduceBNe, Nat.reduceBEq, Nat.reduceAdd, Nat.reduceSub, Nat.reduceLeDiff, Nat.reduceEqDiff, Nat.reduceLT, reduceCtorEq]
      refine AWpL.skips hn 13 true 1 (by rfl) rfl ?_
      refine AWpL.weak (weak_ent 15 (y := .opt false (B false)) (by rfl) Ent.off) (AWpL.ofM hn rfl ?_)
      simp (config := { maxSteps := 2000000 }) only [go_sem, ↓reduceIte, Int.reduceToNat, Nat.reduceMul, Int.reduceBEq, Int.reduceBNe, Nat.reduceBEq, Nat.reduceAdd, Nat.reduceSub, Nat.reduceLeDiff, Nat.reduceEqDiff, Nat.reduceLT, reduceCtorEq]
      refine Retn.ret (π := [0, 1]) hp hnp ⟨rfl, ?_⟩
      simp (config := { maxSteps := 2000000 }) only [go_sem, ↓reduceIte, Int.reduceToNat, Nat.reduceMul, Int.reduceBEq, Int.reduceBNe, Nat.reduceBEq, Nat.reduceAdd, Nat.reduceSub, Nat.reduceLeDiff, Nat.reduceEqDiff, Nat.reduceLT, reduceCtorEq, Aw.renR, Aw.pos]
      exact .inr ⟨hno, fl', ws', ns', z, rfl, rfl⟩
  · refine ⟨Nat.le_refl _, AWpL.ofM hn rfl ?_⟩
    simp (config := { maxSteps := 2000000 }) only [go_sem, ↓reduceIte, Int.reduceToNat, Nat.reduceMul, Int.reduceBEq, Int.reduceBNe, Nat.reduceBEq, Nat.reduceAdd, Nat.reduceSub, Nat.reduceLeDiff, Nat.reduceEqDiff, Nat.reduceLT, reduceCtorEq, Aw.retS, Aw.retRg, Aw.kpM, Aw.bkM, Aw.pos, Aw.isBox]
    refine AWp.loop (fun k s => k = 0 ∧ Weak E s ⟨[(0, .ptr 0 0 0), (4, I z), (5, B false)], rdR fl' ws' ns'⟩) (n := 0) ⟨rfl, weak_to [0, 1] hp hnp rfl (by simp (config := { maxSteps := 2000000 }) only [go_sem, ↓reduceIte, Int.reduceToNat, Nat.reduceMul, Int.reduceBEq, Int.reduceBNe, Nat.reduceBEq, Nat.reduceAdd, Nat.reduceSub, Nat.reduceLeDiff, Nat.reduceEqDiff, Nat.reduceLT, reduceCtorEq, Aw.pos]) (by simp (config := { maxSteps := 2000000 }) only [go_sem, ↓reduceIte, Int.reduceToNat, Nat.reduceMul, Int.reduceBEq, Int.reduceBNe, Nat.reduceBEq, Nat.reduceAdd, Nat.reduceSub, Nat.reduceLeDiff, Nat.reduceEqDiff, Nat.reduceLT, reduceCtorEq, Aw.renR, Aw.pos])⟩ ?_
    rintro k s ⟨rfl, hw⟩
    refine AWp.weak hw (AWp.ofD [] [] hn mixed rfl ?_)
    simp (config := { maxSteps := 2000000 }) only [go_sem, ↓reduceIte, Int.reduceToNat, Nat.reduceMul, Int.reduceBEq, Int.reduceBNe, Nat.reduceBEq, Nat.reduceAdd, Nat.reduceSub, Nat.reduceLeDiff, Nat.reduceEqDiff, Nat.reduceLT, reduceCtorEq]
    refine AWpL.skips hn 13 true 1 (by rfl) rfl ?_
    refine AWpL.weak (weak_ent 15 (y := .opt false (B false)) (by rfl) Ent.off) (AWpL.ofM hn rfl ?_)
    simp (config := { maxSteps := 2000000 }) only [go_sem, ↓reduceIte, Int.reduceToNat, Nat.reduceMul, Int.reduceBEq, Int.reduceBNe, Nat.reduceBEq, Nat.reduceAdd, Nat.reduceSub, Nat.reduceLeDiff, Nat.reduceEqDiff, Nat.reduceLT, reduceCtorEq]
    refine Retn.ret (π := [0, 1]) hp hnp ⟨rfl, ?_⟩
    simp (config := { maxSteps := 2000000 }) only [go_sem, ↓reduceIte, Int.reduceToNat, Nat.reduceMul, Int.reduceBEq, Int.reduceBNe, Nat.reduceBEq, Nat.reduceAdd, Nat.reduceSub, Nat.reduceLeDiff, Nat.reduceEqDiff, Nat.reduceLT, reduceCtorEq, Aw.renR, Aw.pos]
    exact .inr ⟨fun x h => (PO.get h).elim fun a' h => h.elim fun r' h => hR _ h.1, fl', ws', ns', z, rfl, rfl⟩

theorem all_g : ∀ m : Nat, (∀ ws : List ByteArray, ws.length ≤ m → SpS 56 (SG N8) ws) ∧ (∀ ws : List ByteArray, ws.length ≤ m → SpS 43 (PO N8) ws)
  | 0 => have h := single_g 0 (fun _ h => absurd h (Nat.not_lt_zero _)) (fun _ h => absurd h (Nat.not_lt_zero _)); ⟨h, or_g 0 (and_g 0 h)⟩
  | m + 1 => have ⟨i1, i2⟩ := all_g m; have h := single_g (m + 1) (fun ws h => i1 ws (Nat.le_of_lt_succ h)) (fun ws h => i2 ws (Nat.le_of_lt_succ h)); ⟨h, or_g (m + 1) (and_g (m + 1) h)⟩
/-- A condition is read. -/
theorem or_all (ws : List ByteArray) : SpS 43 (PO N8) ws := (all_g ws.length).2 ws (Nat.le_refl _)
end Go.Proofs.YtocghkacngoblaaDoor
