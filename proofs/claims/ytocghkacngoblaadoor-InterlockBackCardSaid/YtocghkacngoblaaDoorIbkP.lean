/- Interlocks: conditions printed and parsed, plain. -/
import Derived.Test.YtocghkacngoblaaDoorIbkT
set_option linter.unusedVariables false
set_option linter.unusedSimpArgs false
namespace Go.Proofs.YtocghkacngoblaaDoor.Ibk
open Go.Proofs.YtocghkacngoblaaDoor.Aw
attribute [local go_sem] Int.natCast_zero Int.natCast_one bne_self_eq_false beq_self_eq_true Bool.not_true Bool.not_false Option.isSome_none Option.isSome_some Aw.bkM_nil Option.getD_some Option.getD_none Nat.sub_zero Int.toNat_zero Aw.frzS Aw.frzT Aw.frzA Aw.frzL Aw.frzR Aw.frzO Aw.frzOL Aw.frzOT Aw.frzOR Aw.killS Aw.mapT Aw.mapR Aw.killM Aw.resAVs Aw.resAV Aw.quietOps Aw.wpP Aw.wpT Aw.wpS Aw.AOp.mild List.getElem?_cons_zero List.getElem?_cons_succ Bool.and_false Bool.and_self Bool.false_and Aw.opOb Aw.gdB Aw.Rnd Aw.subTm List.length_map Int.toNat_natCast and_self Aw.SeqC Aw.stops Aw.Ends Aw.looks Aw.renA Aw.renL Aw.renT Aw.renS Aw.wpO Aw.aop Aw.putTm Aw.St.ev Aw.St.put Aw.St.putO Aw.binAV Aw.intBin Aw.strBin Aw.pickAV Aw.optInt Aw.AV.strip Aw.AV.guard Aw.AV.cells Aw.gdOb Aw.AOp.opds Aw.AOp.still Aw.ptrCells Aw.St.reg Aw.fillAV Aw.fillOb Aw.elsOb Aw.splice Aw.firm Aw.cellish Aw.AV.shut Aw.shutAll Aw.Seq Aw.Blk Aw.retS_nil Aw.mapA Aw.mapL Aw.borA Aw.borOb Aw.allOb Aw.tupOf Aw.params Aw.Opd.of Array.toList Value.cells List.map_cons List.map_nil List.getD_cons_zero List.getD_cons_succ List.getD_nil List.length_cons List.length_nil List.take_succ_cons List.take_zero List.take_nil List.drop_zero List.drop_succ_cons List.drop_nil List.set_cons_zero List.set_cons_succ List.append_nil List.nil_append List.cons_append List.all_cons List.all_nil cond_false cond_true if_true if_false true_and and_true Bool.and_true Bool.true_and Option.map_some Option.map_none false_implies forall_const implies_true forall_eq imp_self Bool.cond_false_right Bool.cond_true_left beq_true beq_false Bool.not_eq_true' Bool.false_eq_true Nat.zero_add Nat.add_zero Aw.eqCells Aw.stopDraw Aw.skipS Aw.exactCap Aw.revealS Aw.srcEls Aw.srcSz
attribute [local go_sem ↓] Aw.look_nil Aw.look_ite Aw.wpL_nil Aw.wpL_op Aw.wpL_gd Aw.wpQ_nil Aw.wpQ_op Aw.wpQ_gd Aw.wpC_draw Aw.wpC_reg Aw.wpC_skip Aw.wpC_ret Aw.wpC_exit Aw.wpC_seq Aw.wpC_block Aw.wpC_loop Aw.wpC_cond Aw.stopAt_nil Aw.stopAt_cons Aw.wpD_skip Aw.wpD_ret Aw.wpD_exit Aw.wpD_region Aw.wpD_draw Aw.wpM_nil Aw.wpM_op Aw.wpM_gd Aw.wpD_seq Aw.wpD_block Aw.wpD_loop Aw.wpD_cond
abbrev W := ByteArray
inductive Tr
  | alw | nev
  | opn (s : W) | clo (s : W)
  | no (t : Tr)
  | an (a b : Tr)
  | orr (a b : Tr)
def wAlw : W := ⟨#[97, 108, 119, 97, 121, 115]⟩
def wNev : W := ⟨#[110, 101, 118, 101, 114]⟩
def wNot : W := ⟨#[110, 111, 116]⟩
def wLp : W := ⟨#[40]⟩
def wRp : W := ⟨#[41]⟩
def wOpn : W := ⟨#[111, 112, 101, 110]⟩
def wClo : W := ⟨#[99, 108, 111, 115, 101, 100]⟩
def wAnd : W := ⟨#[97, 110, 100]⟩
def wOr : W := ⟨#[111, 114]⟩
def lev : Tr → Nat
  | .orr _ _ => 0
  | .an _ _ => 1
  | _ => 2
def par (b : Bool) (l : List W) : List W := if b = true then wLp :: (l ++ [wRp]) else l
/-- The words of a condition. -/
def toks : Tr → Nat → List W
  | .alw, _ => [wAlw]
  | .nev, _ => [wNev]
  | .opn s, _ => [wOpn, s]
  | .clo s, _ => [wClo, s]
  | .no t, _ => wNot :: toks t 2
  | .an a b, k => par (decide (1 < k)) (toks a 1 ++ wAnd :: toks b 2)
  | .orr a b, k => par (decide (0 < k)) (toks a 0 ++ wOr :: toks b 1)
section
variable (nm : W → Bool)
mutual
/-- A simple condition; n: how deep. -/
def sg : Nat → List W → Option (Tr × List W)
  | 0, _ => none
  | n + 1, [] => none
  | n + 1, w :: r =>
    if w = wAlw then some (.alw, r)
    else if w = wNev then some (.nev, r)
    else if w = wNot then (sg n r).map fun x => (.no x.1, x.2)
    else if w = wLp then (po n r).bind fun x => match x.2 with
      | w' :: r' => if w' = wRp then some (x.1, r') else none
      | [] => none
    else if w = wOpn ∨ w = wClo then match r with
      | y :: r' => if nm y = true then some (if w = wClo then .clo y else .opn y, r') else none
      | [] => none
    else none
def pa : Nat → List W → Option (Tr × List W)
  | 0, _ => none
  | n + 1, ws => (sg n ws).bind fun x => al n x.1 x.2
def al : Nat → Tr → List W → Option (Tr × List W)
  | 0, _, _ => none
  | n + 1, a, [] => some (a, [])
  | n + 1, a, w :: r => if w = wAnd then (sg n r).bind fun x => al n (.an a x.1) x.2 else some (a, w :: r)
def po : Nat → List W → Option (Tr × List W)
  | 0, _ => none
  | n + 1, ws => (pa n ws).bind fun x => ol n x.1 x.2
def ol : Nat → Tr → List W → Option (Tr × List W)
  | 0, _, _ => none
  | n + 1, a, [] => some (a, [])
  | n + 1, a, w :: r => if w = wOr then (pa n r).bind fun x => ol n (.orr a x.1) x.2 else some (a, w :: r)
end
theorem sg_nil (n : Nat) : sg nm (n + 1) [] = none := rfl
theorem sg_cons (n : Nat) (w : W) (r : List W) : sg nm (n + 1) (w :: r) = if w = wAlw then some (.alw, r)
    else if w = wNev then some (.nev, r)
    else if w = wNot then (sg nm n r).map fun x => (.no x.1, x.2)
    else if w = wLp then (po nm n r).bind fun x => match x.2 with
      | w' :: r' => if w' = wRp then some (x.1, r') else none
      | [] => none
    else if w = wOpn ∨ w = wClo then match r with
      | y :: r' => if nm y = true then some (if w = wClo then .clo y else .opn y, r') else none
      | [] => none
    else none := rfl
theorem pa_step (n : Nat) (ws : List W) : pa nm (n + 1) ws = (sg nm n ws).bind fun x => al nm n x.1 x.2 := rfl
theorem al_nil (n : Nat) (a : Tr) : al nm (n + 1) a [] = some (a, []) := rfl
theorem al_cons (n : Nat) (a : Tr) (w : W) (r : List W) : al nm (n + 1) a (w :: r) = if w = wAnd then (sg nm n r).bind fun x => al nm n (.an a x.1) x.2 else some (a, w :: r) := rfl
theorem po_step (n : Nat) (ws : List W) : po nm (n + 1) ws = (pa nm n ws).bind fun x => ol nm n x.1 x.2 := rfl
theorem ol_nil (n : Nat) (a : Tr) : ol nm (n + 1) a [] = some (a, []) := rfl
theorem ol_cons (n : Nat) (a : Tr) (w : W) (r : List W) : ol nm (n + 1) a (w :: r) = if w = wOr then (pa nm n r).bind fun x => ol nm n (.orr a x.1) x.2 else some (a, w :: r) := rfl
/-- With more depth the same. -/
theorem mono : ∀ n, (∀ ws r, sg nm n ws = some r → sg nm (n + 1) ws = some r) ∧ (∀ ws r, pa nm n ws = some r → pa nm (n + 1) ws = some r) ∧ (∀ a ws r, al nm n a ws = some r → al nm (n + 1) a ws = some r) ∧
    (∀ ws r, po nm n ws = some r → po nm (n + 1) ws = some r) ∧ (∀ a ws r, ol nm n a ws = some r → ol nm (n + 1) a ws = some r)
  | 0 => ⟨fun ws r h => by simp [sg] at h, fun ws r h => by simp [pa] at h, fun a ws r h => by simp [al] at h, fun ws r h => by simp [po] at h, fun a ws r h => by simp [ol] at h⟩
  | n + 1 => by
    obtain ⟨h1, h2, h3, h4, h5⟩ := mono n
    refine ⟨fun ws r h => ?_, fun ws r h => ?_, fun a ws r h => ?_, fun ws r h => ?_, fun a ws r h => ?_⟩
    · cases ws with
      | nil => rw [sg_nil] at h; cases h
      | cons w l =>
        rw [sg_cons] at h ⊢
        split at h
        · rename_i e; rw [if_pos e]; exact h
        rename_i e1; rw [if_neg e1]
        split at h
        · rename_i e; rw [if_pos e]; exact h
        rename_i e2; rw [if_neg e2]
        split at h
        · rename_i e; rw [if_pos e]
          rw [Option.map_eq_some_iff] at h ⊢
          obtain ⟨x, hx, hr⟩ := h
          exact ⟨x, h1 _ _ hx, hr⟩
        rename_i e3; rw [if_neg e3]
        split at h
        · rename_i e; rw [if_pos e]
          rw [Option.bind_eq_some_iff] at h ⊢
          obtain ⟨x, hx, hr⟩ := h
          exact ⟨x, h4 _ _ hx, hr⟩
        rename_i e4; rw [if_neg e4]
        exact h
    · rw [pa_step, Option.bind_eq_some_iff] at h ⊢
      obtain ⟨x, hx, hr⟩ := h
      exact ⟨x, h1 _ _ hx, h3 _ _ _ hr⟩
    · cases ws with
      | nil => rw [al_nil] at h ⊢; exact h
      | cons w l =>
        rw [al_cons] at h ⊢
        split at h
        · rename_i e; rw [if_pos e]
          rw [Option.bind_eq_some_iff] at h ⊢
          obtain ⟨x, hx, hr⟩ := h
          exact ⟨x, h1 _ _ hx, h3 _ _ _ hr⟩
        · rename_i e; rw [if_neg e]; exact h
    · rw [po_step, Option.bind_eq_some_iff] at h ⊢
      obtain ⟨x, hx, hr⟩ := h
      exact ⟨x, h2 _ _ hx, h5 _ _ _ hr⟩
    · cases ws with
      | nil => rw [ol_nil] at h ⊢; exact h
      | cons w l =>
        rw [ol_cons] at h ⊢
        split at h
        · rename_i e; rw [if_pos e]
          rw [Option.bind_eq_some_iff] at h ⊢
          obtain ⟨x, hx, hr⟩ := h
          exact ⟨x, h2 _ _ hx, h5 _ _ _ hr⟩
        · rename_i e; rw [if_neg e]; exact h
theorem more {n m : Nat} (h : n ≤ m) : (∀ ws r, sg nm n ws = some r → sg nm m ws = some r) ∧ (∀ ws r, pa nm n ws = some r → pa nm m ws = some r) ∧ (∀ a ws r, al nm n a ws = some r → al nm m a ws = some r) ∧
    (∀ ws r, po nm n ws = some r → po nm m ws = some r) ∧ (∀ a ws r, ol nm n a ws = some r → ol nm m a ws = some r) := by
  induction h with
  | refl => exact ⟨fun _ _ h => h, fun _ _ h => h, fun _ _ _ h => h, fun _ _ h => h, fun _ _ _ h => h⟩
  | @step k _ ih =>
    obtain ⟨h1, h2, h3, h4, h5⟩ := ih
    obtain ⟨k1, k2, k3, k4, k5⟩ := mono nm k
    exact ⟨fun ws r h => k1 _ _ (h1 _ _ h), fun ws r h => k2 _ _ (h2 _ _ h), fun a ws r h => k3 _ _ _ (h3 _ _ _ h), fun ws r h => k4 _ _ (h4 _ _ h), fun a ws r h => k5 _ _ _ (h5 _ _ _ h)⟩
def SG (ws : List W) (x : Tr × List W) : Prop := ∃ n, sg nm n ws = some x
def PA (ws : List W) (x : Tr × List W) : Prop := ∃ n, pa nm n ws = some x
def AL (a : Tr) (ws : List W) (x : Tr × List W) : Prop := ∃ n, al nm n a ws = some x
def PO (ws : List W) (x : Tr × List W) : Prop := ∃ n, po nm n ws = some x
def OL (a : Tr) (ws : List W) (x : Tr × List W) : Prop := ∃ n, ol nm n a ws = some x
variable {nm}
theorem PA.mk {ws : List W} {a : Tr} {r : List W} {x} (h1 : SG nm ws (a, r)) (h2 : AL nm a r x) : PA nm ws x := by
  obtain ⟨n, h1⟩ := h1
  obtain ⟨m, h2⟩ := h2
  refine ⟨max n m + 1, ?_⟩
  rw [pa_step, (more nm (Nat.le_max_left n m)).1 _ _ h1]
  exact (more nm (Nat.le_max_right n m)).2.2.1 _ _ _ h2
theorem PO.mk {ws : List W} {a : Tr} {r : List W} {x} (h1 : PA nm ws (a, r)) (h2 : OL nm a r x) : PO nm ws x := by
  obtain ⟨n, h1⟩ := h1
  obtain ⟨m, h2⟩ := h2
  refine ⟨max n m + 1, ?_⟩
  rw [po_step, (more nm (Nat.le_max_left n m)).2.1 _ _ h1]
  exact (more nm (Nat.le_max_right n m)).2.2.2.2 _ _ _ h2
/-- The next word is not this one. -/
def Not (w : W) (ws : List W) : Prop := ∀ v l, ws = v :: l → v ≠ w
theorem AL.stop {a : Tr} {ws : List W} (h : Not wAnd ws) : AL nm a ws (a, ws) := by
  refine ⟨1, ?_⟩
  cases ws with
  | nil => rfl
  | cons v l => rw [al_cons, if_neg (h v l rfl)]
theorem OL.stop {a : Tr} {ws : List W} (h : Not wOr ws) : OL nm a ws (a, ws) := by
  refine ⟨1, ?_⟩
  cases ws with
  | nil => rfl
  | cons v l => rw [ol_cons, if_neg (h v l rfl)]
theorem AL.step {a b : Tr} {r r' : List W} {x} (h1 : SG nm r (b, r')) (h2 : AL nm (.an a b) r' x) : AL nm a (wAnd :: r) x := by
  obtain ⟨n, h1⟩ := h1
  obtain ⟨m, h2⟩ := h2
  refine ⟨max n m + 1, ?_⟩
  rw [al_cons, if_pos rfl, (more nm (Nat.le_max_left n m)).1 _ _ h1]
  exact (more nm (Nat.le_max_right n m)).2.2.1 _ _ _ h2
theorem OL.step {a b : Tr} {r r' : List W} {x} (h1 : PA nm r (b, r')) (h2 : OL nm (.orr a b) r' x) : OL nm a (wOr :: r) x := by
  obtain ⟨n, h1⟩ := h1
  obtain ⟨m, h2⟩ := h2
  refine ⟨max n m + 1, ?_⟩
  rw [ol_cons, if_pos rfl, (more nm (Nat.le_max_left n m)).2.1 _ _ h1]
  exact (more nm (Nat.le_max_right n m)).2.2.2.2 _ _ _ h2
theorem SG.not {t : Tr} {ws r : List W} (h : SG nm ws (t, r)) : SG nm (wNot :: ws) (.no t, r) := by
  obtain ⟨n, h⟩ := h
  refine ⟨n + 1, ?_⟩
  rw [sg_cons, if_neg (by decide +kernel), if_neg (by decide +kernel), if_pos rfl, h]; rfl
theorem SG.par {t : Tr} {ws r : List W} (h : PO nm ws (t, wRp :: r)) : SG nm (wLp :: ws) (t, r) := by
  obtain ⟨n, h⟩ := h
  refine ⟨n + 1, ?_⟩
  rw [sg_cons, if_neg (by decide +kernel), if_neg (by decide +kernel), if_neg (by decide +kernel), if_pos rfl, h]
  show (if wRp = wRp then some (t, r) else none) = _
  rw [if_pos rfl]
theorem SG.opn {y : W} {r : List W} (h : nm y = true) : SG nm (wOpn :: y :: r) (.opn y, r) := by
  refine ⟨1, ?_⟩
  rw [sg_cons, if_neg (by decide +kernel), if_neg (by decide +kernel), if_neg (by decide +kernel), if_neg (by decide +kernel), if_pos (.inl rfl)]
  show (if nm y = true then some (if wOpn = wClo then Tr.clo y else Tr.opn y, r) else none) = _
  rw [if_pos h, if_neg (by decide +kernel)]
theorem SG.clo {y : W} {r : List W} (h : nm y = true) : SG nm (wClo :: y :: r) (.clo y, r) := by
  refine ⟨1, ?_⟩
  rw [sg_cons, if_neg (by decide +kernel), if_neg (by decide +kernel), if_neg (by decide +kernel), if_neg (by decide +kernel), if_pos (.inr rfl)]
  show (if nm y = true then some (if wClo = wClo then Tr.clo y else Tr.opn y, r) else none) = _
  rw [if_pos h, if_pos rfl]
variable (nm) in
def Val : Tr → Prop
  | .opn s => nm s = true
  | .clo s => nm s = true
  | .no t => Val t
  | .an a b => Val a ∧ Val b
  | .orr a b => Val a ∧ Val b
  | _ => True
theorem not_cons {v w : W} {l : List W} (h : v ≠ w) : Not w (v :: l) := fun v' l' he => by
  injection he with h1 h2
  rw [← h1]; exact h
/-- What is printed is read back. -/
theorem back : ∀ (t : Tr), Val nm t → (∀ rest, SG nm (toks t 2 ++ rest) (t, rest)) ∧ (∀ rest x, AL nm t rest x → PA nm (toks t 1 ++ rest) x) ∧ (∀ rest x, Not wAnd rest → OL nm t rest x → PO nm (toks t 0 ++ rest) x) := by
  have leaf : ∀ t : Tr, toks t 1 = toks t 2 → toks t 0 = toks t 2 → (∀ rest, SG nm (toks t 2 ++ rest) (t, rest)) → (∀ rest, SG nm (toks t 2 ++ rest) (t, rest)) ∧ (∀ rest x, AL nm t rest x → PA nm (toks t 1 ++ rest) x) ∧ (∀ rest x, Not wAnd rest → OL nm t rest x → PO nm (toks t 0 ++ rest) x) := fun t e1 e2 h =>
    ⟨h, fun rest x hx => by rw [e1]; exact PA.mk (h rest) hx, fun rest x hn hx => by rw [e2]; exact PO.mk (PA.mk (h rest) (AL.stop hn)) hx⟩
  intro t
  induction t with
  | alw => intro _; exact leaf _ rfl rfl fun rest => ⟨1, rfl⟩
  | nev => intro _; exact leaf _ rfl rfl fun rest => ⟨1, by rw [show toks .nev 2 ++ rest = wNev :: rest from rfl, sg_cons, if_neg (by decide +kernel), if_pos rfl]⟩
  | opn s => intro h; exact leaf _ rfl rfl fun rest => SG.opn h
  | clo s => intro h; exact leaf _ rfl rfl fun rest => SG.clo h
  | no t ih => intro h; exact leaf _ rfl rfl fun rest => SG.not ((ih h).1 rest)
  | an a b iha ihb =>
    rintro ⟨ha, hb⟩
    obtain ⟨a1, a2, a3⟩ := iha ha
    obtain ⟨b1, b2, b3⟩ := ihb hb
    have h2 : ∀ rest x, AL nm (.an a b) rest x → PA nm (toks (.an a b) 1 ++ rest) x := fun rest x hx => by
      rw [show toks (.an a b) 1 ++ rest = toks a 1 ++ (wAnd :: (toks b 2 ++ rest)) by simp [toks, par]]
      exact a2 _ _ (AL.step (b1 rest) hx)
    have h3 : ∀ rest x, Not wAnd rest → OL nm (.an a b) rest x → PO nm (toks (.an a b) 0 ++ rest) x := fun rest x hn hx => by
      rw [show toks (.an a b) 0 = toks (.an a b) 1 by simp [toks, par]]
      exact PO.mk (h2 rest _ (AL.stop hn)) hx
    refine ⟨fun rest => ?_, h2, h3⟩
    rw [show toks (.an a b) 2 ++ rest = wLp :: (toks (.an a b) 0 ++ (wRp :: rest)) by simp [toks, par]]
    exact SG.par (h3 _ _ (not_cons (by decide +kernel)) (OL.stop (not_cons (by decide +kernel))))
  | orr a b iha ihb =>
    rintro ⟨ha, hb⟩
    obtain ⟨a1, a2, a3⟩ := iha ha
    obtain ⟨b1, b2, b3⟩ := ihb hb
    have h3 : ∀ rest x, Not wAnd rest → OL nm (.orr a b) rest x → PO nm (toks (.orr a b) 0 ++ rest) x := fun rest x hn hx => by
      rw [show toks (.orr a b) 0 ++ rest = toks a 0 ++ (wOr :: (toks b 1 ++ rest)) by simp [toks, par]]
      exact a3 _ _ (not_cons (by decide +kernel)) (OL.step (b2 rest _ (AL.stop hn)) hx)
    have h1 : ∀ rest, SG nm (toks (.orr a b) 2 ++ rest) (.orr a b, rest) := fun rest => by
      rw [show toks (.orr a b) 2 ++ rest = wLp :: (toks (.orr a b) 0 ++ (wRp :: rest)) by simp [toks, par]]
      exact SG.par (h3 _ _ (not_cons (by decide +kernel)) (OL.stop (not_cons (by decide +kernel))))
    refine ⟨h1, fun rest x hx => ?_, h3⟩
    rw [show toks (.orr a b) 1 = toks (.orr a b) 2 by simp [toks, par]]
    exact PA.mk (h1 rest) hx
theorem toks_10 (t : Tr) : wl (toks t 0) ≤ wl (toks t 1) := by
  cases t <;> simp [toks, par, wl, wl_app]
  omega
theorem toks_21 (t : Tr) : wl (toks t 1) ≤ wl (toks t 2) := by
  cases t <;> simp [toks, par, wl, wl_app]
  omega
theorem sz_lp : wLp.size = 1 := rfl
theorem sz_rp : wRp.size = 1 := rfl
theorem toks_20 (t : Tr) : wl (toks t 2) ≤ wl (toks t 0) + 4 := by
  cases t <;> simp [toks, par, wl, wl_app, sz_lp, sz_rp] <;> omega
/-- What is read is not shorter than what it is printed as. -/
theorem short : ∀ n, (∀ ws t r, sg nm n ws = some (t, r) → Val nm t ∧ ∃ pre, ws = pre ++ r ∧ wl (toks t 2) ≤ wl pre) ∧ (∀ ws t r, pa nm n ws = some (t, r) → Val nm t ∧ ∃ pre, ws = pre ++ r ∧ wl (toks t 1) ≤ wl pre) ∧
    (∀ a ws t r, Val nm a → al nm n a ws = some (t, r) → Val nm t ∧ ∃ pre, ws = pre ++ r ∧ wl (toks t 1) ≤ wl (toks a 1) + wl pre) ∧
    (∀ ws t r, po nm n ws = some (t, r) → Val nm t ∧ ∃ pre, ws = pre ++ r ∧ wl (toks t 0) ≤ wl pre) ∧
    (∀ a ws t r, Val nm a → ol nm n a ws = some (t, r) → Val nm t ∧ ∃ pre, ws = pre ++ r ∧ wl (toks t 0) ≤ wl (toks a 0) + wl pre)
  | 0 => ⟨fun ws t r h => by simp [sg] at h, fun ws t r h => by simp [pa] at h, fun a ws t r _ h => by simp [al] at h, fun ws t r h => by simp [po] at h, fun a ws t r _ h => by simp [ol] at h⟩
  | n + 1 => by
    obtain ⟨h1, h2, h3, h4, h5⟩ := short n
    refine ⟨fun ws t r h => ?_, fun ws t r h => ?_, fun a ws t r ha h => ?_, fun ws t r h => ?_, fun a ws t r ha h => ?_⟩
    · cases ws with
      | nil => rw [sg_nil] at h; cases h
      | cons w l =>
        rw [sg_cons] at h
        split at h
        · rename_i e
          injection h with h; injection h with k1 k2; subst k1 k2 e
          exact ⟨trivial, [wAlw], rfl, Nat.le_refl _⟩
        split at h
        · rename_i e
          injection h with h; injection h with k1 k2; subst k1 k2 e
          exact ⟨trivial, [wNev], rfl, Nat.le_refl _⟩
        split at h
        · rename_i e
          rw [Option.map_eq_some_iff] at h
          obtain ⟨⟨t', r'⟩, hx, hr⟩ := h
          injection hr with k1 k2; subst k1 k2 e
          obtain ⟨v, pre, rfl, hp⟩ := h1 _ _ _ hx
          exact ⟨v, wNot :: pre, rfl, by simp only [toks, wl]; omega⟩
        split at h
        · rename_i e
          rw [Option.bind_eq_some_iff] at h
          obtain ⟨⟨t', r'⟩, hx, hr⟩ := h
          dsimp only at hr
          split at hr
          · rename_i w' r'' hw
            split at hr
            · rename_i e2
              injection hr with hr; injection hr with k1 k2; subst k1 k2 e e2
              obtain ⟨v, pre, rfl, hp⟩ := h4 _ _ _ hx
              refine ⟨v, wLp :: (pre ++ [wRp]), by simp, ?_⟩
              have := toks_20 t'
              simp only [wl, wl_app, sz_lp, sz_rp]; omega
            · cases hr
          · cases hr
        split at h
        · rename_i e
          split at h
          · rename_i y r'
            split at h
            · rename_i hn
              injection h with h; injection h with k1 k2; subst k2
              rcases e with rfl | rfl
              · rw [if_neg (by decide +kernel)] at k1; subst k1
                exact ⟨hn, [wOpn, y], rfl, Nat.le_refl _⟩
              · rw [if_pos rfl] at k1; subst k1
                exact ⟨hn, [wClo, y], rfl, Nat.le_refl _⟩
            · cases h
          · cases h
        · cases h
    · rw [pa_step, Option.bind_eq_some_iff] at h
      obtain ⟨⟨a, r'⟩, hx, hr⟩ := h
      obtain ⟨v, pre, rfl, hp⟩ := h1 _ _ _ hx
      obtain ⟨v2, pre2, rfl, hp2⟩ := h3 _ _ _ _ v hr
      have := toks_21 a
      exact ⟨v2, pre ++ pre2, by simp, by rw [wl_app]; omega⟩
    · cases ws with
      | nil =>
        rw [al_nil] at h
        injection h with h; injection h with k1 k2; subst k1 k2
        exact ⟨ha, [], rfl, by simp [wl]⟩
      | cons w l =>
        rw [al_cons] at h
        split at h
        · rename_i e
          rw [Option.bind_eq_some_iff] at h
          obtain ⟨⟨b, r'⟩, hx, hr⟩ := h
          obtain ⟨v, pre, rfl, hp⟩ := h1 _ _ _ hx
          obtain ⟨v2, pre2, rfl, hp2⟩ := h3 (.an a b) _ _ _ ⟨ha, v⟩ hr
          subst e
          refine ⟨v2, wAnd :: (pre ++ pre2), by simp, ?_⟩
          simp [toks, par, wl, wl_app] at hp2 ⊢
          omega
        · injection h with h; injection h with k1 k2; subst k1 k2
          exact ⟨ha, [], rfl, by simp [wl]⟩
    · rw [po_step, Option.bind_eq_some_iff] at h
      obtain ⟨⟨a, r'⟩, hx, hr⟩ := h
      obtain ⟨v, pre, rfl, hp⟩ := h2 _ _ _ hx
      obtain ⟨v2, pre2, rfl, hp2⟩ := h5 _ _ _ _ v hr
      have := toks_10 a
      exact ⟨v2, pre ++ pre2, by simp, by rw [wl_app]; omega⟩
    · cases ws with
      | nil =>
        rw [ol_nil] at h
        injection h with h; injection h with k1 k2; subst k1 k2
        exact ⟨ha, [], rfl, by simp [wl]⟩
      | cons w l =>
        rw [ol_cons] at h
        split at h
        · rename_i e
          rw [Option.bind_eq_some_iff] at h
          obtain ⟨⟨b, r'⟩, hx, hr⟩ := h
          obtain ⟨v, pre, rfl, hp⟩ := h2 _ _ _ hx
          obtain ⟨v2, pre2, rfl, hp2⟩ := h5 (.orr a b) _ _ _ ⟨ha, v⟩ hr
          subst e
          refine ⟨v2, wOr :: (pre ++ pre2), by simp, ?_⟩
          simp [toks, par, wl, wl_app] at hp2 ⊢
          omega
        · injection h with h; injection h with k1 k2; subst k1 k2
          exact ⟨ha, [], rfl, by simp [wl]⟩
end
end Go.Proofs.YtocghkacngoblaaDoor.Ibk
