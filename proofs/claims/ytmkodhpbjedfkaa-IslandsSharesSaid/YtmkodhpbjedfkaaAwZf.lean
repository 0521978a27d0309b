/- A logic of abstract states for walks: the rewriting rules in a form that is quick to use. -/
import Derived.Test.YtmkodhpbjedfkaaAwZe
set_option linter.unusedVariables false
set_option linter.unusedSimpArgs false
namespace Go.Proofs.Ytmkodhpbjedfkaa.Aw
open Go.RowKit

theorem look_nil (n : Nat) : look [] n = .any := rfl
theorem look_ite (i n : Nat) (x : AV) (l : List (Nat × AV)) : look ((i, x) :: l) n = if i = n then x else look l n := by
  rw [look_cons]
  by_cases h : i = n
  · subst h; rw [if_pos rfl, beq_self_eq_true]; rfl
  · rw [if_neg h, beq_eq_false_iff_ne.2 h]; rfl
section
variable {P : Program} {E : Env} {Q : Exit → St → Prop}
theorem wpL_nil (s : St) : wpL P E Q [] s = Q .normal s := rfl
theorem wpL_op (d : Option Nat) (op : AOp) (l : List GOp) (s : St) : wpL P E Q (⟨d, none, op⟩ :: l) s = if stops op = true then AWpL P E Q (⟨d, none, op⟩ :: l) s else match aop s.ev s op with
    | some (z, s', ob) => ob ∧ wpL P E Q l (s'.putO d z)
    | none => False := by
  rw [wpL]
  cases stops op <;> rfl
theorem wpL_gd (d : Option Nat) (t : Nat) (want : Bool) (op : AOp) (l : List GOp) (s : St) : wpL P E Q (⟨d, some (t, want), op⟩ :: l) s = if stops op = true then AWpL P E Q (⟨d, some (t, want), op⟩ :: l) s else match gdB (look s.tm t) want with
    | some b => match op.still, aop (fun x => (s.ev x).strip) s op with
      | true, some (z, _, ob) => (b = true → opOb s.ev op ∧ ob) ∧ wpL P E Q l (s.putO d (.opt b z))
      | _, _ => False
    | none => False := by
  rw [wpL]
  cases stops op <;> rfl
theorem wpQ_nil (s : St) : wpQ P E Q [] s = Q .normal s := rfl
theorem wpQ_op (d : Option Nat) (op : AOp) (l : List GOp) (s : St) : wpQ P E Q (⟨d, none, op⟩ :: l) s = if stops op = true then AWpQ P E Q (⟨d, none, op⟩ :: l) s else match op.still, aop s.ev s op with
    | true, some (z, s', ob) => ob ∧ wpQ P E Q l (s'.putO d z)
    | _, _ => False := by
  rw [wpQ]
  cases stops op <;> rfl
theorem wpQ_gd (d : Option Nat) (t : Nat) (want : Bool) (op : AOp) (l : List GOp) (s : St) : wpQ P E Q (⟨d, some (t, want), op⟩ :: l) s = if stops op = true then AWpQ P E Q (⟨d, some (t, want), op⟩ :: l) s else match gdB (look s.tm t) want with
    | some b => match op.still, aop (fun x => (s.ev x).strip) s op with
      | true, some (z, _, ob) => (b = true → opOb s.ev op ∧ ob) ∧ wpQ P E Q l (s.putO d (.opt b z))
      | _, _ => False
    | none => False := by
  rw [wpQ]
  cases stops op <;> rfl
theorem wpC_draw (af : List (List Nat)) (gs : List GOp) (Q : Exit → St → Prop) (s : St) : wpC P E (.region true af gs) Q s = if quietOps gs = true then wpQ P E Q gs s else AWp P E Q (.region true af gs) s := by
  rw [wpC]
  cases quietOps gs <;> rfl
theorem wpC_reg (af : List (List Nat)) (gs : List GOp) (Q : Exit → St → Prop) (s : St) : wpC P E (.region false af gs) Q s = wpL P E Q gs s := rfl
theorem wpC_skip (Q : Exit → St → Prop) (s : St) : wpC P E .skip Q s = Q .normal s := rfl
theorem wpC_ret (Q : Exit → St → Prop) (s : St) : wpC P E .ret Q s = Q .ret s := rfl
theorem wpC_exit (id : Nat) (Q : Exit → St → Prop) (s : St) : wpC P E (.exit id) Q s = Q (.exit id) s := rfl
theorem wpC_seq (x y : ACode) (Q : Exit → St → Prop) (s : St) : wpC P E (.seq x y) Q s = wpC P E x (SeqC (wpC P E y) Q) s := rfl
theorem wpC_block (id : Nat) (x : ACode) (Q : Exit → St → Prop) (s : St) : wpC P E (.block id x) Q s = wpC P E x (Blk id Q) s := rfl
theorem wpC_loop (x : ACode) (Q : Exit → St → Prop) (s : St) : wpC P E (.loop x) Q s = AWp P E Q (.loop x) s := rfl
theorem wpC_cond (c : Opd) (x y : ACode) (Q : Exit → St → Prop) (s : St) : wpC P E (.cond c x y) Q s = match s.ev c with
    | .val (.bool b) => (b = true → wpC P E x Q s) ∧ (b = false → wpC P E y Q s)
    | _ => False := rfl

/-- As wpL; a guarded operation that changes memory is carried out where its guard is true. -/
def wpM (P : Program) (E : Env) (Q : Exit → St → Prop) : List GOp → St → Prop
  | [], s => Q .normal s
  | ⟨d, none, op⟩ :: l, s => bif stops op then AWpL P E Q (⟨d, none, op⟩ :: l) s else match aop s.ev s op with
    | some (z, s', ob) => ob ∧ wpM P E Q l (s'.putO d z)
    | none => False
  | ⟨d, some (t, want), op⟩ :: l, s => bif stops op then AWpL P E Q (⟨d, some (t, want), op⟩ :: l) s else match gdB (look s.tm t) want with
    | some b => bif op.still then (match aop (fun x => (s.ev x).strip) s op with
        | some (z, _, ob) => (b = true → opOb s.ev op ∧ ob) ∧ wpM P E Q l (s.putO d (.opt b z))
        | none => False)
      else (b = true ∧ match aop s.ev s op with
        | some (z, s', ob) => ob ∧ wpM P E Q l (s'.putO d z)
        | none => False)
    | none => False
theorem AWpL.ofM {n : Nat} (hn : E.n = n) : ∀ {gs : List GOp} {Q : Exit → St → Prop} {s : St}, dstsOk n gs = true → wpM P E Q gs s → AWpL P E Q gs s
  | [], Q, s, _, h => AWpL.nil h
  | ⟨d, none, op⟩ :: l, Q, s, hd, h => by
    simp only [dstsOk, Bool.and_eq_true] at hd
    unfold wpM at h
    cases hs : stops op with
    | true => rw [hs] at h; exact h
    | false =>
      rw [hs] at h
      simp only [cond_false] at h
      split at h
      · rename_i z s1 ob ha
        refine AWpL.cons (s' := s1.putO d z) (ob := ob) ?_ h.1 (AWpL.ofM hn hd.2 h.2)
        simp only [stepOp, hn, hd.1, cond_true, ha]
      · exact h.elim
  | ⟨d, some (t, want), op⟩ :: l, Q, s, hd, h => by
    simp only [dstsOk, Bool.and_eq_true] at hd
    unfold wpM at h
    cases hs : stops op with
    | true => rw [hs] at h; exact h
    | false =>
      rw [hs] at h
      simp only [cond_false] at h
      split at h
      · rename_i b hb
        cases hst : op.still with
        | true =>
          rw [hst] at h
          simp only [cond_true] at h
          split at h
          · rename_i z s1 ob ha
            refine AWpL.cons (s' := s.putO d (.opt b z)) (ob := b = true → opOb s.ev op ∧ ob) ?_ h.1 (AWpL.ofM hn hd.2 h.2)
            simp only [stepOp, hn, hd.1, cond_true, hb, hst, ha]
          · exact h.elim
        | false =>
          rw [hst] at h
          simp only [cond_false] at h
          obtain ⟨rfl, h⟩ := h
          refine AWpL.guardT hb ?_
          split at h
          · rename_i z s1 ob ha
            refine AWpL.cons (s' := s1.putO d z) (ob := ob) ?_ h.1 (AWpL.ofM hn hd.2 h.2)
            simp only [stepOp, hn, hd.1, cond_true, ha]
          · exact h.elim
      · exact h.elim
theorem wpM_nil (s : St) : wpM P E Q [] s = Q .normal s := rfl
theorem wpM_op (d : Option Nat) (op : AOp) (l : List GOp) (s : St) : wpM P E Q (⟨d, none, op⟩ :: l) s = if stops op = true then AWpL P E Q (⟨d, none, op⟩ :: l) s else match aop s.ev s op with
    | some (z, s', ob) => ob ∧ wpM P E Q l (s'.putO d z)
    | none => False := by
  rw [wpM]
  cases stops op <;> rfl
theorem wpM_gd (d : Option Nat) (t : Nat) (want : Bool) (op : AOp) (l : List GOp) (s : St) : wpM P E Q (⟨d, some (t, want), op⟩ :: l) s = if stops op = true then AWpL P E Q (⟨d, some (t, want), op⟩ :: l) s else match gdB (look s.tm t) want with
    | some b => if op.still = true then (match aop (fun x => (s.ev x).strip) s op with
        | some (z, _, ob) => (b = true → opOb s.ev op ∧ ob) ∧ wpM P E Q l (s.putO d (.opt b z))
        | none => False)
      else (b = true ∧ match aop s.ev s op with
        | some (z, s', ob) => ob ∧ wpM P E Q l (s'.putO d z)
        | none => False)
    | none => False := by
  rw [wpM]
  cases stops op
  · cases op.still <;> rfl
  · rfl

/-! ### Code computed up to some blocks and branches -/
def stopAt (l : List Nat) (n : Nat) (a b : Prop) : Prop := match l with
  | [] => b
  | k :: l => if k = n then a else stopAt l n a b
theorem stopAt_or {a b : Prop} : ∀ {l : List Nat} {n : Nat}, stopAt l n a b → a ∨ b
  | [], n, h => .inr h
  | k :: l, n, h => by
    unfold stopAt at h
    split at h
    · exact .inl h
    · exact stopAt_or h
theorem stopAt_nil (n : Nat) (a b : Prop) : stopAt [] n a b = b := rfl
theorem stopAt_cons (k : Nat) (l : List Nat) (n : Nat) (a b : Prop) : stopAt (k :: l) n a b = if k = n then a else stopAt l n a b := rfl
/-- 999 among the blocks: stop at drawn regions, too. -/
def stopDraw : List Nat → Bool
  | [] => false
  | n :: l => bif n == 999 then true else stopDraw l
def wpD (P : Program) (E : Env) (bs cs : List Nat) : ACode → (Exit → St → Prop) → St → Prop
  | .skip, Q, s => Q .normal s
  | .ret, Q, s => Q .ret s
  | .exit id, Q, s => Q (.exit id) s
  | .region false _ gs, Q, s => wpM P E Q gs s
  | .region true af gs, Q, s => bif quietOps gs && !stopDraw bs then wpQ P E Q gs s else AWp P E Q (.region true af gs) s
  | .seq x y, Q, s => wpD P E bs cs x (SeqC (wpD P E bs cs y) Q) s
  | .cond (.t n) x y, Q, s => stopAt cs n (AWp P E Q (.cond (.t n) x y) s) (match s.ev (.t n) with
    | .val (.bool b) => (b = true → wpD P E bs cs x Q s) ∧ (b = false → wpD P E bs cs y Q s)
    | _ => False)
  | .cond (.v v) x y, Q, s => AWp P E Q (.cond (.v v) x y) s
  | .block id x, Q, s => stopAt bs id (AWp P E Q (.block id x) s) (wpD P E bs cs x (Blk id Q) s)
  | .loop x, Q, s => AWp P E Q (.loop x) s
theorem AWp.ofD (bs cs : List Nat) {n : Nat} (hn : E.n = n) (hm : P.follows .mixedOrders = true) : ∀ {c : ACode} {Q : Exit → St → Prop} {s : St}, dstsC n c = true → wpD P E bs cs c Q s → AWp P E Q c s
  | .skip, Q, s, _, h => AWp.skip h
  | .ret, Q, s, _, h => AWp.ret h
  | .exit id, Q, s, _, h => AWp.exit h
  | .region false af gs, Q, s, hd, h => AWp.region (AWpL.ofM hn hd h)
  | .region true af gs, Q, s, hd, h => by
    unfold wpD at h
    cases hq : (quietOps gs && !stopDraw bs) with
    | true => rw [hq] at h; exact AWp.draw hm (AWpQ.of hn hd h)
    | false => rw [hq] at h; exact h
  | .seq x y, Q, s, hd, h => by
    simp only [dstsC, Bool.and_eq_true] at hd
    refine AWp.seq (AWp.mono ?_ (AWp.ofD bs cs hn hm hd.1 h))
    intro e s hq
    cases e with
    | normal => exact AWp.ofD bs cs hn hm hd.2 hq
    | _ => exact hq
  | .cond (.t k) x y, Q, s, hd, h => by
    simp only [dstsC, Bool.and_eq_true] at hd
    unfold wpD at h
    rcases stopAt_or h with h | h
    · exact h
    split at h
    · rename_i b hb
      exact AWp.cond hb (fun e => AWp.ofD bs cs hn hm hd.1 (h.1 e)) (fun e => AWp.ofD bs cs hn hm hd.2 (h.2 e))
    · exact h.elim
  | .cond (.v v) x y, Q, s, hd, h => h
  | .block id x, Q, s, hd, h => by
    unfold wpD at h
    rcases stopAt_or h with h | h
    · exact h
    · exact AWp.block (AWp.ofD bs cs hn hm hd h)
  | .loop x, Q, s, _, h => h
theorem wpD_skip (bs cs : List Nat) (Q : Exit → St → Prop) (s : St) : wpD P E bs cs .skip Q s = Q .normal s := by rw [wpD]
theorem wpD_ret (bs cs : List Nat) (Q : Exit → St → Prop) (s : St) : wpD P E bs cs .ret Q s = Q .ret s := by rw [wpD]
theorem wpD_exit (bs cs : List Nat) (id : Nat) (Q : Exit → St → Prop) (s : St) : wpD P E bs cs (.exit id) Q s = Q (.exit id) s := by rw [wpD]
theorem wpD_region (bs cs : List Nat) (af : List (List Nat)) (gs : List GOp) (Q : Exit → St → Prop) (s : St) : wpD P E bs cs (.region false af gs) Q s = wpM P E Q gs s := by rw [wpD]
theorem wpD_draw (bs cs : List Nat) (af : List (List Nat)) (gs : List GOp) (Q : Exit → St → Prop) (s : St) : wpD P E bs cs (.region true af gs) Q s = if (quietOps gs && !stopDraw bs) = true then wpQ P E Q gs s else AWp P E Q (.region true af gs) s := by
  rw [wpD]
  cases (quietOps gs && !stopDraw bs) <;> rfl
theorem wpD_seq (bs cs : List Nat) (x y : ACode) (Q : Exit → St → Prop) (s : St) : wpD P E bs cs (.seq x y) Q s = wpD P E bs cs x (SeqC (wpD P E bs cs y) Q) s := by rw [wpD]
theorem wpD_block (bs cs : List Nat) (id : Nat) (x : ACode) (Q : Exit → St → Prop) (s : St) : wpD P E bs cs (.block id x) Q s = stopAt bs id (AWp P E Q (.block id x) s) (wpD P E bs cs x (Blk id Q) s) := by rw [wpD]
theorem wpD_loop (bs cs : List Nat) (x : ACode) (Q : Exit → St → Prop) (s : St) : wpD P E bs cs (.loop x) Q s = AWp P E Q (.loop x) s := by rw [wpD]
theorem wpD_cond (bs cs : List Nat) (n : Nat) (x y : ACode) (Q : Exit → St → Prop) (s : St) : wpD P E bs cs (.cond (.t n) x y) Q s = stopAt cs n (AWp P E Q (.cond (.t n) x y) s) (match s.ev (.t n) with
    | .val (.bool b) => (b = true → wpD P E bs cs x Q s) ∧ (b = false → wpD P E bs cs y Q s)
    | _ => False) := by rw [wpD]
end

/-! ### Guarded calls -/
theorem borA_guard (k : Nat) (s : St) : ∀ x : AV, (borA (k + 1) s x).guard = x.guard
  | .hnd r off n kk ex => by
    unfold borA
    split <;> rfl
  | .ptr r i o => by
    unfold borA
    split <;> rfl
  | .fn f caps => by unfold borA; rfl
  | .agg cs => by unfold borA; rfl
  | .tup cs => by unfold borA; rfl
  | .opt c x => by unfold borA; rfl
  | .any => by unfold borA; rfl
  | .val v => by unfold borA; rfl
  | .imm .. => by unfold borA; rfl
  | .pim _ => by unfold borA; rfl
theorem Ent.strip {x : AV} (h : x.guard = true) : Ent x x.strip := fun w ok ρ v hr => by
  cases x with
  | opt c x =>
    unfold R at hr
    exact hr.1 h
  | _ => exact hr
theorem EntL.strips {k : Nat} {s : St} : ∀ {xs : List Opd}, (∀ x ∈ xs, (s.ev x).guard = true) → EntL (xs.map fun x => borA (k + 1) s (s.ev x)) (xs.map fun x => (borA (k + 1) s (s.ev x)).strip)
  | [], _ => trivial
  | x :: xs, h => ⟨Ent.strip (by rw [borA_guard]; exact h x List.mem_cons_self), EntL.strips fun y hy => h y (List.mem_cons_of_mem _ hy)⟩
theorem Ent.opt {y : AV} : Ent y (.opt true y) := fun w ok ρ v hr => by
  unfold R; exact ⟨fun _ => hr, fun h => (by cases h)⟩
theorem Ent.off {x y : AV} : Ent (.opt false x) (.opt false y) := fun w ok ρ v hr => by
  unfold R at hr ⊢; exact ⟨fun h => (by cases h), hr.2⟩
theorem weak_put {E : Env} {s : St} {d : Option Nat} {x y : AV} (h : Ent x y) : Weak E (s.putO d x) (s.putO d y) := fun a w ⟨ρ, ok, hr⟩ => by
  cases d with
  | none => exact ⟨ρ, ok, hr⟩
  | some t =>
    refine ⟨ρ, ok, hr.mem, fun m => ?_, hr.siz, hr.dfr, hr.kps, hr.bas, hr.ownr, hr.okr, hr.pin⟩
    have h1 := hr.tm m
    show R w ok ρ (look (putTm s.tm t y) m) _
    rw [look_put]
    have h2 : look (putTm s.tm t x) m = if m = t then x else look s.tm m := look_put _ _ _ _
    have h3 : R w ok ρ (look (putTm s.tm t x) m) (a.tmps.getD m undef) := h1
    rw [h2] at h3
    split
    · rename_i e; rw [if_pos e] at h3; exact h _ _ _ _ h3
    · rename_i e; rw [if_neg e] at h3; exact h3
/-- A guarded call whose result is known where it is carried out. -/
theorem AWpL.gcalle {P : Program} {E : Env} {Q : Exit → St → Prop} {s : St} {f : FuncId} {xs : List Opd} {dst : Option Nat} {t : Nat} {want b : Bool} {gs : List GOp} {y : AV} (hg : gdB (look s.tm t) want = some b)
    (hs : b = true → Spec P f [] (xs.map fun x => (borA 4 s (s.ev x)).strip) (Gives (· = y))) (hy : plainA y = true) (hd : dstOk E.n dst = true) (hb : b = true → allOb (borOb 4 s) (xs.map s.ev) ∧ allOb (fun x => x.guard = true) (xs.map s.ev))
    (h : AWpL P E Q gs (s.putO dst (.opt b y))) : AWpL P E Q (⟨dst, some (t, want), .call f xs⟩ :: gs) s := by
  cases b with
  | true =>
    obtain ⟨h1, h2⟩ := hb rfl
    exact AWpL.guardT hg (AWpL.calle ((hs rfl).args (EntL.strips fun x hx => allOb_mem h2 _ (List.mem_map_of_mem hx))) hy hd h1 (AWpL.weak (weak_put Ent.opt) h))
  | false => exact AWpL.guardF hd hg (AWpL.weak (weak_put Ent.off) h)
/-- A function that leaves nothing, its code not computed yet. -/
theorem Spec.givesW {P : Program} {f : FuncId} {n : Nat} {rs : List RV} {ac : ACode} (k : FnIs P f n rs ac) {args : List AV} {p : AV → Prop} {is : List Nat} (hl : Nat.ble args.length n = true) (hr : rsTm rs = some is)
    (h : ∀ E : Env, E.n = n → E.np = 0 → PinOk E [] → AWp P E (Ends is p) ac ⟨params 0 args, []⟩) : Spec P f [] args (Gives p) :=
  Spec.of k hl fun E hn hnp hp => AWp.mono (Ends.out hr hnp hp) (h E hn hnp hp)
theorem Spec.regsW {P : Program} {f : FuncId} {n np : Nat} {rs : List RV} {ac : ACode} (k : FnIs P f n rs ac) {rg0 : List Reg} {args : List AV} {Post : List Reg → AV → Prop} (hl : Nat.ble args.length n = true) (hnp : rg0.length = np)
    (h : ∀ E : Env, E.n = n → E.np = np → PinOk E rg0 → AWp P E (Retn E rs Post) ac ⟨params 0 args, rg0⟩) : Spec P f rg0 args Post :=
  Spec.of k hl fun E hn hp0 hp => h E hn (hp0.trans hnp) hp
theorem Spec.givesD {P : Program} {f : FuncId} {n : Nat} {rs : List RV} {ac : ACode} (k : FnIs P f n rs ac) (hm : P.follows .mixedOrders = true) {args : List AV} {p : AV → Prop} {is : List Nat} (hl : Nat.ble args.length n = true) (hr : rsTm rs = some is)
    (hd : dstsC n ac = true) (h : ∀ E : Env, E.n = n → E.np = 0 → PinOk E [] → wpD P E [] [] ac (Ends is p) ⟨params 0 args, []⟩) : Spec P f [] args (Gives p) :=
  Spec.of k hl fun E hn hnp hp => AWp.mono (Ends.out hr hnp hp) (AWp.ofD [] [] hn hm hd (h E hn hnp hp))
theorem Spec.regsD {P : Program} {f : FuncId} {n np : Nat} {rs : List RV} {ac : ACode} (k : FnIs P f n rs ac) (hm : P.follows .mixedOrders = true) {rg0 : List Reg} {args : List AV} {Post : List Reg → AV → Prop} (hl : Nat.ble args.length n = true) (hnp : rg0.length = np)
    (hd : dstsC n ac = true) (h : ∀ E : Env, E.n = n → E.np = np → PinOk E rg0 → wpD P E [] [] ac (Retn E rs Post) ⟨params 0 args, rg0⟩) : Spec P f rg0 args Post :=
  Spec.of k hl fun E hn hp0 hp => AWp.ofD [] [] hn hm hd (h E hn (hp0.trans hnp) hp)

/-! ### Calls in drawn regions -/
theorem Spec.post {P : Program} {f : FuncId} {rg0 : List Reg} {args : List AV} {Post Post' : List Reg → AV → Prop} (h : Spec P f rg0 args Post) (hp : ∀ rg x, Post rg x → Post' rg x) : Spec P f rg0 args Post' := fun w ρ ok vals hm ha => by
  refine (h w ρ ok vals hm ha).mono ?_
  rintro e w' ⟨rg, x, v, ρ', ok', h1, h2, h3⟩
  exact ⟨rg, x, v, ρ', ok', h1, hp _ _ h2, h3⟩
theorem AWpQ.weak {P : Program} {E : Env} {Q : Exit → St → Prop} {s s' : St} {gs : List GOp} (h : Weak E s s') (k : AWpQ P E Q gs s') : AWpQ P E Q gs s := fun ops l hl a w hr => k ops l hl a w (h a w hr)
theorem AWpQ.calle {P : Program} {E : Env} {Q : Exit → St → Prop} {s : St} {f : FuncId} {xs : List Opd} {dst : Option Nat} {gs : List GOp} {y : Value} (hs : Spec P f [] (xs.map fun x => borA 4 s (s.ev x)) (Gives (· = .val y)))
    (hd : dstOk E.n dst = true) (hb : allOb (borOb 4 s) (xs.map s.ev)) (h : AWpQ P E Q gs (s.putO dst (.val y))) : AWpQ P E Q (⟨dst, none, .call f xs⟩ :: gs) s :=
  AWpQ.callb (hs.post fun rg x hx => hx.2) hd hb h
theorem AWpQ.gcalle {P : Program} {E : Env} {Q : Exit → St → Prop} {s : St} {f : FuncId} {xs : List Opd} {dst : Option Nat} {t : Nat} {want b : Bool} {gs : List GOp} {y : Value} (hg : gdB (look s.tm t) want = some b)
    (hs : b = true → Spec P f [] (xs.map fun x => (borA 4 s (s.ev x)).strip) (Gives (· = .val y))) (hd : dstOk E.n dst = true) (hb : b = true → allOb (borOb 4 s) (xs.map s.ev) ∧ allOb (fun x => x.guard = true) (xs.map s.ev))
    (h : AWpQ P E Q gs (s.putO dst (.opt b (.val y)))) : AWpQ P E Q (⟨dst, some (t, want), .call f xs⟩ :: gs) s := by
  cases b with
  | true =>
    obtain ⟨h1, h2⟩ := hb rfl
    exact AWpQ.guardT hg (AWpQ.calle ((hs rfl).args (EntL.strips fun x hx => allOb_mem h2 _ (List.mem_map_of_mem hx))) hd h1 (AWpQ.weak (weak_put Ent.opt) h))
  | false => exact AWpQ.guardF hd hg (AWpQ.weak (weak_put Ent.off) h)
/-- A call that is lent nothing, in a drawn region. -/
theorem AOne.callA {P : Program} {E : Env} {s : St} {m : Bool} {f : FuncId} {xs : List Opd} {dst : Option Nat} {K : St → Prop} {args : List AV} {Post : List Reg → AV → Prop} (hs : Spec P f [] args Post) (ha : (xs.map fun x => renA [] (s.ev x)) = args)
    (hd : dstOk E.n dst = true) (h : ∀ rg x, Post rg x → K (retS s [] dst rg x)) : AOne P E m ⟨dst, none, .call f xs⟩ s K := fun ops o hg a w hrel Q => by
  subst ha
  obtain ⟨ρ, ok, hr⟩ := hrel
  obtain ⟨hc, hdst, hgd⟩ := gop_guard hg
  rcases hgd with ⟨hg0, _⟩ | ⟨_, _, _, _, _, hgd⟩
  case inr => cases hgd
  rw [if_pos (wanted_none hg0 _)]
  left
  obtain ⟨_, vals, hv, hrun⟩ := call_inv (a := a) (w := w) hc
  unfold Oper.wp
  rw [hrun]
  refine upon_enter hdst.symm ?_
  obtain ⟨hinj, hlt⟩ := piOk_inj (len := s.rg.length) (π := []) rfl
  have hav : RList w ok (pl [] ρ) (xs.map fun x => renA [] (s.ev x)) vals.toList := by rw [hv]; exact args_ren hr [] xs
  refine (hs w (pl [] ρ) ok vals (hr.mem.ren hinj hlt) hav).mono ?_
  rintro e w' ⟨rg, x, v, ρ', ok', rfl, hp, hm, hx, h1, h2, h3, h4⟩
  have hno : ∀ k, ¬ ∃ r0 p0, pl [] ρ r0 = some (some p0) ∧ p0.b = k := fun k ⟨r0, p0, h7, _⟩ => by simp [pl] at h7
  have hext : Ext w w' := ⟨h3.os, h3.tape, h3.output, h3.size, fun k hk => h3.block k hk (hno k)⟩
  exact ⟨v, rfl, fun _ => hext, _, h rg x hp, _, _, ret_core hr (π := []) rfl (fun r hr => by cases hr) hd hm hx h1 (Nat.zero_le _) h2 h3 fun r hb hlt' => by simp at hlt'⟩
end Go.Proofs.Ytmkodhpbjedfkaa.Aw
