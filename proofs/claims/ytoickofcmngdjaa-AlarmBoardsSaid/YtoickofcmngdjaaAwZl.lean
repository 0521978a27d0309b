/- A logic of abstract states for walks: the rewriting rules in a form that is quick to use. -/
import Derived.Test.YtoickofcmngdjaaAwZe
import Derived.Lib.Overlaps
import Derived.Sort.Grow
import Derived.Laws.BytesArg
import Derived.Laws.Cells
set_option linter.unusedVariables false
set_option linter.unusedSimpArgs false
namespace Go.Proofs.Ytoickofcmngdjaa.Aw
open Go.RowKit

theorem look_nil (n : Nat) : look [] n = .any := rfl
theorem look_ite (i n : Nat) (x : AV) (l : List (Nat × AV)) : look ((i, x) :: l) n = if i = n then x else look l n := by
  rw [look_cons]
  by_cases h : i = n
  · subst h; rw [if_pos rfl, beq_self_eq_true]; rfl
  · rw [if_neg h, beq_eq_false_iff_ne.2 h]; rfl
section
variable {P : Program} {E : Env} {Q : Exit → St → Prop}
theorem wpL_nil (s : St) : wpL P E Q [] s = Q .normal s := rfl
theorem wpL_op (d : Option Nat) (op : AOp) (l : List GOp) (s : St) : wpL P E Q (⟨d, none, op⟩ :: l) s = if stops op = true then AWpL P E Q (⟨d, none, op⟩ :: l) s else match aop s.ev s op with
    | some (z, s', ob) => ob ∧ wpL P E Q l (s'.putO d z)
    | none => False := by
  rw [wpL]
  cases stops op <;> rfl
theorem wpL_gd (d : Option Nat) (t : Nat) (want : Bool) (op : AOp) (l : List GOp) (s : St) : wpL P E Q (⟨d, some (t, want), op⟩ :: l) s = if stops op = true then AWpL P E Q (⟨d, some (t, want), op⟩ :: l) s else match gdB (look s.tm t) want with
    | some b => match op.still, aop (fun x => (s.ev x).strip) s op with
      | true, some (z, _, ob) => (b = true → opOb s.ev op ∧ ob) ∧ wpL P E Q l (s.putO d (.opt b z))
      | _, _ => False
    | none => False := by
  rw [wpL]
  cases stops op <;> rfl
theorem wpQ_nil (s : St) : wpQ P E Q [] s = Q .normal s := rfl
theorem wpQ_op (d : Option Nat) (op : AOp) (l : List GOp) (s : St) : wpQ P E Q (⟨d, none, op⟩ :: l) s = if stops op = true then AWpQ P E Q (⟨d, none, op⟩ :: l) s else match op.still, aop s.ev s op with
    | true, some (z, s', ob) => ob ∧ wpQ P E Q l (s'.putO d z)
    | _, _ => False := by
  rw [wpQ]
  cases stops op <;> rfl
theorem wpQ_gd (d : Option Nat) (t : Nat) (want : Bool) (op : AOp) (l : List GOp) (s : St) : wpQ P E Q (⟨d, some (t, want), op⟩ :: l) s = if stops op = true then AWpQ P E Q (⟨d, some (t, want), op⟩ :: l) s else match gdB (look s.tm t) want with
    | some b => match op.still, aop (fun x => (s.ev x).strip) s op with
      | true, some (z, _, ob) => (b = true → opOb s.ev op ∧ ob) ∧ wpQ P E Q l (s.putO d (.opt b z))
      | _, _ => False
    | none => False := by
  rw [wpQ]
  cases stops op <;> rfl
theorem wpC_draw (af : List (List Nat)) (gs : List GOp) (Q : Exit → St → Prop) (s : St) : wpC P E (.region true af gs) Q s = if quietOps gs = true then wpQ P E Q gs s else AWp P E Q (.region true af gs) s := by
  rw [wpC]
  cases quietOps gs <;> rfl
theorem wpC_reg (af : List (List Nat)) (gs : List GOp) (Q : Exit → St → Prop) (s : St) : wpC P E (.region false af gs) Q s = wpL P E Q gs s := rfl
theorem wpC_skip (Q : Exit → St → Prop) (s : St) : wpC P E .skip Q s = Q .normal s := rfl
theorem wpC_ret (Q : Exit → St → Prop) (s : St) : wpC P E .ret Q s = Q .ret s := rfl
theorem wpC_exit (id : Nat) (Q : Exit → St → Prop) (s : St) : wpC P E (.exit id) Q s = Q (.exit id) s := rfl
theorem wpC_seq (x y : ACode) (Q : Exit → St → Prop) (s : St) : wpC P E (.seq x y) Q s = wpC P E x (SeqC (wpC P E y) Q) s := rfl
theorem wpC_block (id : Nat) (x : ACode) (Q : Exit → St → Prop) (s : St) : wpC P E (.block id x) Q s = wpC P E x (Blk id Q) s := rfl
theorem wpC_loop (x : ACode) (Q : Exit → St → Prop) (s : St) : wpC P E (.loop x) Q s = AWp P E Q (.loop x) s := rfl
theorem wpC_cond (c : Opd) (x y : ACode) (Q : Exit → St → Prop) (s : St) : wpC P E (.cond c x y) Q s = match s.ev c with
    | .val (.bool b) => (b = true → wpC P E x Q s) ∧ (b = false → wpC P E y Q s)
    | _ => False := rfl

/-- As wpL; a guarded operation that changes memory is carried out where its guard is true. -/
def wpM (P : Program) (E : Env) (Q : Exit → St → Prop) : List GOp → St → Prop
  | [], s => Q .normal s
  | ⟨d, none, op⟩ :: l, s => bif stops op then AWpL P E Q (⟨d, none, op⟩ :: l) s else match aop s.ev s op with
    | some (z, s', ob) => ob ∧ wpM P E Q l (s'.putO d z)
    | none => False
  | ⟨d, some (t, want), op⟩ :: l, s => bif stops op then AWpL P E Q (⟨d, some (t, want), op⟩ :: l) s else match gdB (look s.tm t) want with
    | some b => bif op.still then (match aop (fun x => (s.ev x).strip) s op with
        | some (z, _, ob) => (b = true → opOb s.ev op ∧ ob) ∧ wpM P E Q l (s.putO d (.opt b z))
        | none => False)
      else (b = true ∧ match aop s.ev s op with
        | some (z, s', ob) => ob ∧ wpM P E Q l (s'.putO d z)
        | none => False)
    | none => False
theorem AWpL.ofM {n : Nat} (hn : E.n = n) : ∀ {gs : List GOp} {Q : Exit → St → Prop} {s : St}, dstsOk n gs = true → wpM P E Q gs s → AWpL P E Q gs s
  | [], Q, s, _, h => AWpL.nil h
  | ⟨d, none, op⟩ :: l, Q, s, hd, h => by
    simp only [dstsOk, Bool.and_eq_true] at hd
    unfold wpM at h
    cases hs : stops op with
    | true => rw [hs] at h; exact h
    | false =>
      rw [hs] at h
      simp only [cond_false] at h
      split at h
      · rename_i z s1 ob ha
        refine AWpL.cons (s' := s1.putO d z) (ob := ob) ?_ h.1 (AWpL.ofM hn hd.2 h.2)
        simp only [stepOp, hn, hd.1, cond_true, ha]
      · exact h.elim
  | ⟨d, some (t, want), op⟩ :: l, Q, s, hd, h => by
    simp only [dstsOk, Bool.and_eq_true] at hd
    unfold wpM at h
    cases hs : stops op with
    | true => rw [hs] at h; exact h
    | false =>
      rw [hs] at h
      simp only [cond_false] at h
      split at h
      · rename_i b hb
        cases hst : op.still with
        | true =>
          rw [hst] at h
          simp only [cond_true] at h
          split at h
          · rename_i z s1 ob ha
            refine AWpL.cons (s' := s.putO d (.opt b z)) (ob := b = true → opOb s.ev op ∧ ob) ?_ h.1 (AWpL.ofM hn hd.2 h.2)
            simp only [stepOp, hn, hd.1, cond_true, hb, hst, ha]
          · exact h.elim
        | false =>
          rw [hst] at h
          simp only [cond_false] at h
          obtain ⟨rfl, h⟩ := h
          refine AWpL.guardT hb ?_
          split at h
          · rename_i z s1 ob ha
            refine AWpL.cons (s' := s1.putO d z) (ob := ob) ?_ h.1 (AWpL.ofM hn hd.2 h.2)
            simp only [stepOp, hn, hd.1, cond_true, ha]
          · exact h.elim
      · exact h.elim
theorem wpM_nil (s : St) : wpM P E Q [] s = Q .normal s := rfl
theorem wpM_op (d : Option Nat) (op : AOp) (l : List GOp) (s : St) : wpM P E Q (⟨d, none, op⟩ :: l) s = if stops op = true then AWpL P E Q (⟨d, none, op⟩ :: l) s else match aop s.ev s op with
    | some (z, s', ob) => ob ∧ wpM P E Q l (s'.putO d z)
    | none => False := by
  rw [wpM]
  cases stops op <;> rfl
theorem wpM_gd (d : Option Nat) (t : Nat) (want : Bool) (op : AOp) (l : List GOp) (s : St) : wpM P E Q (⟨d, some (t, want), op⟩ :: l) s = if stops op = true then AWpL P E Q (⟨d, some (t, want), op⟩ :: l) s else match gdB (look s.tm t) want with
    | some b => if op.still = true then (match aop (fun x => (s.ev x).strip) s op with
        | some (z, _, ob) => (b = true → opOb s.ev op ∧ ob) ∧ wpM P E Q l (s.putO d (.opt b z))
        | none => False)
      else (b = true ∧ match aop s.ev s op with
        | some (z, s', ob) => ob ∧ wpM P E Q l (s'.putO d z)
        | none => False)
    | none => False := by
  rw [wpM]
  cases stops op
  · cases op.still <;> rfl
  · rfl

/-! ### Code computed up to some blocks and branches -/
def stopAt (l : List Nat) (n : Nat) (a b : Prop) : Prop := match l with
  | [] => b
  | k :: l => if k = n then a else stopAt l n a b
theorem stopAt_or {a b : Prop} : ∀ {l : List Nat} {n : Nat}, stopAt l n a b → a ∨ b
  | [], n, h => .inr h
  | k :: l, n, h => by
    unfold stopAt at h
    split at h
    · exact .inl h
    · exact stopAt_or h
theorem stopAt_nil (n : Nat) (a b : Prop) : stopAt [] n a b = b := rfl
theorem stopAt_cons (k : Nat) (l : List Nat) (n : Nat) (a b : Prop) : stopAt (k :: l) n a b = if k = n then a else stopAt l n a b := rfl
/-- 999 among the blocks: stop at drawn regions, too. -/
def stopDraw : List Nat → Bool
  | [] => false
  | n :: l => bif n == 999 then true else stopDraw l
def wpD (P : Program) (E : Env) (bs cs : List Nat) : ACode → (Exit → St → Prop) → St → Prop
  | .skip, Q, s => Q .normal s
  | .ret, Q, s => Q .ret s
  | .exit id, Q, s => Q (.exit id) s
  | .region false _ gs, Q, s => wpM P E Q gs s
  | .region true af gs, Q, s => bif quietOps gs && !stopDraw bs then wpQ P E Q gs s else AWp P E Q (.region true af gs) s
  | .seq x y, Q, s => wpD P E bs cs x (SeqC (wpD P E bs cs y) Q) s
  | .cond (.t n) x y, Q, s => stopAt cs n (AWp P E Q (.cond (.t n) x y) s) (match s.ev (.t n) with
    | .val (.bool b) => (b = true → wpD P E bs cs x Q s) ∧ (b = false → wpD P E bs cs y Q s)
    | _ => False)
  | .cond (.v v) x y, Q, s => AWp P E Q (.cond (.v v) x y) s
  | .block id x, Q, s => stopAt bs id (AWp P E Q (.block id x) s) (wpD P E bs cs x (Blk id Q) s)
  | .loop x, Q, s => AWp P E Q (.loop x) s
theorem AWp.ofD (bs cs : List Nat) {n : Nat} (hn : E.n = n) (hm : P.follows .mixedOrders = true) : ∀ {c : ACode} {Q : Exit → St → Prop} {s : St}, dstsC n c = true → wpD P E bs cs c Q s → AWp P E Q c s
  | .skip, Q, s, _, h => AWp.skip h
  | .ret, Q, s, _, h => AWp.ret h
  | .exit id, Q, s, _, h => AWp.exit h
  | .region false af gs, Q, s, hd, h => AWp.region (AWpL.ofM hn hd h)
  | .region true af gs, Q, s, hd, h => by
    unfold wpD at h
    cases hq : (quietOps gs && !stopDraw bs) with
    | true => rw [hq] at h; exact AWp.draw hm (AWpQ.of hn hd h)
    | false => rw [hq] at h; exact h
  | .seq x y, Q, s, hd, h => by
    simp only [dstsC, Bool.and_eq_true] at hd
    refine AWp.seq (AWp.mono ?_ (AWp.ofD bs cs hn hm hd.1 h))
    intro e s hq
    cases e with
    | normal => exact AWp.ofD bs cs hn hm hd.2 hq
    | _ => exact hq
  | .cond (.t k) x y, Q, s, hd, h => by
    simp only [dstsC, Bool.and_eq_true] at hd
    unfold wpD at h
    rcases stopAt_or h with h | h
    · exact h
    split at h
    · rename_i b hb
      exact AWp.cond hb (fun e => AWp.ofD bs cs hn hm hd.1 (h.1 e)) (fun e => AWp.ofD bs cs hn hm hd.2 (h.2 e))
    · exact h.elim
  | .cond (.v v) x y, Q, s, hd, h => h
  | .block id x, Q, s, hd, h => by
    unfold wpD at h
    rcases stopAt_or h with h | h
    · exact h
    · exact AWp.block (AWp.ofD bs cs hn hm hd h)
  | .loop x, Q, s, _, h => h
theorem wpD_skip (bs cs : List Nat) (Q : Exit → St → Prop) (s : St) : wpD P E bs cs .skip Q s = Q .normal s := by rw [wpD]
theorem wpD_ret (bs cs : List Nat) (Q : Exit → St → Prop) (s : St) : wpD P E bs cs .ret Q s = Q .ret s := by rw [wpD]
theorem wpD_exit (bs cs : List Nat) (id : Nat) (Q : Exit → St → Prop) (s : St) : wpD P E bs cs (.exit id) Q s = Q (.exit id) s := by rw [wpD]
theorem wpD_region (bs cs : List Nat) (af : List (List Nat)) (gs : List GOp) (Q : Exit → St → Prop) (s : St) : wpD P E bs cs (.region false af gs) Q s = wpM P E Q gs s := by rw [wpD]
theorem wpD_draw (bs cs : List Nat) (af : List (List Nat)) (gs : List GOp) (Q : Exit → St → Prop) (s : St) : wpD P E bs cs (.region true af gs) Q s = if (quietOps gs && !stopDraw bs) = true then wpQ P E Q gs s else AWp P E Q (.region true af gs) s := by
  rw [wpD]
  cases (quietOps gs && !stopDraw bs) <;> rfl
theorem wpD_seq (bs cs : List Nat) (x y : ACode) (Q : Exit → St → Prop) (s : St) : wpD P E bs cs (.seq x y) Q s = wpD P E bs cs x (SeqC (wpD P E bs cs y) Q) s := by rw [wpD]
theorem wpD_block (bs cs : List Nat) (id : Nat) (x : ACode) (Q : Exit → St → Prop) (s : St) : wpD P E bs cs (.block id x) Q s = stopAt bs id (AWp P E Q (.block id x) s) (wpD P E bs cs x (Blk id Q) s) := by rw [wpD]
theorem wpD_loop (bs cs : List Nat) (x : ACode) (Q : Exit → St → Prop) (s : St) : wpD P E bs cs (.loop x) Q s = AWp P E Q (.loop x) s := by rw [wpD]
theorem wpD_cond (bs cs : List Nat) (n : Nat) (x y : ACode) (Q : Exit → St → Prop) (s : St) : wpD P E bs cs (.cond (.t n) x y) Q s = stopAt cs n (AWp P E Q (.cond (.t n) x y) s) (match s.ev (.t n) with
    | .val (.bool b) => (b = true → wpD P E bs cs x Q s) ∧ (b = false → wpD P E bs cs y Q s)
    | _ => False) := by rw [wpD]
end

/-! ### Guarded calls -/
theorem borA_guard (k : Nat) (s : St) : ∀ x : AV, (borA (k + 1) s x).guard = x.guard
  | .hnd r off n kk ex => by
    unfold borA
    split <;> rfl
  | .ptr r i o => by
    unfold borA
    split <;> rfl
  | .fn f caps => by unfold borA; rfl
  | .agg cs => by unfold borA; rfl
  | .tup cs => by unfold borA; rfl
  | .opt c x => by unfold borA; rfl
  | .any => by unfold borA; rfl
  | .val v => by unfold borA; rfl
  | .imm .. => by unfold borA; rfl
  | .pim _ => by unfold borA; rfl
theorem Ent.strip {x : AV} (h : x.guard = true) : Ent x x.strip := fun w ok ρ v hr => by
  cases x with
  | opt c x =>
    unfold R at hr
    exact hr.1 h
  | _ => exact hr
theorem EntL.strips {k : Nat} {s : St} : ∀ {xs : List Opd}, (∀ x ∈ xs, (s.ev x).guard = true) → EntL (xs.map fun x => borA (k + 1) s (s.ev x)) (xs.map fun x => (borA (k + 1) s (s.ev x)).strip)
  | [], _ => trivial
  | x :: xs, h => ⟨Ent.strip (by rw [borA_guard]; exact h x List.mem_cons_self), EntL.strips fun y hy => h y (List.mem_cons_of_mem _ hy)⟩
theorem Ent.opt {y : AV} : Ent y (.opt true y) := fun w ok ρ v hr => by
  unfold R; exact ⟨fun _ => hr, fun h => (by cases h)⟩
theorem Ent.off {x y : AV} : Ent (.opt false x) (.opt false y) := fun w ok ρ v hr => by
  unfold R at hr ⊢; exact ⟨fun h => (by cases h), hr.2⟩
theorem weak_put {E : Env} {s : St} {d : Option Nat} {x y : AV} (h : Ent x y) : Weak E (s.putO d x) (s.putO d y) := fun a w ⟨ρ, ok, hr⟩ => by
  cases d with
  | none => exact ⟨ρ, ok, hr⟩
  | some t =>
    refine ⟨ρ, ok, hr.mem, fun m => ?_, hr.siz, hr.dfr, hr.kps, hr.bas, hr.ownr, hr.okr, hr.pin⟩
    have h1 := hr.tm m
    show R w ok ρ (look (putTm s.tm t y) m) _
    rw [look_put]
    have h2 : look (putTm s.tm t x) m = if m = t then x else look s.tm m := look_put _ _ _ _
    have h3 : R w ok ρ (look (putTm s.tm t x) m) (a.tmps.getD m undef) := h1
    rw [h2] at h3
    split
    · rename_i e; rw [if_pos e] at h3; exact h _ _ _ _ h3
    · rename_i e; rw [if_neg e] at h3; exact h3
/-- A guarded call whose result is known where it is carried out. -/
theorem AWpL.gcalle {P : Program} {E : Env} {Q : Exit → St → Prop} {s : St} {f : FuncId} {xs : List Opd} {dst : Option Nat} {t : Nat} {want b : Bool} {gs : List GOp} {y : AV} (hg : gdB (look s.tm t) want = some b)
    (hs : b = true → Spec P f [] (xs.map fun x => (borA 4 s (s.ev x)).strip) (Gives (· = y))) (hy : plainA y = true) (hd : dstOk E.n dst = true) (hb : b = true → allOb (borOb 4 s) (xs.map s.ev) ∧ allOb (fun x => x.guard = true) (xs.map s.ev))
    (h : AWpL P E Q gs (s.putO dst (.opt b y))) : AWpL P E Q (⟨dst, some (t, want), .call f xs⟩ :: gs) s := by
  cases b with
  | true =>
    obtain ⟨h1, h2⟩ := hb rfl
    exact AWpL.guardT hg (AWpL.calle ((hs rfl).args (EntL.strips fun x hx => allOb_mem h2 _ (List.mem_map_of_mem hx))) hy hd h1 (AWpL.weak (weak_put Ent.opt) h))
  | false => exact AWpL.guardF hd hg (AWpL.weak (weak_put Ent.off) h)
/-- A function that leaves nothing, its code not computed yet. -/
theorem Spec.givesW {P : Program} {f : FuncId} {n : Nat} {rs : List RV} {ac : ACode} (k : FnIs P f n rs ac) {args : List AV} {p : AV → Prop} {is : List Nat} (hl : Nat.ble args.length n = true) (hr : rsTm rs = some is)
    (h : ∀ E : Env, E.n = n → E.np = 0 → PinOk E [] → AWp P E (Ends is p) ac ⟨params 0 args, []⟩) : Spec P f [] args (Gives p) :=
  Spec.of k hl fun E hn hnp hp => AWp.mono (Ends.out hr hnp hp) (h E hn hnp hp)
theorem Spec.regsW {P : Program} {f : FuncId} {n np : Nat} {rs : List RV} {ac : ACode} (k : FnIs P f n rs ac) {rg0 : List Reg} {args : List AV} {Post : List Reg → AV → Prop} (hl : Nat.ble args.length n = true) (hnp : rg0.length = np)
    (h : ∀ E : Env, E.n = n → E.np = np → PinOk E rg0 → AWp P E (Retn E rs Post) ac ⟨params 0 args, rg0⟩) : Spec P f rg0 args Post :=
  Spec.of k hl fun E hn hp0 hp => h E hn (hp0.trans hnp) hp
theorem Spec.givesD {P : Program} {f : FuncId} {n : Nat} {rs : List RV} {ac : ACode} (k : FnIs P f n rs ac) (hm : P.follows .mixedOrders = true) {args : List AV} {p : AV → Prop} {is : List Nat} (hl : Nat.ble args.length n = true) (hr : rsTm rs = some is)
    (hd : dstsC n ac = true) (h : ∀ E : Env, E.n = n → E.np = 0 → PinOk E [] → wpD P E [] [] ac (Ends is p) ⟨params 0 args, []⟩) : Spec P f [] args (Gives p) :=
  Spec.of k hl fun E hn hnp hp => AWp.mono (Ends.out hr hnp hp) (AWp.ofD [] [] hn hm hd (h E hn hnp hp))
theorem Spec.regsD {P : Program} {f : FuncId} {n np : Nat} {rs : List RV} {ac : ACode} (k : FnIs P f n rs ac) (hm : P.follows .mixedOrders = true) {rg0 : List Reg} {args : List AV} {Post : List Reg → AV → Prop} (hl : Nat.ble args.length n = true) (hnp : rg0.length = np)
    (hd : dstsC n ac = true) (h : ∀ E : Env, E.n = n → E.np = np → PinOk E rg0 → wpD P E [] [] ac (Retn E rs Post) ⟨params 0 args, rg0⟩) : Spec P f rg0 args Post :=
  Spec.of k hl fun E hn hp0 hp => AWp.ofD [] [] hn hm hd (h E hn (hp0.trans hnp) hp)

/-! ### Calls in drawn regions -/
theorem Spec.post {P : Program} {f : FuncId} {rg0 : List Reg} {args : List AV} {Post Post' : List Reg → AV → Prop} (h : Spec P f rg0 args Post) (hp : ∀ rg x, Post rg x → Post' rg x) : Spec P f rg0 args Post' := fun w ρ ok vals hm ha => by
  refine (h w ρ ok vals hm ha).mono ?_
  rintro e w' ⟨rg, x, v, ρ', ok', h1, h2, h3⟩
  exact ⟨rg, x, v, ρ', ok', h1, hp _ _ h2, h3⟩
theorem AWpQ.weak {P : Program} {E : Env} {Q : Exit → St → Prop} {s s' : St} {gs : List GOp} (h : Weak E s s') (k : AWpQ P E Q gs s') : AWpQ P E Q gs s := fun ops l hl a w hr => k ops l hl a w (h a w hr)
theorem AWpQ.calle {P : Program} {E : Env} {Q : Exit → St → Prop} {s : St} {f : FuncId} {xs : List Opd} {dst : Option Nat} {gs : List GOp} {y : Value} (hs : Spec P f [] (xs.map fun x => borA 4 s (s.ev x)) (Gives (· = .val y)))
    (hd : dstOk E.n dst = true) (hb : allOb (borOb 4 s) (xs.map s.ev)) (h : AWpQ P E Q gs (s.putO dst (.val y))) : AWpQ P E Q (⟨dst, none, .call f xs⟩ :: gs) s :=
  AWpQ.callb (hs.post fun rg x hx => hx.2) hd hb h
theorem AWpQ.gcalle {P : Program} {E : Env} {Q : Exit → St → Prop} {s : St} {f : FuncId} {xs : List Opd} {dst : Option Nat} {t : Nat} {want b : Bool} {gs : List GOp} {y : Value} (hg : gdB (look s.tm t) want = some b)
    (hs : b = true → Spec P f [] (xs.map fun x => (borA 4 s (s.ev x)).strip) (Gives (· = .val y))) (hd : dstOk E.n dst = true) (hb : b = true → allOb (borOb 4 s) (xs.map s.ev) ∧ allOb (fun x => x.guard = true) (xs.map s.ev))
    (h : AWpQ P E Q gs (s.putO dst (.opt b (.val y)))) : AWpQ P E Q (⟨dst, some (t, want), .call f xs⟩ :: gs) s := by
  cases b with
  | true =>
    obtain ⟨h1, h2⟩ := hb rfl
    exact AWpQ.guardT hg (AWpQ.calle ((hs rfl).args (EntL.strips fun x hx => allOb_mem h2 _ (List.mem_map_of_mem hx))) hd h1 (AWpQ.weak (weak_put Ent.opt) h))
  | false => exact AWpQ.guardF hd hg (AWpQ.weak (weak_put Ent.off) h)
/-- A call that is lent nothing, in a drawn region. -/
theorem AOne.callA {P : Program} {E : Env} {s : St} {m : Bool} {f : FuncId} {xs : List Opd} {dst : Option Nat} {K : St → Prop} {args : List AV} {Post : List Reg → AV → Prop} (hs : Spec P f [] args Post) (ha : (xs.map fun x => renA [] (s.ev x)) = args)
    (hd : dstOk E.n dst = true) (h : ∀ rg x, Post rg x → K (retS s [] dst rg x)) : AOne P E m ⟨dst, none, .call f xs⟩ s K := fun ops o hg a w hrel Q => by
  subst ha
  obtain ⟨ρ, ok, hr⟩ := hrel
  obtain ⟨hc, hdst, hgd⟩ := gop_guard hg
  rcases hgd with ⟨hg0, _⟩ | ⟨_, _, _, _, _, hgd⟩
  case inr => cases hgd
  rw [if_pos (wanted_none hg0 _)]
  left
  obtain ⟨_, vals, hv, hrun⟩ := call_inv (a := a) (w := w) hc
  unfold Oper.wp
  rw [hrun]
  refine upon_enter hdst.symm ?_
  obtain ⟨hinj, hlt⟩ := piOk_inj (len := s.rg.length) (π := []) rfl
  have hav : RList w ok (pl [] ρ) (xs.map fun x => renA [] (s.ev x)) vals.toList := by rw [hv]; exact args_ren hr [] xs
  refine (hs w (pl [] ρ) ok vals (hr.mem.ren hinj hlt) hav).mono ?_
  rintro e w' ⟨rg, x, v, ρ', ok', rfl, hp, hm, hx, h1, h2, h3, h4⟩
  have hno : ∀ k, ¬ ∃ r0 p0, pl [] ρ r0 = some (some p0) ∧ p0.b = k := fun k ⟨r0, p0, h7, _⟩ => by simp [pl] at h7
  have hext : Ext w w' := ⟨h3.os, h3.tape, h3.output, h3.size, fun k hk => h3.block k hk (hno k)⟩
  exact ⟨v, rfl, fun _ => hext, _, h rg x hp, _, _, ret_core hr (π := []) rfl (fun r hr => by cases hr) hd hm hx h1 (Nat.zero_le _) h2 h3 fun r hb hlt' => by simp at hlt'⟩
end Go.Proofs.Ytoickofcmngdjaa.Aw

/- A logic of abstract states for walks: the question whether two arrays overlap. -/
set_option linter.unusedVariables false
set_option linter.unusedSimpArgs false
namespace Go.Proofs.Ytoickofcmngdjaa.Aw
open Go.RowKit

section
variable {P : Program} {E : Env} {Q : Exit → St → Prop} {s s' : St} {a : Act} {w : World} {ρ : Nat → Option (Option Place)} {ok : Nat → Prop}
/-- The function without a body that asks whether two slices overlap. -/
def OvlFn (P : Program) (f : FuncId) (sz : Nat) : Prop := ∃ (fn : Func) (tS tR e : TypeId), P.funcs[f]? = some fn ∧ (fn.name == "runtime.NumGoroutine") = false ∧ fn.body.isNone = true ∧ Extern.findNext fn = none ∧
  Extern.find fn = some (Extern.SlicesOverlaps.overlaps #[tS, tS] #[tR]) ∧ P.underlying tS = some (.slice e) ∧ (P.info? e).map (·.size) = some sz
theorem ext_inv {o : Oper} {f : FuncId} {xs : List Opd} (hc : comp P o = some (.bad (some f) xs)) : ∃ vals : Array Value, vals.toList = xs.map (Opd.cv a) ∧ (execOp a.eval o).run P w = (callFunc f vals).run P w := by
  unfold comp at hc
  cases h0 : comp0 P o with
  | some z =>
    rw [h0] at hc
    simp only [Option.getD_some, Option.some.injEq] at hc
    subst hc
    exfalso
    obtain ⟨dst, op, type, ps, after, guard⟩ := o
    cases op <;> simp only [comp0, Option.some.injEq, reduceCtorEq] at h0
    case call c =>
      obtain ⟨callee, args, argTypes⟩ := c
      dsimp only at h0
      cases callee with
      | invoke r m => simp only [reduceCtorEq] at h0
      | builtin b =>
        cases b <;> simp only [reduceCtorEq] at h0
        all_goals (repeat' (split at h0)) <;> simp only [Option.some.injEq, reduceCtorEq] at h0
      | value g =>
        cases g <;> simp only [Option.some.injEq, reduceCtorEq] at h0
        (repeat' (split at h0)) <;> simp only [Option.some.injEq, reduceCtorEq] at h0
    case makeFunc fn first caps =>
      cases fn <;> simp only [reduceCtorEq] at h0
      split at h0 <;> simp only [Option.some.injEq, reduceCtorEq] at h0
    all_goals (repeat' (split at h0)) <;> first | (simp only [Option.some.injEq, reduceCtorEq] at h0; done) | (simp only [Option.map_eq_some_iff, reduceCtorEq, and_false, exists_false] at h0; done) | skip
  | none =>
    rw [h0] at hc
    simp only [Option.getD_none, Option.some.injEq] at hc
    unfold badOf at hc
    obtain ⟨dst, op, type, ps, after, guard⟩ := o
    cases op <;> simp only [AOp.bad.injEq, reduceCtorEq, false_and] at hc
    case call c =>
      obtain ⟨callee, args, argTypes⟩ := c
      dsimp only at hc
      cases callee with
      | invoke r m => simp only [AOp.bad.injEq, reduceCtorEq, false_and] at hc
      | builtin b => cases b <;> simp only [AOp.bad.injEq, reduceCtorEq, false_and] at hc
      | value g =>
        cases g <;> simp only [AOp.bad.injEq, reduceCtorEq, false_and] at hc
        split at hc
        · split at hc
          · simp only [AOp.bad.injEq, Option.some.injEq] at hc
            obtain ⟨rfl, rfl⟩ := hc
            refine ⟨args.map a.eval, ?_, ?_⟩
            · simp only [Array.toList_map, List.map_map]
              refine List.map_congr_left fun x _ => ?_
              exact (Opd.cv_of a x).symm
            · simp [execOp, resolve, Act.eval, Deferred.ofValue, Sem.run_bind, Sem.run_pure, Result.andThen_ok, invoke]
          · simp only [AOp.bad.injEq, reduceCtorEq, false_and] at hc
        · simp only [AOp.bad.injEq, reduceCtorEq, false_and] at hc

/-- Two arrays of two regions do not overlap. -/
theorem AWpL.ovl {f : FuncId} {x y : Opd} {dst : Option Nat} {gs : List GOp} {sz : Nat} {r off n k r' off' n' k' : Nat} {ex ex' : Bool} {e e' : TypeId} {els els' : List (List AV)} {sz1 sz2 : Nat}
    (hf : OvlFn P f sz) (hx : s.ev x = .hnd r off n k ex) (hy : s.ev y = .hnd r' off' n' k' ex') (hne : r ≠ r') (hg : s.reg r = .arr e sz1 els) (hg' : s.reg r' = .arr e' sz2 els') (hz2 : sz2 ≠ 0) (h0 : 0 < n) (h0' : 0 < n') (hd : dstOk E.n dst = true)
    (h : AWpL P E Q gs (St.putO s dst (.val (.bool false)))) (he5 : e ≠ 5 := by decide) : AWpL P E Q (⟨dst, none, .bad (some f) [x, y]⟩ :: gs) s := fun ops l hl a w hrel => by
  obtain ⟨o, l', rfl, h1, h2⟩ := gops_cons hl
  obtain ⟨ρ, ok, hr⟩ := hrel
  obtain ⟨hcp, hdst, hgd⟩ := gop_guard h1
  rcases hgd with ⟨hg0, _⟩ | ⟨_, _, _, _, _, hgd⟩
  case inr => cases hgd
  unfold wpList
  rw [if_pos (wanted_none hg0 _)]
  left
  obtain ⟨vals, hvals, hrun⟩ := ext_inv (a := a) (w := w) hcp
  obtain ⟨vals⟩ := vals
  simp only [List.map_cons, List.map_nil] at hvals
  subst hvals
  obtain ⟨fn, tS, tR, te, f1, f2, f3, f4, f5, f6, f70⟩ := hf
  obtain ⟨i, f7, f8⟩ := Option.map_eq_some_iff.1 f70
  have hvx := hr.ev x
  have hvy := hr.ev y
  rw [hx] at hvx
  rw [hy] at hvy
  have key : (Extern.SlicesOverlaps.overlaps #[tS, tS] #[tR] #[x.cv a, y.cv a]).run P w = .ok (.bool false) w := by
    unfold R at hvx hvy
    rcases hvx with ⟨p, cc, ad, g1, g2, g3, g4, g5, g6, g7⟩ | ⟨g1, g2, g3, g4, g5⟩
    · rcases hvy with ⟨p', cc', ad', l1, l2, l3, l4, l5, l6, l7⟩ | ⟨l1, l2, l3, l4, l5⟩
      · rw [g2, l2]
        have hb : p.b ≠ p'.b := fun e0 => hne (hr.mem.inj r r' p p' g1 l1 e0)
        have q3 : ad = ⟨p.b, p.d + off * p.sz, none⟩ := by
          rcases g3 with g3 | g3
          · omega
          · exact g3
        have m3 : ad' = ⟨p'.b, p'.d + off' * p'.sz, none⟩ := by
          rcases l3 with l3 | l3
          · omega
          · exact l3
        rw [q3, m3]
        rcases hr.mem.reg r _ (reg_some hg (by simp)) with ⟨b, d, C, pre, vs, rest, q1, q2, _⟩ | ⟨_, q2⟩
        · rcases hr.mem.reg r' _ (reg_some hg' (by simp)) with ⟨b', d', C', pre', vs', rest', m1, m2, _⟩ | ⟨_, m2⟩
          · rw [q1] at g1
            obtain rfl := by simpa using g1
            rw [m1] at l1
            obtain rfl := by simpa using l1
            simp only at l6 hb
            obtain ⟨fr1, u1, u2⟩ := hpB_inv q2
            obtain ⟨fr2, u3, _⟩ := hpB_inv m2
            obtain rfl : fr1 = (0, 0) := u2.resolve_right fun h => he5 h.1
            have h1 : 1 * 1 ≤ (off' + cc') * sz2 := Nat.mul_le_mul (by omega) (by omega)
            exact Lib.run_overlaps_apart w tS tR te f6 sz (fun w => by rw [← f8]; exact run_sizeOf f7) _ _ n cc n' cc' hb e e' C.size C'.size (by simp [World.shape?, u1]) (by simp [World.shape?, u3]) (by omega) (by simp [World.frozen?, u1]) (by simp [World.frozen?, u1])
          · rw [m2] at l1; cases l1
        · rw [q2] at g1; cases g1
      · omega
    · omega
  unfold Oper.wp
  rw [hrun, run_callFunc_extern f1 f2 f3 f4 f5, key, Result.andThen_ok, Oper.upon_value]
  refine h ops l' h2 _ _ ⟨ρ, ok, ?_⟩
  rw [← hdst]
  refine hr.putO hd ?_
  unfold R; rfl
/-- No operation that has a rule of its own. -/
def noStops : List GOp → Bool
  | [] => true
  | ⟨_, _, op⟩ :: l => !stops op && noStops l
/-- Stop ahead of operation number k. -/
theorem AWpQ.upto {n : Nat} (hn : E.n = n) : ∀ (k : Nat) {gs : List GOp} {s : St}, dstsOk n (gs.take k) = true → noStops (gs.take k) = true → wpQ P E (fun e s' => e = .normal ∧ AWpQ P E Q (gs.drop k) s') (gs.take k) s → AWpQ P E Q gs s
  | 0, gs, s, _, _, h => by rw [List.take_zero] at h; unfold wpQ at h; exact h.2
  | k + 1, [], s, _, _, h => by rw [List.take_nil] at h; unfold wpQ at h; exact h.2
  | k + 1, ⟨d, none, op⟩ :: l, s, hd, hs, h => by
    simp only [List.take_succ_cons, dstsOk, noStops, Bool.and_eq_true, Bool.not_eq_true'] at hd hs
    rw [List.take_succ_cons] at h
    unfold wpQ at h
    rw [hs.1] at h
    simp only [cond_false] at h
    split at h
    · rename_i z s1 ob hst ha
      refine AWpQ.cons (s' := s1.putO d z) (ob := ob) hst ?_ h.1 (AWpQ.upto hn k hd.2 hs.2 h.2)
      simp only [stepOp, hn, hd.1, cond_true, ha]
    · exact h.elim
  | k + 1, ⟨d, some (t, want), op⟩ :: l, s, hd, hs, h => by
    simp only [List.take_succ_cons, dstsOk, noStops, Bool.and_eq_true, Bool.not_eq_true'] at hd hs
    rw [List.take_succ_cons] at h
    unfold wpQ at h
    rw [hs.1] at h
    simp only [cond_false] at h
    split at h
    · rename_i b hb
      split at h
      · rename_i z s1 ob hst ha
        refine AWpQ.cons (s' := s.putO d (.opt b z)) (ob := b = true → opOb s.ev op ∧ ob) hst ?_ h.1 (AWpQ.upto hn k hd.2 hs.2 h.2)
        simp only [stepOp, hn, hd.1, cond_true, hb, hst, ha]
      · exact h.elim
    · exact h.elim
/-- A call, the callee only reading what it is lent, and leaving arrays of its own. -/
theorem AWpL.calleB {f : FuncId} {xs : List Opd} {dst : Option Nat} {gs : List GOp} {args : List AV} {Post : List Reg → AV → Prop} (hs : Spec P f [] args Post) (ha : (xs.map fun x => borA 4 s (s.ev x)) = args)
    (hd : dstOk E.n dst = true) (hb : allOb (borOb 4 s) (xs.map s.ev))
    (h : ∀ rg x, Post rg x → (NI x ∧ ∀ g ∈ rg, NIR g) ∧ AWpL P E Q gs (retS s [] dst rg x)) : AWpL P E Q (⟨dst, none, .call f xs⟩ :: gs) s := by
  subst ha
  exact AWpL.callb hs hd hb h
/-- Regions dropped and numbered anew: those that the caller holds fast keep their numbers. -/
theorem weak_renP {E : Env} {s : St} (π : List Nat) (hp : ∀ r p, E.pin r = some p → π[r]? = some r) (h : renOk 0 s.rg.length π = true) : Weak E s (renS π s) := fun a w ⟨ρ, ok, hr⟩ => by
  simp only [renOk, Bool.and_eq_true] at h
  obtain ⟨⟨h1, h2⟩, h3⟩ := h
  have h1' : ∀ j r, π[j]? = some r → pos π r = some j := fun j r hj => by
    have hlt := (List.getElem?_eq_some_iff.1 hj).1
    have := List.all_eq_true.1 h1 j (List.mem_range.2 hlt)
    rw [List.getD_eq_getElem?_getD, hj] at this
    simpa using this
  have h2' : ∀ r ∈ π, r < s.rg.length := fun r hm => by
    have := List.all_eq_true.1 h2 r hm
    simpa [Nat.blt_eq] using this
  refine ⟨pl π ρ, ok, hr.mem.ren h1' h2', fun n => ?_, hr.siz, hr.dfr, hr.kps, hr.bas, fun r p hp => ?_, hr.okr, fun r p hp' => ?_⟩
  · show R w ok (pl π ρ) (look (renT π s.tm) n) _
    rw [look_ren]; exact R_ren _ _ (hr.tm n)
  · unfold pl at hp
    obtain ⟨b, _, h5⟩ := Option.bind_eq_some_iff.1 hp
    exact hr.ownr b p h5
  · unfold pl
    rw [hp r p hp']
    exact hr.pin r p hp'
/-- Region r is looked at from a later element on. -/
theorem RelM.rebase {w : World} {ρ : Nat → Option (Option Place)} {ok : Nat → Prop} {a : Act} (h : RelM E s a w ρ ok) {r : Nat} {p p' : Place} (hq : ρ r = some (some p)) (hnp : E.pin r = none) (hb : p'.b = p.b) {g' : Reg}
    (hg : RegOk w ok (fun k => if k = r then some (some p') else ρ k) r g') : RelM E (killS s r g') a w (fun k => if k = r then some (some p') else ρ k) ok := by
  have hrlt : r < s.rg.length := by
    rcases Nat.lt_or_ge r s.rg.length with h1 | h1
    · exact h1
    · rw [h.mem.out r h1] at hq; cases hq
  have hoth : ∀ {k q}, k ≠ r → ρ k = some (some q) → p.b ≠ q.b := fun {k q} hk hp e => hk (h.mem.inj _ _ _ _ hq hp e).symm
  have hkill : ∀ k j, killM r k = some j → (fun k => if k = r then some (some p') else ρ k) j = ρ k := fun k j hk => by
    obtain ⟨rfl, hne⟩ := killM_ne hk
    simp only [hne, if_false]
  have hval : ∀ x v, R w ok ρ x v → R w ok (fun k => if k = r then some (some p') else ρ k) (mapA (killM r) x) v := fun x v hx => R_map hkill _ _ hx
  refine ⟨⟨h.mem.okl, fun k k' q q' h1 h2 h3 => ?_, fun k q h1 => ?_, fun k g hk => ?_, fun k hk => ?_⟩, fun n => ?_, h.siz, h.dfr, h.kps, h.bas, fun k q h1 => ?_, h.okr, fun k q h1 => ?_⟩
  · by_cases e1 : k = r <;> by_cases e2 : k' = r <;> simp only [e1, e2, if_true, if_false] at h1 h2
    · rw [e1, e2]
    · simp only [Option.some.injEq] at h1; subst h1
      exact absurd (hb.symm.trans h3) (hoth e2 h2)
    · simp only [Option.some.injEq] at h2; subst h2
      exact absurd (hb.symm.trans h3.symm) (hoth e1 h1)
    · exact h.mem.inj k k' q q' h1 h2 h3
  · by_cases e1 : k = r <;> simp only [e1, if_true, if_false] at h1
    · simp only [Option.some.injEq] at h1; subst h1
      rw [hb]; exact h.mem.own r p hq
    · exact h.mem.own k q h1
  · by_cases e1 : k = r
    · subst e1
      rw [killS, List.getElem?_set] at hk
      simp only [if_true, List.length_map, hrlt] at hk
      obtain rfl : g' = g := by simpa using hk
      exact hg
    · rw [killS, List.getElem?_set_ne (Ne.symm e1), List.getElem?_map, Option.map_eq_some_iff] at hk
      obtain ⟨g0, hg0, rfl⟩ := hk
      have h0 := h.mem.reg k g0 hg0
      cases g0 with
      | dead => show (if k = r then _ else ρ k) = none; rw [if_neg e1]; exact h0
      | box e cs =>
        obtain ⟨b, C, h1, h2, h3⟩ := h0
        refine ⟨b, C, ?_, h2, RList_map hkill _ _ h3⟩
        show (if k = r then _ else ρ k) = _
        rw [if_neg e1, mapL_length]; exact h1
      | arr e sz els =>
        rcases h0 with ⟨b, d, C, pre, vs, rest, h1, h2, h3, h4, h5, h6⟩ | ⟨h1, h2⟩
        · exact .inl ⟨b, d, C, pre, vs, rest, by (show (if k = r then _ else ρ k) = _); rw [if_neg e1]; exact h1, h2, h3, h4, h5, h6⟩
        · exact .inr ⟨h1, by (show (if k = r then _ else ρ k) = _); rw [if_neg e1]; exact h2⟩
      | tab e cs =>
        rcases h0 with ⟨b, d, C, pre, vs, rest, h1, h2, h3, h4, h6⟩ | ⟨h1, h2⟩
        · exact .inl ⟨b, d, C, pre, vs, rest, by (show (if k = r then _ else ρ k) = _); rw [if_neg e1]; exact h1, h2, h3, h4, RList_map hkill _ _ h6⟩
        · exact .inr ⟨by rw [h1]; rfl, by (show (if k = r then _ else ρ k) = _); rw [if_neg e1]; exact h2⟩
  · have : s.rg.length ≤ k := by simpa [killS] using hk
    show (if k = r then _ else ρ k) = none
    rw [if_neg (by omega)]; exact h.mem.out k this
  · show R w ok _ (look (mapT (killM r) s.tm) n) _
    rw [look_map]; exact hval _ _ (h.tm n)
  · by_cases e1 : k = r <;> simp only [e1, if_true, if_false] at h1
    · simp only [Option.some.injEq] at h1; subst h1
      rw [hb]; exact h.ownr r p hq
    · exact h.ownr k q h1
  · by_cases e1 : k = r
    · subst e1; rw [hnp] at h1; cases h1
    · show (if k = r then _ else ρ k) = _
      rw [if_neg e1]; exact h.pin k q h1
/-- A slice that begins later: its region may begin there. -/
theorem weak_base (t r : Nat) {off n k sz : Nat} {ex : Bool} {e : TypeId} {els : List (List AV)} (ht : look s.tm t = .hnd r off n k ex) (hg : s.reg r = .arr e sz els) (hp : E.pin r = none) (h0 : 0 < off) (hin : off ≤ els.length) :
    Weak E s ((killS s r (.arr e sz (els.drop off))).put t (.hnd r 0 n k ex)) := fun a w ⟨ρ, ok, hr⟩ => by
  have hv := hr.tm t
  rw [ht] at hv
  unfold R at hv
  rcases hv with ⟨p, cc, ad, h7, hv, h8, h9, h10, h11, h12⟩ | ⟨_, _, h8, _⟩
  · rcases hr.mem.reg r _ (reg_some hg (by simp)) with ⟨b, d, C, pre, vs, rest, g1, g2, g3, g4, g5, g6⟩ | ⟨_, g2⟩
    · rw [g1] at h7
      obtain rfl := by simpa using h7
      dsimp only at h8 h11
      have hvl : vs.length = els.length * sz := by rw [RcList_length g6, flatten_length g5]
      have hle : off * sz ≤ els.length * sz := Nat.mul_le_mul_right _ hin
      have h1 := hr.rebase (p' := ⟨b, d + off * sz, sz, C.size⟩) g1 hp rfl (g' := .arr e sz (els.drop off)) (.inl ⟨b, d + off * sz, C, pre ++ vs.take (off * sz), vs.drop (off * sz), rest, if_pos rfl, g2, by
        rw [g3]; simp only [List.append_assoc]; rw [← List.append_assoc (vs.take _), List.take_append_drop], by
        rw [List.length_append, List.length_take, g4]; omega, fun el hm => g5 el (List.mem_of_mem_drop hm), by
        rw [drop_flatten off g5]; exact RcList_drop _ g6⟩)
      refine ⟨_, ok, h1.mem, fun m => ?_, h1.siz, h1.dfr, h1.kps, h1.bas, h1.ownr, h1.okr, h1.pin⟩
      show R w ok _ (look (putTm _ t _) m) _
      rw [look_put]
      by_cases e1 : m = t
      · rw [if_pos e1, e1]
        unfold R
        refine .inl ⟨⟨b, d + off * sz, sz, C.size⟩, cc, ad, if_pos rfl, hv, ?_, h9, h10, ?_, h12⟩
        · rcases h8 with h8 | h8
          · exact .inl h8
          · right; rw [h8]; simp
        · have : (off + cc) * sz = off * sz + cc * sz := Nat.add_mul _ _ _
          dsimp only
          rw [Nat.zero_add]; omega
      · rw [if_neg e1]; exact h1.tm m
    · rw [g2] at h7; injection h7 with h7; cases h7
  · omega
end
end Go.Proofs.Ytoickofcmngdjaa.Aw

/- A logic of abstract states for walks: a new array behind an empty slice, up to the greatest size that an array may have. -/
set_option linter.unusedVariables false
set_option linter.unusedSimpArgs false
namespace Go.Proofs.Ytoickofcmngdjaa.Aw
open Go.RowKit

section
variable {P : Program} {E : Env} {Q : Exit → St → Prop} {s s' : St} {a : Act} {w : World} {ρ : Nat → Option (Option Place)} {ok : Nat → Prop}
theorem run_appz0 {tx ty ty' e : TypeId} {i : TypeInfo} {z : Value} {kk : IntKind} (hx : P.underlying tx = some (.slice e)) (hy : P.underlying ty = some (.int .i64)) (hi : P.info? e = some i) (hz : i.zero = some z) (hpos : 0 < i.size)
    {A : Option Addr} {n k : Nat} {olds : List Value} (hold : Src w i.size n (.slice A n 0) olds) (hk : 0 < k) (hbytes : (n + k) * i.bytes ≤ 281474976710656) (h63 : n + k ≤ 9223372036854775807) :
    (Builtin.append_ #[tx, ty] ty' #[.slice A n 0, .int kk k]).run P w = .ok (.slice (some ⟨w.heap.size, 0, none⟩) (n + k) (grownCap w (n + k) 0 e))
      (w.drew.alloc (.cells (olds.toArray ++ Builtin.zeroCells z.cells k ++ Builtin.zeroCells z.cells (grownCap w (n + k) 0 e - (n + k))) e)) := by
  have hfo : (Builtin.firstCells i.size n (.slice A n 0)).run P w.drew = .ok olds.toArray w.drew := run_first hold (fun _ _ _ h => h)
  have hroom : ¬ (n + k ≤ 0) := by omega
  have hsz : k * i.size ≠ 0 := Nat.mul_ne_zero (by omega) (by omega)
  have hwrap : IntKind.i64.wrap (k : Int) = k := by rw [IntKind.wrap_i64]; omega
  have hb1 := Nat.mul_le_mul_right i.bytes (show k ≤ n + k by omega)
  have hb2 : ¬ (281474976710656 < (k : Int) * (i.bytes : Int)) := by rw [← Int.natCast_mul]; omega
  have hb3 : ¬ (281474976710656 < Builtin.nextslicecap (n + k) 0 * i.bytes) := by rw [nextslicecap_zero (by omega)]; omega
  have hb4 : ¬ (9223372036854775807 < ((n : Int) + (k : Int))) := by omega
  have hneg : ¬ ((k : Int) < 0) := by omega
  have hk0 : k ≠ 0 := by omega
  simp [Builtin.append_, run_underlying hx, run_underlying hy, sizeOf, typeInfo, zeroValue, hi, hz, asInt, asIntOf, hwrap, hroom, hneg, hsz, hk0, hb2, hb3, hb4, Question.forced, hfo, newRow, grownCap]
  try omega
/-- append of zeros to a slice of capacity 0. -/
theorem AWpL.appzZero {e : TypeId} {sz bytes : Nat} {z : Value} {x y : Opd} {dst : Option Nat} {gs : List GOp} {kk : IntKind} {m : Int} {els : List (List AV)} {ob' : Prop}
    (hx : srcEls s (s.ev x) = some (els, ob')) (hxs : srcSz s (s.ev x) sz = true) (hob' : ob') (hc : exactCap (s.ev x) = some 0) (hy : s.ev y = .val (.int kk m)) (hd : dstOk E.n dst = true) (hm : 0 < m)
    (hbytes : (els.length + m.toNat) * bytes ≤ 281474976710656) (h63 : els.length + m.toNat ≤ 9223372036854775807)
    (h : AWpL P E Q gs (St.putO { s with rg := s.rg ++ [.arr e sz (els ++ List.replicate m.toNat (z.cells.toList.map .val))] } dst (.hnd s.rg.length 0 (els.length + m.toNat) (els.length + m.toNat) false))) : AWpL P E Q (⟨dst, none, .appz e sz bytes z x y⟩ :: gs) s := fun ops l hl a w hrel => by
  obtain ⟨o, l', rfl, h1, h2⟩ := gops_cons hl
  obtain ⟨ρ, ok, hr⟩ := hrel
  obtain ⟨hcp, hdst, hgd⟩ := gop_guard h1
  rcases hgd with ⟨hg0, _⟩ | ⟨_, _, _, _, _, hgd⟩
  case inr => cases hgd
  unfold wpList
  rw [if_pos (wanted_none hg0 _)]
  left
  obtain ⟨tx, ty, i, hux, huy, hi, hz, hzs, rfl, rfl, hsz0, hrun⟩ := appz_inv (a := a) (w := w) hcp
  have hvx := hr.ev x
  obtain ⟨olds, hold, hol, hll⟩ := src_ok hr hvx hx hxs hob'
  have hvy := hr.ev y
  rw [hy] at hvy
  have hvy' := R_val hvy
  obtain ⟨A, n0, hv0⟩ := exactCap_ok hvx hc
  have hold' := hold
  obtain ⟨A', c', hv, hol', _⟩ := hold'
  rw [hv0] at hv
  injection hv with hA hn hcc
  subst hA hn hcc
  rw [hv0] at hold
  obtain ⟨k, rfl⟩ : ∃ k : Nat, m = (k : Int) := ⟨m.toNat, by omega⟩
  simp only [Int.toNat_natCast] at *
  have hrun' := run_appz0 (P := P) (ty' := o.type) (kk := kk) hux huy hi hz (by omega) hold (k := k) (by omega) hbytes h63
  have hge := grownCap_ge w (els.length + k) 0 e
  have hzl := zero_rows z.cells k
  have hol2 : olds.length = els.length * i.size := by rw [RcList_length hol, flatten_length hll]
  generalize hcap : grownCap w (els.length + k) 0 e = cap at hrun' hge
  have hext : Ext w (w.drew.alloc (.cells (olds.toArray ++ Builtin.zeroCells z.cells k ++ Builtin.zeroCells z.cells (cap - (els.length + k))) e)) := (Ext.drawn w (w.drawn + 1)).trans (Ext.push w.drew _)
  have hls : ∀ el ∈ els ++ List.replicate k (z.cells.toList.map .val), el.length = i.size := fun el hm => by
    rcases List.mem_append.1 hm with hm | hm
    · exact hll el hm
    · rw [List.eq_of_mem_replicate hm]; simp [hzs]
  obtain ⟨ρ', h8, h9⟩ := newarr_ok hr e i.size (els ++ List.replicate k (z.cells.toList.map .val)) (olds.toArray ++ Builtin.zeroCells z.cells k ++ Builtin.zeroCells z.cells (cap - (els.length + k)))
    (olds ++ (List.replicate k z.cells.toList).flatten) (Builtin.zeroCells z.cells (cap - (els.length + k))).toList hext (heap_push w.drew _) (by simp [hzl]) hls
    (by rw [List.flatten_append]; exact RcList_append hol (rep_ok _ _))
  unfold Oper.wp
  rw [hrun _ _ (by rw [hv0, hvy']; exact hrun'), Oper.upon_value]
  refine h ops l' h2 _ _ ⟨ρ', ok, ?_⟩
  rw [← hdst]
  refine h8.putO hd ?_
  unfold R
  refine .inl ⟨_, cap, _, h9, rfl, .inr (by simp), Nat.le_refl _, hge, ?_, fun h => by cases h⟩
  simp only [Array.size_append, List.size_toArray, hol2, size_zeroCells, hzs]
  rw [← Nat.add_mul, ← Nat.add_mul, Nat.zero_add, Nat.zero_add]
  exact Nat.mul_le_mul_right _ (by omega)
/-- copy onto nothing. -/
theorem AWpL.copy0 {sz : Nat} {x y : Opd} {dst : Option Nat} {gs : List GOp} {r off k : Nat} {ex : Bool} {ys : List (List AV)} {ob : Prop}
    (hx : s.ev x = .hnd r off 0 k ex) (hs : srcEls s (s.ev y) = some (ys, ob)) (hsz : srcSz s (s.ev y) sz = true) (hd : dstOk E.n dst = true) (hob : ob)
    (h : AWpL P E Q gs (St.putO s dst (.val (.int .i64 0)))) : AWpL P E Q (⟨dst, none, .copy sz x y⟩ :: gs) s := fun ops l hl a w hrel => by
  obtain ⟨o, l', rfl, h1, h2⟩ := gops_cons hl
  obtain ⟨ρ, ok, hr⟩ := hrel
  obtain ⟨hcp, hdst, hgd⟩ := gop_guard h1
  rcases hgd with ⟨hg0, _⟩ | ⟨_, _, _, _, _, hgd⟩
  case inr => cases hgd
  unfold wpList
  rw [if_pos (wanted_none hg0 _)]
  left
  obtain ⟨tx, ty, e1, e', i, hux, huy, hi, rfl, hrun⟩ := copy_inv (a := a) (w := w) hcp
  have hvx := hr.ev x
  rw [hx] at hvx
  obtain ⟨news, hnew, hnl, hyl⟩ := src_ok hr (hr.ev y) hs hsz hob
  obtain ⟨B, c', hB, hnl2, hB0, hBs⟩ := hnew
  have hv : ∃ A c, x.cv a = .slice A 0 c := by
    unfold R at hvx
    rcases hvx with ⟨p, cc, ad, h7, hv, _⟩ | ⟨_, hv, _⟩
    · exact ⟨_, _, hv⟩
    · exact ⟨_, _, hv⟩
  obtain ⟨A, c, hv⟩ := hv
  have hf : (Builtin.firstCells i.size 0 (y.cv a)).run P w = .ok #[] w := by
    rw [hB]
    have := run_first (P := P) (w := w) (w' := w) (sz := i.size) (n := 0) (v := .slice B 0 c') (news := [])
      ⟨B, c', rfl, by simp, fun hn => rfl, fun ad had j u hj => by simp at hj⟩ (fun _ _ _ h => h)
    cases B <;> exact this
  have hrun' : (Builtin.copy_ #[tx, ty] o.type #[x.cv a, y.cv a]).run P w = .ok (.int .i64 0) w := by
    rw [hv]
    rw [hB] at hf ⊢
    have h0 : Nat.min ys.length 0 = 0 := Nat.min_zero _
    cases A <;> simp [Builtin.copy_, run_underlying hux, run_sizeOf hi, Builtin.lenOf, h0, hf, goInt, storeCells]
  unfold Oper.wp
  rw [hrun _ w hrun', Oper.upon_value]
  refine h ops l' h2 _ _ ⟨ρ, ok, ?_⟩
  rw [← hdst]
  refine hr.putO hd ?_
  unfold R; rfl
end
end Go.Proofs.Ytoickofcmngdjaa.Aw

/- A logic of abstract states for walks: slices of slices. -/
set_option linter.unusedVariables false
set_option linter.unusedSimpArgs false
namespace Go.Proofs.Ytoickofcmngdjaa.Aw
section
variable {E : Env} {s : St}
theorem RList_of_flat {w : World} {ok : Nat → Prop} {ρ : Nat → Option (Option Place)} : ∀ {cs : List AV} {vs : List Value}, RcList w ok (cs.map fun x => [x]).flatten vs → RList w ok ρ cs vs
  | [], vs, h => by unfold RcList at h; unfold RList; simpa using h
  | x :: cs, vs, h => by
    have h' : RcList w ok (x :: (cs.map fun x => [x]).flatten) vs := h
    unfold RcList at h'
    obtain ⟨v, vs', e, h1, h2⟩ := h'
    unfold RList
    exact ⟨v, vs', e, R_of_Rc _ _ h1, RList_of_flat h2⟩
theorem flat_one : ∀ cs : List AV, (cs.map fun x => [x]).flatten = cs
  | [] => rfl
  | x :: cs => by rw [List.map_cons, List.flatten_cons, flat_one cs]; rfl
/-- An array of cells whose cells may hold anything. -/
theorem weak_tab (r : Nat) {e : TypeId} {els : List (List AV)} (cs : List AV) (hg : s.reg r = .arr e 1 els) (hcs : els = cs.map fun x => [x]) : Weak E s ⟨s.tm, s.rg.set r (.tab e cs)⟩ := fun a w ⟨ρ, ok, hr⟩ => by
  subst hcs
  have hgs := reg_some hg (by simp)
  have hrlt := (List.getElem?_eq_some_iff.1 hgs).1
  refine ⟨ρ, ok, ⟨hr.mem.okl, hr.mem.inj, hr.mem.own, fun k g hk => ?_, fun k hk => hr.mem.out k (by simpa using hk)⟩, hr.tm, hr.siz, hr.dfr, hr.kps, hr.bas, hr.ownr, hr.okr, hr.pin⟩
  by_cases e1 : k = r
  · subst e1
    rw [List.getElem?_set] at hk
    simp only [if_true, hrlt] at hk
    obtain rfl := Option.some.inj hk
    rcases hr.mem.reg k _ hgs with ⟨b, d, C, pre, vs, rest, h1, h2, h3, h4, h5, h6⟩ | ⟨h1, h2⟩
    · exact .inl ⟨b, d, C, pre, vs, rest, h1, h2, h3, h4, RList_of_flat h6⟩
    · exact .inr ⟨by simpa using h1, h2⟩
  · rw [List.getElem?_set_ne (Ne.symm e1)] at hk
    exact hr.mem.reg k g hk
/-- Cells that hold closed values. -/
theorem weak_untab (r : Nat) {e : TypeId} {cs : List AV} (hg : s.reg r = .tab e cs) (hsh : shutAll cs = true) : Weak E s ⟨s.tm, s.rg.set r (.arr e 1 (cs.map fun x => [x]))⟩ := fun a w ⟨ρ, ok, hr⟩ => by
  have hgs := reg_some hg (by simp)
  have hrlt := (List.getElem?_eq_some_iff.1 hgs).1
  refine ⟨ρ, ok, ⟨hr.mem.okl, hr.mem.inj, hr.mem.own, fun k g hk => ?_, fun k hk => hr.mem.out k (by simpa using hk)⟩, hr.tm, hr.siz, hr.dfr, hr.kps, hr.bas, hr.ownr, hr.okr, hr.pin⟩
  by_cases e1 : k = r
  · subst e1
    rw [List.getElem?_set] at hk
    simp only [if_true, hrlt] at hk
    obtain rfl := Option.some.inj hk
    rcases hr.mem.reg k _ hgs with ⟨b, d, C, pre, vs, rest, h1, h2, h3, h4, h6⟩ | ⟨h1, h2⟩
    · exact .inl ⟨b, d, C, pre, vs, rest, h1, h2, h3, h4, (fun el hm => by obtain ⟨x, _, rfl⟩ := List.mem_map.1 hm; rfl), by rw [flat_one]; exact RcList_of_R _ _ hsh h6⟩
    · exact .inr ⟨by rw [h1]; rfl, h2⟩
  · rw [List.getElem?_set_ne (Ne.symm e1)] at hk
    exact hr.mem.reg k g hk

/-! ### Rows -/
mutual
/-- Nothing but region 0 is looked at. -/
def lowA : AV → Bool
  | .hnd r _ _ _ _ => r == 0
  | .ptr r _ _ => r == 0
  | .fn _ caps => lowL caps
  | .agg cs => lowL cs
  | .tup cs => lowL cs
  | .opt _ x => lowA x
  | _ => true
def lowL : List AV → Bool
  | [] => true
  | x :: xs => lowA x && lowL xs
end
def lowT : List (Nat × AV) → Bool
  | [] => true
  | (_, x) :: l => lowA x && lowT l
mutual
theorem frzA_low (r sz : Nat) (els : List (List AV)) : ∀ x : AV, lowA x = true → frzA (r + 1) sz els x = x
  | .hnd k off n c ex, h => by
    unfold lowA at h; unfold frzA
    have : (k == r + 1) = false := by rw [beq_eq_false_iff_ne]; have := eq_of_beq h; omega
    rw [this]; rfl
  | .ptr k i o, h => by
    unfold lowA at h; unfold frzA
    have : (k == r + 1) = false := by rw [beq_eq_false_iff_ne]; have := eq_of_beq h; omega
    rw [this]; rfl
  | .fn f caps, h => by unfold lowA at h; unfold frzA; rw [frzL_low r sz els caps h]
  | .agg cs, h => by unfold lowA at h; unfold frzA; rw [frzL_low r sz els cs h]
  | .tup cs, h => by unfold lowA at h; unfold frzA; rw [frzL_low r sz els cs h]
  | .opt c x, h => by unfold lowA at h; unfold frzA; rw [frzA_low r sz els x h]
  | .any, _ => rfl
  | .val v, _ => rfl
  | .imm a b c d, _ => rfl
  | .pim cs, _ => rfl
theorem frzL_low (r sz : Nat) (els : List (List AV)) : ∀ xs : List AV, lowL xs = true → frzL (r + 1) sz els xs = xs
  | [], _ => rfl
  | x :: xs, h => by
    unfold lowL at h; simp only [Bool.and_eq_true] at h
    unfold frzL; rw [frzA_low r sz els x h.1, frzL_low r sz els xs h.2]
end
mutual
theorem frzO_low (r len : Nat) : ∀ x : AV, lowA x = true → frzO (r + 1) len x
  | .hnd k off n c ex, h => by
    unfold lowA at h; unfold frzO
    intro e; have := eq_of_beq h; omega
  | .ptr k i o, h => by unfold frzO; trivial
  | .fn f caps, h => by unfold lowA at h; unfold frzO; exact frzOL_low r len caps h
  | .agg cs, h => by unfold lowA at h; unfold frzO; exact frzOL_low r len cs h
  | .tup cs, h => by unfold lowA at h; unfold frzO; exact frzOL_low r len cs h
  | .opt c x, h => by unfold lowA at h; unfold frzO; exact frzO_low r len x h
  | .any, _ => by unfold frzO; trivial
  | .val v, _ => by unfold frzO; trivial
  | .imm a b c d, _ => by unfold frzO; trivial
  | .pim cs, _ => by unfold frzO; trivial
theorem frzOL_low (r len : Nat) : ∀ xs : List AV, lowL xs = true → frzOL (r + 1) len xs
  | [], _ => by unfold frzOL; trivial
  | x :: xs, h => by
    unfold lowL at h; simp only [Bool.and_eq_true] at h
    unfold frzOL; exact ⟨frzO_low r len x h.1, frzOL_low r len xs h.2⟩
end
theorem frzT_low (r sz : Nat) (els : List (List AV)) : ∀ l : List (Nat × AV), lowT l = true → frzT (r + 1) sz els l = l
  | [], _ => rfl
  | (i, x) :: l, h => by
    unfold lowT at h; simp only [Bool.and_eq_true] at h
    unfold frzT; rw [frzA_low r sz els x h.1, frzT_low r sz els l h.2]
theorem frzOT_low (r len : Nat) : ∀ l : List (Nat × AV), lowT l = true → frzOT (r + 1) len l
  | [], _ => by unfold frzOT; trivial
  | (i, x) :: l, h => by
    unfold lowT at h; simp only [Bool.and_eq_true] at h
    unfold frzOT; exact ⟨frzO_low r len x h.1, frzOT_low r len l h.2⟩
theorem frzL_map (r sz : Nat) (els : List (List AV)) : ∀ xs : List AV, frzL r sz els xs = xs.map (frzA r sz els)
  | [] => rfl
  | x :: xs => by unfold frzL; rw [frzL_map r sz els xs]; rfl
theorem frzOL_all {r len : Nat} : ∀ {xs : List AV}, (∀ x ∈ xs, frzO r len x) → frzOL r len xs
  | [], _ => by unfold frzOL; trivial
  | x :: xs, h => by unfold frzOL; exact ⟨h x List.mem_cons_self, frzOL_all fun y hy => h y (List.mem_cons_of_mem _ hy)⟩
theorem frzOR_plain {r len : Nat} : ∀ {l : List Reg}, (∀ g ∈ l, g = .dead ∨ ∃ e sz els, g = .arr e sz els) → frzOR r len l
  | [], _ => by unfold frzOR; trivial
  | g :: l, h => by
    have ih := frzOR_plain (r := r) (len := len) fun x hx => h x (List.mem_cons_of_mem _ hx)
    rcases h g List.mem_cons_self with rfl | ⟨e, sz, els, rfl⟩
    · exact ih
    · exact ih
/-- The first j rows are only read. -/
def rowsS (tm : List (Nat × AV)) (e e' : TypeId) (sz n m : Nat) (els : Nat → List (List AV)) (j : Nat) : St :=
  ⟨tm, .tab e ((List.range n).map fun i => if i < j then .imm none true sz (els i) else .hnd (i + 1) 0 m m true) :: (List.range n).map fun i => if i < j then .dead else .arr e' sz (els i)⟩
theorem rows_step {tm : List (Nat × AV)} {e e' : TypeId} {sz n m : Nat} {els : Nat → List (List AV)} {j : Nat} (hj : j < n) (hl : ∀ i, i < n → (els i).length = m) (hpin : E.pin (j + 1) = none) (hlow : lowT tm = true) :
    Weak E (rowsS tm e e' sz n m els j) (rowsS tm e e' sz n m els (j + 1)) := by
  have hg : (rowsS tm e e' sz n m els j).reg (j + 1) = .arr e' sz (els j) := by
    show List.getD _ _ _ = _
    simp only [rowsS, List.getD_cons_succ]
    rw [List.getD_eq_getElem?_getD, List.getElem?_map, List.getElem?_range hj]
    simp
  have h := weak_freeze (j + 1) hg hpin ⟨frzOT_low j _ tm hlow, by
    show frzOL _ _ _ ∧ frzOR _ _ _
    refine ⟨frzOL_all fun x hx => ?_, frzOR_plain fun g hg => ?_⟩
    · obtain ⟨i, hi, rfl⟩ := List.mem_map.1 hx
      split
      · unfold frzO; trivial
      · unfold frzO
        intro _
        rw [hl j hj]; omega
    · obtain ⟨i, hi, rfl⟩ := List.mem_map.1 hg
      split
      · exact .inl rfl
      · exact .inr ⟨_, _, _, rfl⟩⟩
  have he : frzS (j + 1) sz (els j) (rowsS tm e e' sz n m els j) = rowsS tm e e' sz n m els (j + 1) := by
    unfold frzS rowsS
    dsimp only
    rw [frzT_low j sz (els j) tm hlow]
    congr 1
    rw [List.map_cons, List.set_cons_succ]
    congr 1
    · show Reg.tab e (frzL _ _ _ _) = _
      rw [frzL_map, List.map_map]
      congr 1
      refine List.map_congr_left fun i hi => ?_
      show frzA (j + 1) sz (els j) (if i < j then AV.imm none true sz (els i) else AV.hnd (i + 1) 0 m m true) = _
      by_cases h1 : i < j
      · rw [if_pos h1, if_pos (by omega)]; rfl
      · rw [if_neg h1]
        unfold frzA
        by_cases h2 : i = j
        · subst h2
          rw [if_pos (by omega)]
          simp only [beq_self_eq_true, cond_true, Bool.and_self, List.drop_zero]
          rw [List.take_of_length_le (by rw [hl i hj]; exact Nat.le_refl _)]
        · rw [if_neg (by omega)]
          have : (i + 1 == j + 1) = false := by rw [beq_eq_false_iff_ne]; omega
          rw [this]; rfl
    · rw [List.map_map]
      refine List.ext_getElem (by simp) fun i h1 h2 => ?_
      have hi : i < n := by simpa using h2
      rw [List.getElem_set, List.getElem_map, List.getElem_map, List.getElem_range]
      by_cases h3 : j = i
      · subst h3; rw [if_pos rfl, if_pos (by omega)]
      · rw [if_neg h3]
        show frzR (j + 1) sz (els j) (if i < j then Reg.dead else Reg.arr e' sz (els i)) = _
        by_cases h4 : i < j
        · rw [if_pos h4, if_pos (by omega)]; rfl
        · rw [if_neg h4, if_neg (by omega)]; rfl
  rw [he] at h
  exact h
theorem rows_all {tm : List (Nat × AV)} {e e' : TypeId} {sz n m : Nat} {els : Nat → List (List AV)} (hl : ∀ i, i < n → (els i).length = m) (hpin : ∀ r, E.pin (r + 1) = none) (hlow : lowT tm = true) :
    ∀ j, j ≤ n → Weak E (rowsS tm e e' sz n m els 0) (rowsS tm e e' sz n m els j)
  | 0, _ => fun a w h => h
  | j + 1, hj => (rows_all hl hpin hlow j (by omega)).trans (rows_step (by omega) hl (hpin j) hlow)
/-- A slice of rows of the call's own: nobody writes the rows any more. -/
theorem weak_rows {tm : List (Nat × AV)} {e e' : TypeId} {sz n m : Nat} (els : Nat → List (List AV)) (hl : ∀ i, i < n → (els i).length = m) (hpin : ∀ r, E.pin (r + 1) = none) (hlow : lowT tm = true) :
    Weak E ⟨tm, .tab e ((List.range n).map fun i => .hnd (i + 1) 0 m m true) :: (List.range n).map fun i => .arr e' sz (els i)⟩
      ⟨tm, .arr e 1 ((List.range n).map fun i => [.imm none true sz (els i)]) :: List.replicate n .dead⟩ := by
  have h := rows_all (E := E) (e := e) (e' := e') (sz := sz) hl hpin hlow n (Nat.le_refl n)
  have h0 : rowsS tm e e' sz n m els 0 = ⟨tm, .tab e ((List.range n).map fun i => .hnd (i + 1) 0 m m true) :: (List.range n).map fun i => .arr e' sz (els i)⟩ := by
    unfold rowsS; simp
  have hn : rowsS tm e e' sz n m els n = ⟨tm, .tab e ((List.range n).map fun i => .imm none true sz (els i)) :: List.replicate n .dead⟩ := by
    unfold rowsS
    congr 2
    · congr 1
      exact List.map_congr_left fun i hi => if_pos (List.mem_range.1 hi)
    · refine List.ext_getElem (by simp) fun i h1 h2 => ?_
      have hi : i < n := by simpa using h2
      rw [List.getElem_map, List.getElem_range, if_pos hi, List.getElem_replicate]
  rw [h0, hn] at h
  refine h.trans ?_
  have hs : shutAll ((List.range n).map fun i => AV.imm none true sz (els i)) = true := by
    generalize List.range n = l
    induction l with
    | nil => rfl
    | cons i l ih => unfold List.map shutAll; rw [ih]; rfl
  have h2 := weak_untab (E := E) (s := ⟨tm, .tab e ((List.range n).map fun i => .imm none true sz (els i)) :: List.replicate n .dead⟩) 0 (e := e) rfl hs
  rw [List.map_map] at h2
  exact h2
end
end Go.Proofs.Ytoickofcmngdjaa.Aw

/- A logic of abstract states for walks: the last regions are dropped. -/
set_option linter.unusedVariables false
set_option linter.unusedSimpArgs false
namespace Go.Proofs.Ytoickofcmngdjaa.Aw
def cutM (n : Nat) : Nat → Option Nat := fun r => bif Nat.blt r n then some r else none
mutual
/-- Only regions below n are looked at. -/
def bdA (n : Nat) : AV → Bool
  | .hnd r _ _ _ _ => Nat.blt r n
  | .ptr r _ _ => Nat.blt r n
  | .fn _ caps => bdL n caps
  | .agg cs => bdL n cs
  | .tup cs => bdL n cs
  | .opt _ x => bdA n x
  | _ => true
def bdL (n : Nat) : List AV → Bool
  | [] => true
  | x :: xs => bdA n x && bdL n xs
end
def bdT (n : Nat) : List (Nat × AV) → Bool
  | [] => true
  | (_, x) :: l => bdA n x && bdT n l
def bdR (n : Nat) : Reg → Bool
  | .box _ cs => bdL n cs
  | .tab _ cs => bdL n cs
  | _ => true
mutual
theorem mapA_bd (n : Nat) : ∀ x : AV, bdA n x = true → mapA (cutM n) x = x
  | .hnd r off m k ex, h => by unfold bdA at h; unfold mapA cutM; rw [h]; rfl
  | .ptr r i o, h => by unfold bdA at h; unfold mapA cutM; rw [h]; rfl
  | .fn f caps, h => by unfold bdA at h; unfold mapA; rw [mapL_bd n caps h]
  | .agg cs, h => by unfold bdA at h; unfold mapA; rw [mapL_bd n cs h]
  | .tup cs, h => by unfold bdA at h; unfold mapA; rw [mapL_bd n cs h]
  | .opt c x, h => by unfold bdA at h; unfold mapA; rw [mapA_bd n x h]
  | .any, _ => rfl
  | .val v, _ => rfl
  | .imm a b c d, _ => rfl
  | .pim cs, _ => rfl
theorem mapL_bd (n : Nat) : ∀ xs : List AV, bdL n xs = true → mapL (cutM n) xs = xs
  | [], _ => rfl
  | x :: xs, h => by
    unfold bdL at h; simp only [Bool.and_eq_true] at h
    unfold mapL; rw [mapA_bd n x h.1, mapL_bd n xs h.2]
end
theorem mapT_bd (n : Nat) : ∀ l : List (Nat × AV), bdT n l = true → mapT (cutM n) l = l
  | [], _ => rfl
  | (i, x) :: l, h => by
    unfold bdT at h; simp only [Bool.and_eq_true] at h
    unfold mapT; rw [mapA_bd n x h.1, mapT_bd n l h.2]
theorem mapR_bd (n : Nat) : ∀ g : Reg, bdR n g = true → mapR (cutM n) g = g
  | .box e cs, h => by show Reg.box e (mapL _ cs) = _; rw [mapL_bd n cs h]
  | .tab e cs, h => by show Reg.tab e (mapL _ cs) = _; rw [mapL_bd n cs h]
  | .arr .., _ => rfl
  | .dead, _ => rfl
theorem bdL_all {n : Nat} : ∀ {xs : List AV}, (∀ x ∈ xs, bdA n x = true) → bdL n xs = true
  | [], _ => rfl
  | x :: xs, h => by unfold bdL; rw [h x List.mem_cons_self, bdL_all fun y hy => h y (List.mem_cons_of_mem _ hy)]; rfl
theorem weak_pop {E : Env} {tm : List (Nat × AV)} {rg J : List Reg} (hpin : ∀ r p, E.pin r = some p → r < rg.length) (ht : bdT rg.length tm = true) (hg : ∀ g ∈ rg, bdR rg.length g = true) : Weak E ⟨tm, rg ++ J⟩ ⟨tm, rg⟩ := fun a w ⟨ρ, ok, hr⟩ => by
  let ρ' : Nat → Option (Option Place) := fun r => bif Nat.blt r rg.length then ρ r else none
  have hlt : ∀ {r}, Nat.blt r rg.length = true ↔ r < rg.length := fun {r} => by rw [Nat.blt_eq]
  have hρ : ∀ {r q}, ρ' r = some q → r < rg.length ∧ ρ r = some q := fun {r q} h => by
    dsimp only [ρ'] at h
    cases hb : Nat.blt r rg.length with
    | true => rw [hb] at h; exact ⟨hlt.1 hb, h⟩
    | false => rw [hb] at h; cases h
  have hρ2 : ∀ {r}, r < rg.length → ρ' r = ρ r := fun {r} h => by
    dsimp only [ρ']; rw [hlt.2 h]; rfl
  have hm : ∀ r j, cutM rg.length r = some j → ρ' j = ρ r := fun r j h => by
    unfold cutM at h
    cases hb : Nat.blt r rg.length with
    | true => rw [hb] at h; cases h; exact hρ2 (hlt.1 hb)
    | false => rw [hb] at h; cases h
  refine ⟨ρ', ok, ⟨hr.mem.okl, fun r r' p p' h1 h2 h3 => hr.mem.inj r r' p p' (hρ h1).2 (hρ h2).2 h3, fun r p h => hr.mem.own r p (hρ h).2, fun r g hk => ?_, fun r hk => ?_⟩, fun n => ?_, hr.siz, hr.dfr, hr.kps, hr.bas, fun r p h => hr.ownr r p (hρ h).2, hr.okr, fun r p h => ?_⟩
  · have hrl := (List.getElem?_eq_some_iff.1 hk).1
    have h0 := hr.mem.reg r g (by rw [List.getElem?_append_left hrl]; exact hk)
    have h1 := RegOk_map (okB := ok) (ρN := ρ') (r := r) (fun _ h => h) hm (hρ2 hrl) h0
    rw [mapR_bd _ _ (hg g (List.mem_of_getElem? hk))] at h1
    exact h1
  · dsimp only [ρ']
    cases hb : Nat.blt r rg.length with
    | true => have := hlt.1 hb; have : rg.length ≤ r := hk; omega
    | false => rfl
  · have h1 := R_map hm _ _ (hr.tm n)
    have h2 : mapA (cutM rg.length) (look tm n) = look tm n := by rw [← look_map, mapT_bd _ _ ht]
    show R w ok ρ' (look tm n) _
    rw [← h2]; exact h1
  · rw [hρ2 (hpin r p h)]; exact hr.pin r p h
end Go.Proofs.Ytoickofcmngdjaa.Aw

/- A logic of abstract states for walks: a function that sorts an array in place. -/
set_option linter.unusedVariables false
set_option linter.unusedSimpArgs false
namespace Go.Proofs.Ytoickofcmngdjaa.Aw
open Go.RowKit

section
variable {P : Program} {E : Env} {Q : Exit → St → Prop} {s s' : St} {α : Type} [Inhabited α]
theorem RcList_plain {w : World} {ok : Nat → Prop} : ∀ {l vs : List Value}, RcList w ok (l.map AV.val) vs → vs = l
  | [], vs, h => by unfold RcList at h; exact h
  | x :: l, vs, h => by
    have h' : RcList w ok (.val x :: l.map AV.val) vs := h
    unfold RcList at h'
    obtain ⟨v, vs', rfl, h1, h2⟩ := h'
    unfold Rc at h1
    rw [h1, RcList_plain h2]
omit [Inhabited α] in
theorem flat_enc (enc : α → Value) : ∀ l : List α, (l.map fun a => [AV.val (enc a)]).flatten = (l.map enc).map AV.val
  | [] => rfl
  | x :: l => by rw [List.map_cons, List.flatten_cons, flat_enc enc l]; rfl
/-- A call that sorts an array of the call's own. -/
theorem AWpL.sort {enc : α → Value} {srt : List α → List α} {f : FuncId} {x : Opd} {dst : Option Nat} {gs : List GOp} {r n k : Nat} {ex : Bool} {e : TypeId} (l : List α)
    (hlen : (srt l).length = l.length)
    (hf : ∀ blk off cap w, Sort.Holds enc w blk off l.toArray → blk < w.heap.size → l.length < 4611686018427387904 → Calls P f #[.slice (some ⟨blk, off, none⟩) l.length cap] w fun e w' =>
      e = .returned (.tuple #[]) ∧ ∃ n os, w' = Sort.grow (Sort.putRow enc (Sort.ahead w n) blk off (srt l).toArray) os)
    (hnil : ∀ p cap w, Calls P f #[.slice p 0 cap] w fun e w' => e = .returned (.tuple #[]) ∧ w' = w)
    (hx : s.ev x = .hnd r 0 n k ex) (hg : s.reg r = .arr e 1 (l.map fun a => [.val (enc a)])) (hn : n = l.length) (hd : dstOk E.n dst = true) (hl : l.length < 4611686018427387904)
    (h : AWpL P E Q gs (St.putO { s with rg := s.rg.set r (.arr e 1 ((srt l).map fun a => [.val (enc a)])) } dst (.val (.tuple #[])))) (he5 : e ≠ 5 := by decide) : AWpL P E Q (⟨dst, none, .call f [x]⟩ :: gs) s := fun ops l' hl' a w hrel => by
  subst hn
  obtain ⟨o, l2, rfl, h1, h2⟩ := gops_cons hl'
  obtain ⟨ρ, ok, hr⟩ := hrel
  obtain ⟨hc, hdst, hgd⟩ := gop_guard h1
  rcases hgd with ⟨hg0, _⟩ | ⟨_, _, _, _, _, hgd⟩
  case inr => cases hgd
  unfold wpList
  rw [if_pos (wanted_none hg0 _)]
  left
  obtain ⟨_, vals, hv, hrun⟩ := call_inv (a := a) (w := w) hc
  unfold Oper.wp
  rw [hrun]
  refine upon_enter hdst.symm ?_
  obtain ⟨vals⟩ := vals
  simp only [List.map_cons, List.map_nil] at hv
  subst hv
  have hvx := hr.ev x
  rw [hx] at hvx
  have hgs := reg_some hg (by simp)
  unfold R at hvx
  have hz : l.length = 0 → srt l = l := fun h0 => by
    rw [List.eq_nil_of_length_eq_zero h0] at hlen ⊢
    exact List.eq_nil_of_length_eq_zero hlen
  suffices hcalls : Calls P f #[x.cv a] w fun e' w' => e' = .returned (.tuple #[]) ∧ RelM E { s with rg := s.rg.set r (.arr e 1 ((srt l).map fun a => [.val (enc a)])) } a w' ρ ok by
    refine hcalls.mono fun e' w' ⟨he, hr'⟩ => ?_
    subst he
    refine ⟨_, rfl, h ops l2 h2 _ _ ⟨ρ, ok, ?_⟩⟩
    exact hr'.putO hd (by unfold R; rfl)
  have hnone : ∀ q cap, x.cv a = .slice q 0 cap → l.length = 0 → Calls P f #[x.cv a] w fun e' w' => e' = .returned (.tuple #[]) ∧ RelM E { s with rg := s.rg.set r (.arr e 1 ((srt l).map fun a => [.val (enc a)])) } a w' ρ ok := fun q cap hq h0 => by
    rw [hq]
    refine (hnil q cap w).mono fun e' w' ⟨he, hw⟩ => ?_
    subst he hw
    refine ⟨rfl, ?_⟩
    have hsame : { s with rg := s.rg.set r (.arr e 1 ((srt l).map fun a => [.val (enc a)])) } = s := by
      rw [hz h0, ← hg]
      have hrlt := (List.getElem?_eq_some_iff.1 hgs).1
      have : s.rg.set r (s.reg r) = s.rg := by
        refine List.ext_getElem (by simp) fun i g1 g2 => ?_
        rw [List.getElem_set]
        by_cases e1 : r = i
        · subst e1
          rw [if_pos rfl]
          show s.rg.getD r .dead = _
          rw [List.getD_eq_getElem?_getD, List.getElem?_eq_getElem hrlt]; rfl
        · rw [if_neg e1]
      show (⟨s.tm, s.rg.set r (s.reg r)⟩ : St) = s
      rw [this]
    rw [hsame]
    exact hr
  rcases hvx with ⟨p, cc, ad, g1, g2, g3, g4, g5, g6, g7⟩ | ⟨g1, g2, g3, g4, g5⟩
  · rcases Nat.eq_zero_or_pos l.length with h0 | h0
    · exact hnone (some ad) cc (by rw [g2, h0]) h0
    have had : ad = ⟨p.b, p.d, none⟩ := by
      rcases g3 with g3 | g3
      · omega
      · rw [g3]; simp
    subst had
    rcases hr.mem.reg r _ hgs with ⟨b, d, C, pre, vs, rest, q1, q2, q3, q4, q5, q6⟩ | ⟨_, q2⟩
    case inr => rw [q2] at g1; cases g1
    obtain ⟨fr0, q2', hfr0⟩ := hpB_inv q2
    obtain rfl : fr0 = (0, 0) := hfr0.resolve_right fun h => he5 h.1
    rw [q1] at g1
    obtain rfl := by simpa using g1
    rw [flat_enc] at q6
    obtain rfl := RcList_plain q6
    have hCs : C.size = d + (l.length + rest.length) := by
      have := congrArg List.length q3
      simp [q4] at this; omega
    have hCget : ∀ j, j < l.length → C[d + j]? = some (enc l.toArray[j]!) := fun j hj => by
      rw [← Array.getElem?_toList, q3, List.getElem?_append_right (by omega), q4, Nat.add_sub_cancel_left, List.getElem?_append_left (by simpa using hj), List.getElem?_map, List.getElem?_eq_getElem hj]
      simp [hj]
    have hholds : Sort.Holds enc w b d l.toArray := fun j hj => by
      have hj' : j < l.length := by simpa using hj
      refine ⟨?_, by simp [World.frozen?, q2']⟩
      rw [cell_of q2]
      exact hCget j hj'
    rw [g2]
    have hown := hr.mem.own r _ q1
    refine (hf b d cc w hholds hown.1 hl).mono ?_
    rintro e' w' ⟨rfl, n, os, rfl⟩
    refine ⟨rfl, ?_⟩
    have hheap : ∀ k, (Sort.putRow enc (Sort.ahead w n) b d (srt l).toArray).heap[k]? = if k = b then some (.cells (Sort.putCells enc d (srt l).toArray C) e (0, 0)) else w.heap[k]? := fun k => by
      show (w.heap.modify b (Sort.onCells _))[k]? = _
      rw [Array.getElem?_modify]
      by_cases e1 : b = k
      · subst e1; rw [if_pos rfl, if_pos rfl, q2']; rfl
      · rw [if_neg e1, if_neg (Ne.symm e1)]
    have hsz : (Sort.putRow enc (Sort.ahead w n) b d (srt l).toArray).heap.size = w.heap.size := by rw [Sort.size_putRow]; rfl
    have hrw : RelM E { s with rg := s.rg.set r (.arr e 1 ((srt l).map fun a => [.val (enc a)])) } a (Sort.putRow enc (Sort.ahead w n) b d (srt l).toArray) ρ ok := by
      refine hr.write q1 hsz rfl rfl rfl (fun k hk => by rw [hheap, if_neg hk]) (.inl ⟨b, d, Sort.putCells enc d (srt l).toArray C, pre, (srt l).map enc, rest, ?_, ?_, ?_, q4, ?_, ?_⟩)
      · rw [q1]; simp [Sort.putCells]
      · exact hpB_of (by rw [hheap, if_pos rfl])
      · apply List.ext_getElem?
        intro k
        rw [Array.getElem?_toList]
        simp only [Sort.putCells, Array.getElem?_mapIdx, List.size_toArray]
        rw [← Array.getElem?_toList, q3]
        have hap : ∀ (m t : List Value), m.length = l.length → (pre ++ (m ++ t))[k]? = if k < d then pre[k]? else if k - d < l.length then m[k - d]? else t[k - d - l.length]? := fun m t hm => by
          rcases Nat.lt_or_ge k d with hk | hk
          · rw [if_pos hk, List.getElem?_append_left (by omega)]
          · rw [if_neg (by omega), List.getElem?_append_right (by omega), q4]
            rcases Nat.lt_or_ge (k - d) l.length with hk2 | hk2
            · rw [if_pos hk2, List.getElem?_append_left (by omega)]
            · rw [if_neg (by omega), List.getElem?_append_right (by omega), hm]
        rw [hap _ rest (by simp), hap _ rest (by simp [hlen])]
        rcases Nat.lt_or_ge k d with hk | hk
        · rw [if_pos hk, if_pos hk]
          cases pre[k]? with
          | none => rfl
          | some y => simp only [Option.map_some]; rw [if_neg (by omega)]
        · rw [if_neg (show ¬ k < d by omega), if_neg (show ¬ k < d by omega)]
          rcases Nat.lt_or_ge (k - d) l.length with hk2 | hk2
          · rw [if_pos hk2, if_pos hk2, List.getElem?_map, List.getElem?_eq_getElem hk2, List.getElem?_map, List.getElem?_eq_getElem (by omega)]
            simp only [Option.map_some]
            rw [if_pos (by omega)]
            simp [show k - d < (srt l).length by omega]
          · rw [if_neg (show ¬ k - d < l.length by omega), if_neg (show ¬ k - d < l.length by omega)]
            cases rest[k - d - l.length]? with
            | none => rfl
            | some y => simp only [Option.map_some]; rw [if_neg (by omega)]
      · intro el hm; obtain ⟨y, _, rfl⟩ := List.mem_map.1 hm; rfl
      · rw [flat_enc]; exact cvals_ok _
    have hext : Ext (Sort.putRow enc (Sort.ahead w n) b d (srt l).toArray) (Sort.grow (Sort.putRow enc (Sort.ahead w n) b d (srt l).toArray) os) :=
      ⟨rfl, rfl, rfl, by rw [Sort.size_grow]; omega, fun k hk => Sort.heap_grow_old _ _ hk⟩
    exact hrw.ext hext
  · exact hnone none 0 (by rw [g2]) g4
end
end Go.Proofs.Ytoickofcmngdjaa.Aw

/- A logic of abstract states for walks: an array that is made with more room than elements. -/
set_option linter.unusedVariables false
set_option linter.unusedSimpArgs false
namespace Go.Proofs.Ytoickofcmngdjaa.Aw
open Go.RowKit

section
variable {P : Program} {E : Env} {Q : Exit → St → Prop} {s s' : St} {a : Act} {w : World} {ρ : Nat → Option (Option Place)} {ok : Nat → Prop}
theorem mksl_inv {o : Oper} {e : TypeId} {sz bytes : Nat} {z : Value} {l c : Opd} (hc : comp P o = some (.mksl e sz bytes z l c)) :
    ∃ ty i, P.underlying ty = some (.slice e) ∧ P.info? e = some i ∧ i.zero = some z ∧ z.cells.size = i.size ∧ i.size = sz ∧ i.bytes = bytes ∧ sz ≠ 0 ∧
      execOp a.eval o = (do pure (Next.value (← Instr.makeSlice ty (l.cv a) (c.cv a))) : Sem Next) := by
  replace hc := comp0_of hc (by simp)
  obtain ⟨dst, op, type, ps, after, guard⟩ := o
  cases op <;> simp only [comp0, Option.some.injEq, reduceCtorEq] at hc
  case makeSlice ty l' c' =>
    split at hc <;> first | (cases hc; done) | skip
    rename_i e' hd
    split at hc <;> first | (cases hc; done) | skip
    rename_i i hi
    split at hc <;> first | (cases hc; done) | skip
    rename_i zv hz
    split at hc <;> first | (cases hc; done) | skip
    rename_i hcond
    simp only [Option.some.injEq, AOp.mksl.injEq] at hc
    obtain ⟨rfl, rfl, rfl, rfl, rfl, rfl⟩ := hc
    refine ⟨ty, i, hd, hi, hz, hcond.1, rfl, rfl, hcond.2, ?_⟩
    rw [Opd.cv_of, Opd.cv_of]
    rfl
  case makeFunc fn first caps =>
    cases fn <;> simp only [reduceCtorEq] at hc
    split at hc <;> simp only [Option.some.injEq, reduceCtorEq] at hc
  all_goals (repeat' (split at hc)) <;> first | (simp only [Option.some.injEq, reduceCtorEq] at hc; done) | (simp only [Option.map_eq_some_iff, reduceCtorEq, and_false, exists_false] at hc; done) | skip

/-- An array of m zeros with room for n elements. -/
theorem AWpL.mkz {e : TypeId} {sz bytes : Nat} {z : Value} {l c : Opd} {dst : Option Nat} {gs : List GOp} {m n : Nat}
    (hl : s.ev l = .val (.int .i64 m)) (hc : s.ev c = .val (.int .i64 n)) (hd : dstOk E.n dst = true) (hmn : m ≤ n) (hb : (n : Int) * bytes ≤ 281474976710656) (h63 : (n : Int) ≤ 9223372036854775807)
    (h : AWpL P E Q gs (St.putO { s with rg := s.rg ++ [.arr e sz (List.replicate m (z.cells.toList.map .val))] } dst (.hnd s.rg.length 0 m n true))) :
    AWpL P E Q (⟨dst, none, .mksl e sz bytes z l c⟩ :: gs) s := fun ops l' hl' a w hrel => by
  obtain ⟨o, l2, rfl, h1, h2⟩ := gops_cons hl'
  obtain ⟨ρ, ok, hr⟩ := hrel
  obtain ⟨hcp, hdst, hgd⟩ := gop_guard h1
  rcases hgd with ⟨hg0, _⟩ | ⟨_, _, _, _, _, hgd⟩
  case inr => cases hgd
  unfold wpList
  rw [if_pos (wanted_none hg0 _)]
  left
  obtain ⟨ty, i, hty, hi, hz, hzs, rfl, rfl, hs0, hrun⟩ := mksl_inv (a := a) hcp
  have hvl := hr.ev l
  have hvc := hr.ev c
  rw [hl] at hvl; rw [hc] at hvc
  have h5 := run_make (P := P) w ty e i z hty hi hz .i64 .i64 (m : Int) (n : Int) (Int.natCast_nonneg _) (Int.ofNat_le.2 hmn) (by rw [Int.mul_comm]; exact hb) h63
  have hrows := made_rows z.cells i.size hzs n
  obtain ⟨ρ', q1, q2⟩ := newarr_ok hr e i.size (List.replicate m (z.cells.toList.map .val)) (madeCells z.cells (n * i.size)) (List.replicate m z.cells.toList).flatten (List.replicate (n - m) z.cells.toList).flatten (Ext.push w _) (heap_push w _) (by
    rw [hrows, ← List.flatten_append, List.replicate_append_replicate, Nat.add_sub_cancel' hmn]) (fun el hm => by
    rw [List.eq_of_mem_replicate hm]; simp [hzs]) (rep_ok _ _)
  unfold Oper.wp
  rw [hrun, R_val hvl, R_val hvc, run_value h5, Oper.upon_value]
  refine h ops l2 h2 _ _ ⟨ρ', ok, ?_⟩
  rw [← hdst]
  refine q1.putO hd ?_
  unfold R
  exact .inl ⟨_, n, _, q2, rfl, .inr (by simp), hmn, Nat.le_refl _, by simp [size_madeCells], fun _ => rfl⟩
theorem slca_inv {o : Oper} {n sz : Nat} {x : Opd} (hc : comp P o = some (.slca n sz x)) :
    ∃ e i, P.info? e = some i ∧ i.size = sz ∧ ∀ (b : Nat) (w : World), x.cv a = .pointer (some ⟨b, 0, none⟩) → (execOp a.eval o).run P w = .ok (.value (.slice (some ⟨b, 0, none⟩) n n)) w := by
  replace hc := comp0_of hc (by simp)
  obtain ⟨dst, op, type, ps, after, guard⟩ := o
  cases op <;> simp only [comp0, Option.some.injEq, reduceCtorEq] at hc
  case slice ty x' lo hi mx =>
    split at hc <;> first | (cases hc; done) | skip
    · (repeat' (split at hc)) <;> simp only [Option.some.injEq, reduceCtorEq] at hc
    · (repeat' (split at hc)) <;> simp only [Option.some.injEq, reduceCtorEq] at hc
    · rename_i ar hty
      split at hc
      · (repeat' (split at hc)) <;> simp only [Option.some.injEq, reduceCtorEq] at hc
      rename_i hno
      split at hc <;> first | (cases hc; done) | skip
      rename_i n' e har
      split at hc <;> first | (cases hc; done) | skip
      rename_i i hi'
      simp only [Option.some.injEq, AOp.slca.injEq] at hc
      obtain ⟨rfl, rfl, rfl⟩ := hc
      refine ⟨e, i, hi', rfl, fun b w hx => ?_⟩
      rw [Opd.cv_of] at hx
      cases lo <;> first | (simp at hno; done) | skip
      cases hi <;> first | (simp at hno; done) | skip
      cases mx <;> first | (simp at hno; done) | skip
      simp only [execOp, hx, Option.map_none, Instr.sliceAt, Sem.run_bind, run_underlying hty, Result.andThen_ok, Instr.slice, asAddr, Sem.run_pure, run_underlying har, Instr.sliceBounds, run_sizeOf hi']
      simp [add_plain]
    · rename_i n' e hty
      split at hc
      · (repeat' (split at hc)) <;> simp only [Option.some.injEq, reduceCtorEq] at hc
      rename_i hno
      split at hc <;> first | (cases hc; done) | skip
      rename_i i hi'
      simp only [Option.some.injEq, AOp.slca.injEq] at hc
      obtain ⟨rfl, rfl, rfl⟩ := hc
      refine ⟨e, i, hi', rfl, fun b w hx => ?_⟩
      rw [Opd.cv_of] at hx
      cases lo <;> first | (simp at hno; done) | skip
      cases hi <;> first | (simp at hno; done) | skip
      cases mx <;> first | (simp at hno; done) | skip
      simp only [execOp, hx, Option.map_none, Instr.sliceAt, Sem.run_bind, run_underlying hty, Result.andThen_ok, Instr.sureAddr, Sem.run_pure, Instr.sliceBounds, run_sizeOf hi']
      simp [add_plain]
  case makeFunc fn first caps =>
    cases fn <;> simp only [reduceCtorEq] at hc
    split at hc <;> simp only [Option.some.injEq, reduceCtorEq] at hc
  all_goals (repeat' (split at hc)) <;> first | (simp only [Option.some.injEq, reduceCtorEq] at hc; done) | (simp only [Option.map_eq_some_iff, reduceCtorEq, and_false, exists_false] at hc; done) | skip
theorem slcl_inv {o : Oper} {n sz : Nat} {x lo : Opd} (hc : comp P o = some (.slcl n sz x lo)) :
    ∃ e i, P.info? e = some i ∧ i.size = sz ∧ ∀ (b k : Nat) (w : World), k ≤ n → x.cv a = .pointer (some ⟨b, 0, none⟩) → lo.cv a = .int .i64 k → ∃ ad, (k < n → ad = ⟨b, k * sz, none⟩) ∧ (execOp a.eval o).run P w = .ok (.value (.slice (some ad) (n - k) (n - k))) w := by
  replace hc := comp0_of hc (by simp)
  obtain ⟨dst, op, type, ps, after, guard⟩ := o
  have fin : ∀ (b k size : Nat), k ≤ n → (k < n → (if n = k then (⟨b, 0, none⟩ : Addr) else Addr.add ⟨b, 0, none⟩ (k * size)) = ⟨b, k * size, none⟩) := fun b k size hk h => by
    rw [if_neg (by omega)]
    simp [add_plain]
  cases op <;> simp only [comp0, Option.some.injEq, reduceCtorEq] at hc
  case slice ty x' lo' hi mx =>
    split at hc <;> first | (cases hc; done) | skip
    · (repeat' (split at hc)) <;> simp only [Option.some.injEq, reduceCtorEq] at hc
    · (repeat' (split at hc)) <;> simp only [Option.some.injEq, reduceCtorEq] at hc
    · rename_i ar hty
      split at hc
      case isFalse => (repeat' (split at hc)) <;> simp only [Option.some.injEq, reduceCtorEq] at hc
      split at hc <;> first | (cases hc; done) | skip
      rename_i hno
      split at hc <;> first | (cases hc; done) | skip
      rename_i n' e har hcond
      split at hc <;> first | (cases hc; done) | skip
      rename_i i hi'
      simp only [Option.some.injEq, AOp.slcl.injEq] at hc
      obtain ⟨rfl, rfl, rfl, rfl⟩ := hc
      refine ⟨e, i, hi', rfl, fun b k w hk hx hl => ?_⟩
      rw [Opd.cv_of] at hx hl
      cases hi <;> first | (simp at hno; done) | skip
      cases mx <;> first | (simp at hno; done) | skip
      refine ⟨_, fin b k i.size hk, ?_⟩
      have hk2 : (k : Int) ≤ (n' : Int) := by omega
      simp only [execOp, hx, hl, Option.map_none, Option.map_some, Instr.sliceAt, Sem.run_bind, run_underlying hty, Result.andThen_ok, Instr.slice, asAddr, Sem.run_pure, run_underlying har, Instr.sliceBounds, Instr.sliceBound, asIntOf, run_sizeOf hi']
      simp [hk2, run_sizeOf hi']
    · rename_i n' e hty
      split at hc
      case isFalse => (repeat' (split at hc)) <;> simp only [Option.some.injEq, reduceCtorEq] at hc
      split at hc <;> first | (cases hc; done) | skip
      rename_i hno
      split at hc <;> first | (cases hc; done) | skip
      rename_i l
      split at hc <;> first | (cases hc; done) | skip
      rename_i i hi'
      simp only [Option.some.injEq, AOp.slcl.injEq] at hc
      obtain ⟨rfl, rfl, rfl, rfl⟩ := hc
      refine ⟨e, i, hi', rfl, fun b k w hk hx hl => ?_⟩
      rw [Opd.cv_of] at hx hl
      cases hi <;> first | (simp at hno; done) | skip
      cases mx <;> first | (simp at hno; done) | skip
      refine ⟨_, fin b k i.size hk, ?_⟩
      have hk2 : (k : Int) ≤ (n' : Int) := by omega
      simp only [execOp, hx, hl, Option.map_none, Option.map_some, Instr.sliceAt, Sem.run_bind, run_underlying hty, Result.andThen_ok, Instr.sureAddr, Sem.run_pure, Instr.sliceBounds, Instr.sliceBound, asIntOf, run_sizeOf hi']
      simp [hk2, run_sizeOf hi']
  case makeFunc fn first caps =>
    cases fn <;> simp only [reduceCtorEq] at hc
    split at hc <;> simp only [Option.some.injEq, reduceCtorEq] at hc
  all_goals (repeat' (split at hc)) <;> first | (simp only [Option.some.injEq, reduceCtorEq] at hc; done) | (simp only [Option.map_eq_some_iff, reduceCtorEq, and_false, exists_false] at hc; done) | skip
theorem bts_inv {o : Oper} {x : Opd} (hc : comp P o = some (.bts x)) :
    ∃ src dst e, P.underlying src = some (.slice e) ∧ P.underlying dst = some .string ∧ P.underlying e = some (.int .u8) ∧ execOp a.eval o = (do pure (Next.value (← convert src dst (x.cv a))) : Sem Next) := by
  replace hc := comp0_of hc (by simp)
  obtain ⟨dst, op, type, ps, after, guard⟩ := o
  cases op <;> simp only [comp0, Option.some.injEq, reduceCtorEq] at hc
  case convert src dst' x' =>
    split at hc <;> first | (cases hc; done) | skip
    · (repeat' (split at hc)) <;> simp only [Option.some.injEq, reduceCtorEq] at hc
    · rename_i e hs hd
      split at hc <;> first | (cases hc; done) | skip
      rename_i he
      simp only [Option.some.injEq, AOp.bts.injEq] at hc
      subst hc
      refine ⟨src, dst', e, hs, hd, he, ?_⟩
      rw [Opd.cv_of]
      rfl
  case makeFunc fn first caps =>
    cases fn <;> simp only [reduceCtorEq] at hc
    split at hc <;> simp only [Option.some.injEq, reduceCtorEq] at hc
  all_goals (repeat' (split at hc)) <;> first | (simp only [Option.some.injEq, reduceCtorEq] at hc; done) | (simp only [Option.map_eq_some_iff, reduceCtorEq, and_false, exists_false] at hc; done) | skip
/-- The text of an array of bytes. -/
theorem AWpL.bts {x : Opd} {dst : Option Nat} {gs : List GOp} (l : List UInt8) {ob : Prop}
    (hs : srcEls s (s.ev x) = some (l.map (fun c => [AV.val (.int .u8 c.toNat)]), ob)) (hsz : srcSz s (s.ev x) 1 = true) (hd : dstOk E.n dst = true) (hob : ob)
    (h : AWpL P E Q gs (s.putO dst (.val (.string ⟨l.toArray⟩)))) : AWpL P E Q (⟨dst, none, .bts x⟩ :: gs) s := fun ops l' hl' a w hrel => by
  obtain ⟨o, l2, rfl, h1, h2⟩ := gops_cons hl'
  obtain ⟨ρ, ok, hr⟩ := hrel
  obtain ⟨hcp, hdst, hgd⟩ := gop_guard h1
  rcases hgd with ⟨hg0, _⟩ | ⟨_, _, _, _, _, hgd⟩
  case inr => cases hgd
  unfold wpList
  rw [if_pos (wanted_none hg0 _)]
  left
  obtain ⟨src, dst', e, k1, k2, k3, hrun⟩ := bts_inv (a := a) hcp
  obtain ⟨news, ⟨A, c, hv, g1, g2, g3⟩, g4, g5⟩ := src_ok hr (hr.ev x) hs hsz hob
  rw [flat_enc (fun c : UInt8 => Value.int .u8 c.toNat)] at g4
  obtain rfl := RcList_plain g4
  have hconv : (convert src dst' (x.cv a)).run P w = .ok (.string ⟨l.toArray⟩) w := by
    rw [hv, run_convert_bytes_string w src dst' e _ _ _ k1 k3 k2]
    cases A with
    | none =>
      have h0 := g2 rfl
      have : l = [] := List.eq_nil_of_length_eq_zero (by simpa using h0)
      subst this
      rfl
    | some ad =>
      have hl : (loadCells ad (l.map (fun c : UInt8 => [AV.val (.int .u8 c.toNat)])).length).run P w = .ok ((l.map fun c : UInt8 => (c.toNat : Int)).map (Value.int .u8)).toArray w := by
        have := run_loadCells_list (P := P) w ad (l.map fun c : UInt8 => Value.int .u8 c.toNat) (g3 ad rfl)
        rw [List.map_map]
        rw [List.length_map] at this
        rw [List.length_map]
        exact this
      have e1 : (l.map fun c : UInt8 => (c.toNat : Int)).map (fun n => UInt8.ofNat n.toNat) = l := by
        rw [List.map_map]
        have : ((fun n : Int => UInt8.ofNat n.toNat) ∘ fun c : UInt8 => (c.toNat : Int)) = id := by
          funext c; simp
        rw [this, List.map_id]
      rw [run_bytesToString w ad _ c _ hl, foldl_push_bytes, e1]
      show Result.ok (Value.string ⟨#[] ++ l.toArray⟩) w = _
      simp
  unfold Oper.wp
  rw [hrun, run_value hconv, Oper.upon_value]
  refine h ops l2 h2 _ _ ⟨ρ, ok, ?_⟩
  rw [← hdst]
  exact hr.putO hd (R_val_mk _)
/-- A slice of a whole array variable that is not used any more. -/
theorem AWpL.slca {n : Nat} {x : Opd} {dst : Option Nat} {gs : List GOp} {r : Nat} {e : TypeId} {cs : List AV}
    (hx : s.ev x = .ptr r 0 0) (hg : s.reg r = .box e cs) (hn : cs.length = n) (hsh : shutAll cs = true) (hp : E.pin r = none) (hd : dstOk E.n dst = true)
    (h : AWpL P E Q gs (St.putO (killS s r .dead) dst (.imm (some false) true 1 (cs.map fun c => [c])))) : AWpL P E Q (⟨dst, none, .slca n 1 x⟩ :: gs) s := fun ops l' hl' a w hrel => by
  obtain ⟨o, l2, rfl, h1, h2⟩ := gops_cons hl'
  obtain ⟨ρ, ok, hr⟩ := hrel
  obtain ⟨hcp, hdst, hgd⟩ := gop_guard h1
  rcases hgd with ⟨hg0, _⟩ | ⟨_, _, _, _, _, hgd⟩
  case inr => cases hgd
  unfold wpList
  rw [if_pos (wanted_none hg0 _)]
  left
  obtain ⟨e', i, k1, k2, hrun⟩ := slca_inv (a := a) hcp
  have hvx := hr.ev x
  rw [hx] at hvx
  unfold R at hvx
  obtain ⟨p, hpl, hv⟩ := hvx
  have hreg := hr.mem.reg r _ (reg_some hg (by simp))
  have hrlt : r < s.rg.length := (List.getElem?_eq_some_iff.1 (reg_some hg (by simp))).1
  obtain ⟨b, C, q1, q2, q3⟩ := hreg
  rw [q1] at hpl
  obtain rfl := by simpa using hpl
  unfold Oper.wp
  rw [hrun b w (by rw [hv]; simp), Oper.upon_value]
  refine h ops l2 h2 _ _ ?_
  let ok' : Nat → Prop := fun c => ok c ∨ c = b
  have hk : ∀ c, ok c → ok' c := fun c h => .inl h
  have hne : ∀ {k q}, (fun k => if k = r then none else ρ k) k = some q → k ≠ r ∧ ρ k = some q := fun {k q} h => by
    dsimp only at h
    split at h
    · cases h
    · exact ⟨by assumption, h⟩
  have hrd : Reads ok w w := fun _ _ _ _ h => h
  have hkill : ∀ k j, killM r k = some j → (fun k => if k = r then none else ρ k) j = ρ k := fun k j hk => by
    obtain ⟨rfl, hne⟩ := killM_ne hk
    exact if_neg hne
  have hval : ∀ x v, R w ok ρ x v → R w ok' (fun k => if k = r then none else ρ k) (mapA (killM r) x) v := fun x v hx =>
    R_frame hrd hk (fun _ _ h => h) _ _ (R_map hkill x v hx)
  have hvals : ∀ xs vs, RList w ok ρ xs vs → RList w ok' (fun k => if k = r then none else ρ k) (mapL (killM r) xs) vs := fun xs vs hx =>
    RList_frame hrd hk (fun _ _ h => h) _ _ (RList_map hkill xs vs hx)
  have hr' : RelM E (killS s r .dead) a w (fun k => if k = r then none else ρ k) ok' := by
    refine ⟨⟨fun c h => ?_, fun k k' p p' h1 h2 h3 => hr.mem.inj k k' p p' (hne h1).2 (hne h2).2 h3, fun k p h => ?_, fun k g hk' => ?_, fun k hk' => ?_⟩, fun n => ?_, hr.siz, hr.dfr, hr.kps, hr.bas, fun k p h => hr.ownr k p (hne h).2, fun c h => ?_, fun k p h => ?_⟩
    · rcases h with h | rfl
      · exact hr.mem.okl c h
      · exact (hr.mem.own r _ q1).1
    · obtain ⟨h1, h2⟩ := hne h
      refine ⟨(hr.mem.own k p h2).1, fun h3 => ?_⟩
      rcases h3 with h3 | h3
      · exact (hr.mem.own k p h2).2 h3
      · exact h1 (hr.mem.inj k r p _ h2 q1 h3)
    · by_cases e1 : k = r
      · subst e1
        rw [killS, List.getElem?_set] at hk'
        simp only [if_true, List.length_map, hrlt] at hk'
        obtain rfl := Option.some.inj hk'
        exact if_pos rfl
      · rw [killS, List.getElem?_set_ne (Ne.symm e1), List.getElem?_map, Option.map_eq_some_iff] at hk'
        obtain ⟨g0, hg0, rfl⟩ := hk'
        have h0 := hr.mem.reg k g0 hg0
        have hρ : (fun k => if k = r then none else ρ k) k = ρ k := if_neg e1
        cases g0 with
        | dead => exact hρ.trans h0
        | box e' cs =>
          obtain ⟨b, C, h1, h2, h3⟩ := h0
          exact ⟨b, C, by rw [hρ, mapL_length]; exact h1, h2, hvals _ _ h3⟩
        | arr e' sz' els' =>
          rcases h0 with ⟨b, d, C, pre, vs, rest, h1, h2, h3, h4, h5, h6⟩ | ⟨h1, h2⟩
          · exact .inl ⟨b, d, C, pre, vs, rest, hρ.trans h1, h2, h3, h4, h5, RcList_frame hrd hk _ _ h6⟩
          · exact .inr ⟨h1, hρ.trans h2⟩
        | tab e' cs =>
          rcases h0 with ⟨b, d, C, pre, vs, rest, h1, h2, h3, h4, h6⟩ | ⟨h1, h2⟩
          · exact .inl ⟨b, d, C, pre, vs, rest, hρ.trans h1, h2, h3, h4, hvals _ _ h6⟩
          · exact .inr ⟨by rw [h1]; rfl, hρ.trans h2⟩
    · have hlen : s.rg.length ≤ k := by simpa [killS] using hk'
      show (if k = r then none else ρ k) = none
      rw [if_neg (by omega)]
      exact hr.mem.out k hlen
    · show R w ok' _ (look (mapT (killM r) s.tm) n) _
      rw [look_map]
      exact hval _ _ (hr.tm n)
    · rcases h with h | rfl
      · exact hr.okr c h
      · exact .inr (hr.ownr r _ q1)
    · have h1 := hr.pin k p h
      have h2 : k ≠ r := fun e1 => by rw [e1, hp] at h; cases h
      show (if k = r then none else ρ k) = _
      rw [if_neg h2]; exact h1
  refine ⟨fun k => if k = r then none else ρ k, ok', ?_⟩
  rw [← hdst]
  refine hr'.putO hd ?_
  have hcl : RcList w ok' cs C.toList := RcList_frame hrd hk _ _ (RcList_of_R _ _ hsh q3)
  unfold R Rc
  refine ⟨some ⟨b, 0, none⟩, n, by rw [List.length_map, hn], by rw [List.length_map, hn]; exact Nat.le_refl _, fun q hq => (by injection hq), fun h => (by cases h), fun _ => (by rw [List.length_map, hn]), fun ad had hne => ?_⟩
  injection had with had
  subst had
  refine ⟨rfl, .inr rfl, RcEls_of 0 (vs := C.toList) (fun el hm => ?_) ?_ fun j u hj => ?_⟩
  · obtain ⟨c, _, rfl⟩ := List.mem_map.1 hm
    rfl
  · rw [flat_one]; exact hcl
  · rw [Nat.zero_add, cell_of q2, ← Array.getElem?_toList]; exact hj
/-- The rest, from a place on, of an array variable that is not used any more. -/
theorem AWpL.slcl {n k0 : Nat} {x lo : Opd} {dst : Option Nat} {gs : List GOp} {r : Nat} {e : TypeId} {cs : List AV}
    (hx : s.ev x = .ptr r 0 0) (hlo : s.ev lo = .val (.int .i64 k0)) (hk0 : k0 ≤ n) (hg : s.reg r = .box e cs) (hn : cs.length = n) (hsh : shutAll cs = true) (hp : E.pin r = none) (hd : dstOk E.n dst = true)
    (h : AWpL P E Q gs (St.putO (killS s r .dead) dst (.imm (some false) true 1 ((cs.drop k0).map fun c => [c])))) : AWpL P E Q (⟨dst, none, .slcl n 1 x lo⟩ :: gs) s := fun ops l' hl' a w hrel => by
  obtain ⟨o, l2, rfl, h1, h2⟩ := gops_cons hl'
  obtain ⟨ρ, ok, hr⟩ := hrel
  obtain ⟨hcp, hdst, hgd⟩ := gop_guard h1
  rcases hgd with ⟨hg0, _⟩ | ⟨_, _, _, _, _, hgd⟩
  case inr => cases hgd
  unfold wpList
  rw [if_pos (wanted_none hg0 _)]
  left
  obtain ⟨e', i, k1, k2, hrun⟩ := slcl_inv (a := a) hcp
  have hvx := hr.ev x
  rw [hx] at hvx
  unfold R at hvx
  obtain ⟨p, hpl, hv⟩ := hvx
  have hreg := hr.mem.reg r _ (reg_some hg (by simp))
  have hrlt : r < s.rg.length := (List.getElem?_eq_some_iff.1 (reg_some hg (by simp))).1
  obtain ⟨b, C, q1, q2, q3⟩ := hreg
  rw [q1] at hpl
  obtain rfl := by simpa using hpl
  have hvl := hr.ev lo
  rw [hlo] at hvl
  obtain ⟨ad0, had0, hrun⟩ := hrun b k0 w hk0 (by rw [hv]; simp) (R_val hvl)
  unfold Oper.wp
  rw [hrun, Oper.upon_value]
  refine h ops l2 h2 _ _ ?_
  let ok' : Nat → Prop := fun c => ok c ∨ c = b
  have hk : ∀ c, ok c → ok' c := fun c h => .inl h
  have hne : ∀ {k q}, (fun k => if k = r then none else ρ k) k = some q → k ≠ r ∧ ρ k = some q := fun {k q} h => by
    dsimp only at h
    split at h
    · cases h
    · exact ⟨by assumption, h⟩
  have hrd : Reads ok w w := fun _ _ _ _ h => h
  have hkill : ∀ k j, killM r k = some j → (fun k => if k = r then none else ρ k) j = ρ k := fun k j hk => by
    obtain ⟨rfl, hne⟩ := killM_ne hk
    exact if_neg hne
  have hval : ∀ x v, R w ok ρ x v → R w ok' (fun k => if k = r then none else ρ k) (mapA (killM r) x) v := fun x v hx =>
    R_frame hrd hk (fun _ _ h => h) _ _ (R_map hkill x v hx)
  have hvals : ∀ xs vs, RList w ok ρ xs vs → RList w ok' (fun k => if k = r then none else ρ k) (mapL (killM r) xs) vs := fun xs vs hx =>
    RList_frame hrd hk (fun _ _ h => h) _ _ (RList_map hkill xs vs hx)
  have hr' : RelM E (killS s r .dead) a w (fun k => if k = r then none else ρ k) ok' := by
    refine ⟨⟨fun c h => ?_, fun k k' p p' h1 h2 h3 => hr.mem.inj k k' p p' (hne h1).2 (hne h2).2 h3, fun k p h => ?_, fun k g hk' => ?_, fun k hk' => ?_⟩, fun n => ?_, hr.siz, hr.dfr, hr.kps, hr.bas, fun k p h => hr.ownr k p (hne h).2, fun c h => ?_, fun k p h => ?_⟩
    · rcases h with h | rfl
      · exact hr.mem.okl c h
      · exact (hr.mem.own r _ q1).1
    · obtain ⟨h1, h2⟩ := hne h
      refine ⟨(hr.mem.own k p h2).1, fun h3 => ?_⟩
      rcases h3 with h3 | h3
      · exact (hr.mem.own k p h2).2 h3
      · exact h1 (hr.mem.inj k r p _ h2 q1 h3)
    · by_cases e1 : k = r
      · subst e1
        rw [killS, List.getElem?_set] at hk'
        simp only [if_true, List.length_map, hrlt] at hk'
        obtain rfl := Option.some.inj hk'
        exact if_pos rfl
      · rw [killS, List.getElem?_set_ne (Ne.symm e1), List.getElem?_map, Option.map_eq_some_iff] at hk'
        obtain ⟨g0, hg0, rfl⟩ := hk'
        have h0 := hr.mem.reg k g0 hg0
        have hρ : (fun k => if k = r then none else ρ k) k = ρ k := if_neg e1
        cases g0 with
        | dead => exact hρ.trans h0
        | box e' cs =>
          obtain ⟨b, C, h1, h2, h3⟩ := h0
          exact ⟨b, C, by rw [hρ, mapL_length]; exact h1, h2, hvals _ _ h3⟩
        | arr e' sz' els' =>
          rcases h0 with ⟨b, d, C, pre, vs, rest, h1, h2, h3, h4, h5, h6⟩ | ⟨h1, h2⟩
          · exact .inl ⟨b, d, C, pre, vs, rest, hρ.trans h1, h2, h3, h4, h5, RcList_frame hrd hk _ _ h6⟩
          · exact .inr ⟨h1, hρ.trans h2⟩
        | tab e' cs =>
          rcases h0 with ⟨b, d, C, pre, vs, rest, h1, h2, h3, h4, h6⟩ | ⟨h1, h2⟩
          · exact .inl ⟨b, d, C, pre, vs, rest, hρ.trans h1, h2, h3, h4, hvals _ _ h6⟩
          · exact .inr ⟨by rw [h1]; rfl, hρ.trans h2⟩
    · have hlen : s.rg.length ≤ k := by simpa [killS] using hk'
      show (if k = r then none else ρ k) = none
      rw [if_neg (by omega)]
      exact hr.mem.out k hlen
    · show R w ok' _ (look (mapT (killM r) s.tm) n) _
      rw [look_map]
      exact hval _ _ (hr.tm n)
    · rcases h with h | rfl
      · exact hr.okr c h
      · exact .inr (hr.ownr r _ q1)
    · have h1 := hr.pin k p h
      have h2 : k ≠ r := fun e1 => by rw [e1, hp] at h; cases h
      show (if k = r then none else ρ k) = _
      rw [if_neg h2]; exact h1
  refine ⟨fun k => if k = r then none else ρ k, ok', ?_⟩
  rw [← hdst]
  refine hr'.putO hd ?_
  have hcl : RcList w ok' cs C.toList := RcList_frame hrd hk _ _ (RcList_of_R _ _ hsh q3)
  unfold R Rc
  have hld : ((cs.drop k0).map fun c => [c]).length = n - k0 := by rw [List.length_map, List.length_drop, hn]
  refine ⟨some ad0, n - k0, by rw [hld], by rw [hld]; exact Nat.le_refl _, fun q hq => (by injection hq), fun h => (by cases h), fun _ => (by rw [hld]), fun ad had hne => ?_⟩
  injection had with had
  subst had
  have hlt : k0 < n := by
    rcases Nat.lt_or_ge k0 n with h | h
    · exact h
    · exact absurd (List.eq_nil_of_length_eq_zero (by rw [hld]; omega)) hne
  rw [had0 hlt]
  refine ⟨rfl, .inr rfl, RcEls_of (k0 * 1) (vs := C.toList.drop k0) (fun el hm => ?_) ?_ fun j u hj => ?_⟩
  · obtain ⟨c, _, rfl⟩ := List.mem_map.1 hm
    rfl
  · rw [flat_one]; exact RcList_drop k0 hcl
  · rw [Nat.mul_one, cell_of q2, ← Array.getElem?_toList]
    rw [List.getElem?_drop] at hj
    exact hj
/-- Whatever way it goes, it comes to one of these states. -/
theorem AWp.cutP (J : St → Prop) {c : ACode} (h : AWp P E (fun e s' => e = .normal ∧ ∃ s0, J s0 ∧ Weak E s' s0) c s) (k : ∀ s0, J s0 → Q .normal s0) : AWp P E Q c s := fun code hc a w hr =>
  wp_mono (h code hc a w hr) fun e a w ⟨s', ⟨he, s0, hj, hw⟩, hr'⟩ => by subst he; exact ⟨s0, k s0 hj, hw a w hr'⟩
/-- A function that gives an array of its own gives a list. -/
theorem Spec.frz {f : FuncId} {args : List AV} {Post : List Reg → AV → Prop} {Post' : List Reg → AV → Prop} (h : Spec P f [] args Post)
    (hp : ∀ rg v, Post rg v → (∃ e sz els m k ex, rg = [.arr e sz els] ∧ v = .hnd 0 0 m k ex ∧ m ≤ els.length ∧ Post' [] (.imm none false sz (els.take m))) ∨ Post' rg v) : Spec P f [] args Post' := fun w ρ ok vals hm ha => by
  refine (h w ρ ok vals hm ha).mono ?_
  rintro e w' ⟨rg, x, v, ρ', ok', h1, h2, h3, h4, h5, h6, h7, h8⟩
  rcases hp rg x h2 with ⟨et, sz, els, m, k, ex, rfl, rfl, hm, hpost⟩ | hpost
  · have hg := h3.reg 0 _ rfl
    refine ⟨[], .imm none false sz (els.take m), v, fun _ => none, fun b => ok' b ∨ ∃ p, ρ' 0 = some (some p) ∧ p.b = b, h1, hpost, Mem.none fun b hb => ?_, ?_, fun b hb => ?_, fun r p hr => (by cases hr), h7, fun r e cs hr => (by cases hr)⟩
    · rcases hb with hb | ⟨p, hp, rfl⟩
      · exact h3.okl b hb
      · exact (h3.own 0 p hp).1
    · have h9 := hnd_imm (ok' := fun b => ok' b ∨ ∃ p, ρ' 0 = some (some p) ∧ p.b = b) hg (fun b hb => .inl hb) (fun p hp => .inr ⟨p, hp, rfl⟩) h4 (by omega)
      exact Ent.room none (ex && k == m) sz (els.take m) w' _ (fun _ => none) v (R_of_Rc _ _ h9)
    · rcases hb with hb | ⟨p, hp, rfl⟩
      · exact h5 b hb
      · rcases h6 0 p hp with h9 | ⟨r0, p0, h9, _⟩
        · exact .inr (.inl h9)
        · exact .inr (.inr ⟨r0, p0, h9, by assumption⟩)
  · exact ⟨rg, x, v, ρ', ok', h1, hpost, h3, h4, h5, h6, h7, h8⟩
end
end Go.Proofs.Ytoickofcmngdjaa.Aw
