/- A logic of abstract states for walks: code computed by rewriting, up to calls and loops. -/
import Derived.Test.YtmkodhpbjedfkaaAwR
set_option linter.unusedVariables false
set_option linter.unusedSimpArgs false
namespace Go.Proofs.Ytmkodhpbjedfkaa.Aw
open Go.RowKit

/-- Operations that have rules of their own. -/
def stops : AOp → Bool
  | .call .. => true
  | .callv .. => true
  | .app .. => true
  | .copy .. => true
  | .clr .. => true
  | .appz .. => true
  | .bad .. => true
  | _ => false

def wpL (P : Program) (E : Env) (Q : Exit → St → Prop) : List GOp → St → Prop
  | [], s => Q .normal s
  | ⟨d, none, op⟩ :: l, s => bif stops op then AWpL P E Q (⟨d, none, op⟩ :: l) s else match aop s.ev s op with
    | some (z, s', ob) => ob ∧ wpL P E Q l (s'.putO d z)
    | none => False
  | ⟨d, some (t, want), op⟩ :: l, s => bif stops op then AWpL P E Q (⟨d, some (t, want), op⟩ :: l) s else match gdB (look s.tm t) want with
    | some b => match op.still, aop (fun x => (s.ev x).strip) s op with
      | true, some (z, _, ob) => (b = true → opOb s.ev op ∧ ob) ∧ wpL P E Q l (s.putO d (.opt b z))
      | _, _ => False
    | none => False
def wpQ (P : Program) (E : Env) (Q : Exit → St → Prop) : List GOp → St → Prop
  | [], s => Q .normal s
  | ⟨d, none, op⟩ :: l, s => bif stops op then AWpQ P E Q (⟨d, none, op⟩ :: l) s else match op.still, aop s.ev s op with
    | true, some (z, s', ob) => ob ∧ wpQ P E Q l (s'.putO d z)
    | _, _ => False
  | ⟨d, some (t, want), op⟩ :: l, s => bif stops op then AWpQ P E Q (⟨d, some (t, want), op⟩ :: l) s else match gdB (look s.tm t) want with
    | some b => match op.still, aop (fun x => (s.ev x).strip) s op with
      | true, some (z, _, ob) => (b = true → opOb s.ev op ∧ ob) ∧ wpQ P E Q l (s.putO d (.opt b z))
      | _, _ => False
    | none => False

section
variable {P : Program} {E : Env} {n : Nat}
theorem AWpL.of (hn : E.n = n) : ∀ {gs : List GOp} {Q : Exit → St → Prop} {s : St}, dstsOk n gs = true → wpL P E Q gs s → AWpL P E Q gs s
  | [], Q, s, _, h => AWpL.nil h
  | ⟨d, none, op⟩ :: l, Q, s, hd, h => by
    simp only [dstsOk, Bool.and_eq_true] at hd
    unfold wpL at h
    cases hs : stops op with
    | true => rw [hs] at h; exact h
    | false =>
      rw [hs] at h
      simp only [cond_false] at h
      split at h
      · rename_i z s1 ob ha
        refine AWpL.cons (s' := s1.putO d z) (ob := ob) ?_ h.1 (AWpL.of hn hd.2 h.2)
        simp only [stepOp, hn, hd.1, cond_true, ha]
      · exact h.elim
  | ⟨d, some (t, want), op⟩ :: l, Q, s, hd, h => by
    simp only [dstsOk, Bool.and_eq_true] at hd
    unfold wpL at h
    cases hs : stops op with
    | true => rw [hs] at h; exact h
    | false =>
      rw [hs] at h
      simp only [cond_false] at h
      split at h
      · rename_i b hb
        split at h
        · rename_i z s1 ob hst ha
          refine AWpL.cons (s' := s.putO d (.opt b z)) (ob := b = true → opOb s.ev op ∧ ob) ?_ h.1 (AWpL.of hn hd.2 h.2)
          simp only [stepOp, hn, hd.1, cond_true, hb, hst, ha]
        · exact h.elim
      · exact h.elim
theorem AWpQ.of (hn : E.n = n) : ∀ {gs : List GOp} {Q : Exit → St → Prop} {s : St}, dstsOk n gs = true → wpQ P E Q gs s → AWpQ P E Q gs s
  | [], Q, s, _, h => AWpQ.nil h
  | ⟨d, none, op⟩ :: l, Q, s, hd, h => by
    simp only [dstsOk, Bool.and_eq_true] at hd
    unfold wpQ at h
    cases hs : stops op with
    | true => rw [hs] at h; exact h
    | false =>
      rw [hs] at h
      simp only [cond_false] at h
      split at h
      · rename_i z s1 ob hst ha
        refine AWpQ.cons (s' := s1.putO d z) (ob := ob) hst ?_ h.1 (AWpQ.of hn hd.2 h.2)
        simp only [stepOp, hn, hd.1, cond_true, ha]
      · exact h.elim
  | ⟨d, some (t, want), op⟩ :: l, Q, s, hd, h => by
    simp only [dstsOk, Bool.and_eq_true] at hd
    unfold wpQ at h
    cases hs : stops op with
    | true => rw [hs] at h; exact h
    | false =>
      rw [hs] at h
      simp only [cond_false] at h
      split at h
      · rename_i b hb
        split at h
        · rename_i z s1 ob hst ha
          refine AWpQ.cons (s' := s.putO d (.opt b z)) (ob := b = true → opOb s.ev op ∧ ob) hst ?_ h.1 (AWpQ.of hn hd.2 h.2)
          simp only [stepOp, hn, hd.1, cond_true, hb, hst, ha]
        · exact h.elim
      · exact h.elim
end

/-- What a sequence asks of its first part, computed. -/
def SeqC (f : (Exit → St → Prop) → St → Prop) (Q : Exit → St → Prop) : Exit → St → Prop
  | .normal, s => f Q s
  | e, s => Q e s
/-- The region's operations only read. -/
def quietOps : List GOp → Bool
  | [] => true
  | ⟨_, _, .app ..⟩ :: _ => false
  | ⟨_, _, .copy ..⟩ :: _ => false
  | ⟨_, _, .clr ..⟩ :: _ => false
  | ⟨_, _, .appz ..⟩ :: _ => false
  | ⟨_, _, .bad ..⟩ :: _ => false
  | ⟨_, _, .callv ..⟩ :: _ => false
  | ⟨_, _, op⟩ :: l => op.still && quietOps l
def wpC (P : Program) (E : Env) : ACode → (Exit → St → Prop) → St → Prop
  | .skip, Q, s => Q .normal s
  | .ret, Q, s => Q .ret s
  | .exit id, Q, s => Q (.exit id) s
  | .region false _ gs, Q, s => wpL P E Q gs s
  | .region true af gs, Q, s => bif quietOps gs then wpQ P E Q gs s else AWp P E Q (.region true af gs) s
  | .seq x y, Q, s => wpC P E x (SeqC (wpC P E y) Q) s
  | .cond c x y, Q, s => match s.ev c with
    | .val (.bool b) => (b = true → wpC P E x Q s) ∧ (b = false → wpC P E y Q s)
    | _ => False
  | .block id x, Q, s => wpC P E x (Blk id Q) s
  | .loop x, Q, s => AWp P E Q (.loop x) s
def dstsC (n : Nat) : ACode → Bool
  | .region _ _ gs => dstsOk n gs
  | .seq x y => dstsC n x && dstsC n y
  | .cond _ x y => dstsC n x && dstsC n y
  | .block _ x => dstsC n x
  | _ => true
theorem AWp.of {P : Program} {E : Env} {n : Nat} (hn : E.n = n) (hm : P.follows .mixedOrders = true) : ∀ {c : ACode} {Q : Exit → St → Prop} {s : St}, dstsC n c = true → wpC P E c Q s → AWp P E Q c s
  | .skip, Q, s, _, h => AWp.skip h
  | .ret, Q, s, _, h => AWp.ret h
  | .exit id, Q, s, _, h => AWp.exit h
  | .region false _ gs, Q, s, hd, h => AWp.region (AWpL.of hn hd h)
  | .region true af gs, Q, s, hd, h => by
    unfold wpC at h
    cases hq : quietOps gs with
    | true => rw [hq] at h; exact AWp.draw hm (AWpQ.of hn hd h)
    | false => rw [hq] at h; exact h
  | .seq x y, Q, s, hd, h => by
    simp only [dstsC, Bool.and_eq_true] at hd
    refine AWp.seq (AWp.mono ?_ (AWp.of hn hm hd.1 h))
    intro e s hq
    cases e with
    | normal => exact AWp.of hn hm hd.2 hq
    | _ => exact hq
  | .cond c x y, Q, s, hd, h => by
    simp only [dstsC, Bool.and_eq_true] at hd
    unfold wpC at h
    split at h
    · rename_i b hb
      exact AWp.cond hb (fun e => AWp.of hn hm hd.1 (h.1 e)) (fun e => AWp.of hn hm hd.2 (h.2 e))
    · exact h.elim
  | .block id x, Q, s, hd, h => AWp.block (AWp.of hn hm hd h)
  | .loop x, Q, s, _, h => h

/-! ### States made plainer -/
theorem weak_to {E : Env} {s : St} {rg0 rg : List Reg} {np : Nat} {tm : List (Nat × AV)} (π : List Nat) (hp : PinOk E rg0) (hnp : E.np = np) (h : renOk np s.rg.length π = true)
    (ht : subTm (renT π s.tm) tm) (hr : (π.map fun r => renR π (s.rg.getD r .dead)) = rg) : Weak E s ⟨tm, rg⟩ := by
  subst hr
  exact (weak_ren π (fun r p hr => (hp r p hr).1) (hnp ▸ h)).trans (weak_tm ht)

/-! ### Calls whose result is known and that leave nothing -/
def Gives (p : AV → Prop) : List Reg → AV → Prop := fun rg x => rg = [] ∧ p x
section
variable {P : Program} {E : Env} {Q : Exit → St → Prop} {s : St}
theorem AWpL.callg {f : FuncId} {xs : List Opd} {dst : Option Nat} {gs : List GOp} {p : AV → Prop} (hs : Spec P f [] (xs.map fun x => borA 4 s (s.ev x)) (Gives p))
    (hd : dstOk E.n dst = true) (hb : allOb (borOb 4 s) (xs.map s.ev)) (h : ∀ x, p x → NI x ∧ AWpL P E Q gs (s.putO dst (mapA (bkM [] s.rg.length) x))) : AWpL P E Q (⟨dst, none, .call f xs⟩ :: gs) s :=
  AWpL.callb hs hd hb fun rg x ⟨hr, hx⟩ => by
    subst hr
    obtain ⟨h1, h2⟩ := h x hx
    exact ⟨⟨h1, fun _ h => by cases h⟩, by rw [retS_nil]; exact h2⟩
end

mutual
/-- A value without memory. -/
def plainA : AV → Bool
  | .val _ => true
  | .agg cs => plainL cs
  | .tup cs => plainL cs
  | _ => false
def plainL : List AV → Bool
  | [] => true
  | x :: xs => plainA x && plainL xs
end
mutual
theorem plain_ni : ∀ (x : AV), plainA x = true → NI x
  | .val _, _ => by unfold NI; trivial
  | .agg cs, h => by unfold NI; exact plainL_ni cs (by simpa [plainA] using h)
  | .tup cs, h => by unfold NI; exact plainL_ni cs (by simpa [plainA] using h)
  | .any, h => by simp [plainA] at h
  | .imm .., h => by simp [plainA] at h
  | .pim _, h => by simp [plainA] at h
  | .hnd .., h => by simp [plainA] at h
  | .ptr .., h => by simp [plainA] at h
  | .fn .., h => by simp [plainA] at h
  | .opt .., h => by simp [plainA] at h
theorem plainL_ni : ∀ (xs : List AV), plainL xs = true → NIL xs
  | [], _ => by unfold NIL; trivial
  | x :: xs, h => by
    simp only [plainL, Bool.and_eq_true] at h
    unfold NIL; exact ⟨plain_ni x h.1, plainL_ni xs h.2⟩
end
mutual
theorem plain_map (m : Nat → Option Nat) : ∀ (x : AV), plainA x = true → mapA m x = x
  | .val _, _ => by unfold mapA; rfl
  | .agg cs, h => by unfold mapA; rw [plainL_map m cs (by simpa [plainA] using h)]
  | .tup cs, h => by unfold mapA; rw [plainL_map m cs (by simpa [plainA] using h)]
  | .any, h => by simp [plainA] at h
  | .imm .., h => by simp [plainA] at h
  | .pim _, h => by simp [plainA] at h
  | .hnd .., h => by simp [plainA] at h
  | .ptr .., h => by simp [plainA] at h
  | .fn .., h => by simp [plainA] at h
  | .opt .., h => by simp [plainA] at h
theorem plainL_map (m : Nat → Option Nat) : ∀ (xs : List AV), plainL xs = true → mapL m xs = xs
  | [], _ => by unfold mapL; rfl
  | x :: xs, h => by
    simp only [plainL, Bool.and_eq_true] at h
    unfold mapL; rw [plain_map m x h.1, plainL_map m xs h.2]
end
section
variable {P : Program} {E : Env} {Q : Exit → St → Prop} {s : St}
/-- A call whose result is this value. -/
theorem AWpL.calle {f : FuncId} {xs : List Opd} {dst : Option Nat} {gs : List GOp} {y : AV} (hs : Spec P f [] (xs.map fun x => borA 4 s (s.ev x)) (Gives (· = y)))
    (hy : plainA y = true) (hd : dstOk E.n dst = true) (hb : allOb (borOb 4 s) (xs.map s.ev)) (h : AWpL P E Q gs (s.putO dst y)) : AWpL P E Q (⟨dst, none, .call f xs⟩ :: gs) s :=
  AWpL.callg hs hd hb fun x hx => by subst hx; exact ⟨plain_ni _ hy, by rw [plain_map _ _ hy]; exact h⟩
end

/-! ### Functions that leave nothing -/
def rsTm : List RV → Option (List Nat)
  | [] => some []
  | .t i :: l => (rsTm l).map (i :: ·)
  | _ => none
def looks (tm : List (Nat × AV)) : List Nat → List AV
  | [] => []
  | i :: l => renA [] (look tm i) :: looks tm l
def Ends (is : List Nat) (p : AV → Prop) : Exit → St → Prop
  | .normal, s => p (tupOf (looks s.tm is))
  | .ret, s => p (tupOf (looks s.tm is))
  | _, _ => False
theorem resAVs_tm {s : St} : ∀ {rs : List RV} {is : List Nat}, rsTm rs = some is → ∃ ob, resAVs (renS [] s) rs = some (looks s.tm is, ob) ∧ ob
  | [], is, h => by
    simp only [rsTm, Option.some.injEq] at h
    subst h
    exact ⟨True, rfl, trivial⟩
  | .t i :: l, is, h => by
    simp only [rsTm, Option.map_eq_some_iff] at h
    obtain ⟨js, h1, rfl⟩ := h
    obtain ⟨ob, h2, h3⟩ := resAVs_tm (s := s) h1
    refine ⟨True ∧ ob, ?_, trivial, h3⟩
    simp only [resAVs, resAV, h2, looks]
    rw [show look (renS [] s).tm i = renA [] (look s.tm i) from look_ren _ _]
  | .c .. :: l, is, h => by simp [rsTm] at h
theorem Ends.out {E : Env} {rs : List RV} {is : List Nat} {p : AV → Prop} (hr : rsTm rs = some is) (hnp : E.np = 0) (hp : PinOk E []) : ∀ e s, Ends is p e s → Retn E rs (Gives p) e s := by
  have key : ∀ s, p (tupOf (looks s.tm is)) → ∃ s' l ob, Weak E s s' ∧ resAVs s' rs = some (l, ob) ∧ ob ∧ Gives p s'.rg (tupOf l) := fun s h => by
    obtain ⟨ob, h1, h2⟩ := resAVs_tm (s := s) hr
    exact ⟨renS [] s, _, ob, weak_ren [] (fun r q hq => (hp r q hq).1) (by rw [hnp]; rfl), h1, h2, rfl, h⟩
  intro e s h
  cases e with
  | normal => exact key s h
  | ret => exact key s h
  | _ => exact h.elim
theorem Spec.gives {P : Program} {f : FuncId} {n : Nat} {rs : List RV} {ac : ACode} (k : FnIs P f n rs ac) (hm : P.follows .mixedOrders = true) {args : List AV} {p : AV → Prop} {is : List Nat} (hl : Nat.ble args.length n = true) (hr : rsTm rs = some is)
    (hd : dstsC n ac = true) (h : ∀ E : Env, E.n = n → E.np = 0 → PinOk E [] → wpC P E ac (Ends is p) ⟨params 0 args, []⟩) : Spec P f [] args (Gives p) :=
  Spec.of k hl fun E hn hnp hp => AWp.mono (Ends.out hr hnp hp) (AWp.of hn hm hd (h E hn hnp hp))
end Go.Proofs.Ytmkodhpbjedfkaa.Aw
