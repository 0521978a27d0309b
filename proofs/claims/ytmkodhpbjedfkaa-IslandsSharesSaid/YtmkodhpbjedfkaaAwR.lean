/- A logic of abstract states for walks: obligations computed by rewriting. -/
import Derived.Test.YtmkodhpbjedfkaaAwQ
set_option linter.unusedVariables false
set_option linter.unusedSimpArgs false
namespace Go.Proofs.Ytmkodhpbjedfkaa.Aw
open Go.RowKit

/-! ### Lists of operations -/
def dstsOk (n : Nat) : List GOp → Bool
  | [] => true
  | g :: l => dstOk n g.dst && dstsOk n l
def wpO : List GOp → St → (St → Prop) → Prop
  | [], s, K => K s
  | ⟨d, none, op⟩ :: l, s, K => match aop s.ev s op with
    | some (z, s', ob) => ob ∧ wpO l (s'.putO d z) K
    | none => False
  | ⟨d, some (t, want), op⟩ :: l, s, K => match gdB (look s.tm t) want with
    | some b => match op.still, aop (fun x => (s.ev x).strip) s op with
      | true, some (z, _, ob) => (b = true → opOb s.ev op ∧ ob) ∧ wpO l (s.putO d (.opt b z)) K
      | _, _ => False
    | none => False

theorem wpO_run {n : Nat} : ∀ {gs : List GOp} {s : St} {K : St → Prop}, dstsOk n gs = true → wpO gs s K → ∃ s' ob, runOps n gs s = some (s', ob) ∧ ob ∧ K s'
  | [], s, K, _, h => ⟨s, True, rfl, trivial, h⟩
  | ⟨d, none, op⟩ :: l, s, K, hd, h => by
    simp only [dstsOk, Bool.and_eq_true] at hd
    unfold wpO at h
    split at h
    · rename_i z s1 ob ha
      obtain ⟨s2, ob2, h1, h2, h3⟩ := wpO_run hd.2 h.2
      refine ⟨s2, ob ∧ ob2, ?_, ⟨h.1, h2⟩, h3⟩
      simp only [runOps, stepOp, hd.1, cond_true, ha, h1]
    · exact h.elim
  | ⟨d, some (t, want), op⟩ :: l, s, K, hd, h => by
    simp only [dstsOk, Bool.and_eq_true] at hd
    unfold wpO at h
    split at h
    · rename_i b hb
      split at h
      · rename_i z s1 ob hst ha
        obtain ⟨s2, ob2, h1, h2, h3⟩ := wpO_run hd.2 h.2
        refine ⟨s2, (b = true → opOb s.ev op ∧ ob) ∧ ob2, ?_, ⟨h.1, h2⟩, h3⟩
        simp only [runOps, stepOp, hd.1, cond_true, hb, hst, ha, h1]
      · exact h.elim
    · exact h.elim

section
variable {P : Program} {E : Env} {Q : Exit → St → Prop} {s s' : St} {n : Nat}
theorem AWpL.wp {gs : List GOp} (hn : E.n = n) (hd : dstsOk n gs = true) (h : wpO gs s (Q .normal)) : AWpL P E Q gs s := by
  obtain ⟨s', ob, h1, h2, h3⟩ := wpO_run hd h
  exact AWpL.all (hn ▸ h1) h2 h3
/-- A region. -/
theorem AWp.reg {af : List (List Nat)} {gs : List GOp} (hn : E.n = n) (hd : dstsOk n gs = true) (h : wpO gs s (Q .normal)) : AWp P E Q (.region false af gs) s :=
  AWp.region (AWpL.wp hn hd h)
/-- A region and what follows. -/
theorem AWp.regs {af : List (List Nat)} {gs : List GOp} {y : ACode} (hn : E.n = n) (hd : dstsOk n gs = true) (h : wpO gs s (AWp P E Q y)) : AWp P E Q (.seq (.region false af gs) y) s :=
  AWp.seq (AWp.region (AWpL.wp hn hd h))
theorem AWpL.wpT (k : Nat) {gs : List GOp} (hn : E.n = n) (hd : dstsOk n (gs.take k) = true) (h : wpO (gs.take k) s (AWpL P E Q (gs.drop k))) : AWpL P E Q gs s := by
  obtain ⟨s', ob, h1, h2, h3⟩ := wpO_run hd h
  exact AWpL.take k (hn ▸ h1) h2 h3
theorem AWpQ.wp {gs : List GOp} (hn : E.n = n) (hs : allStill gs = true) (hd : dstsOk n gs = true) (h : wpO gs s (Q .normal)) : AWpQ P E Q gs s := by
  obtain ⟨s', ob, h1, h2, h3⟩ := wpO_run hd h
  exact AWpQ.all hs (hn ▸ h1) h2 h3
theorem AWpQ.wpT (k : Nat) {gs : List GOp} (hn : E.n = n) (hs : allStill (gs.take k) = true) (hd : dstsOk n (gs.take k) = true) (h : wpO (gs.take k) s (AWpQ P E Q (gs.drop k))) : AWpQ P E Q gs s := by
  obtain ⟨s', ob, h1, h2, h3⟩ := wpO_run hd h
  exact AWpQ.take k hs (hn ▸ h1) h2 h3
end

/-! ### Maps that change nothing -/
mutual
theorem mapA_some {m : Nat → Option Nat} (h : ∀ r, m r = some r) : ∀ x : AV, mapA m x = x
  | .hnd r off n k ex => by unfold mapA; rw [h]
  | .ptr r i o => by unfold mapA; rw [h]
  | .fn f caps => by unfold mapA; rw [mapL_some h]
  | .agg cs => by unfold mapA; rw [mapL_some h]
  | .tup cs => by unfold mapA; rw [mapL_some h]
  | .opt c x => by unfold mapA; rw [mapA_some h]
  | .any => rfl
  | .val v => rfl
  | .imm a b c d => rfl
  | .pim cs => rfl
theorem mapL_some {m : Nat → Option Nat} (h : ∀ r, m r = some r) : ∀ xs : List AV, mapL m xs = xs
  | [] => rfl
  | x :: xs => by unfold mapL; rw [mapA_some h, mapL_some h]
end
theorem mapR_some {m : Nat → Option Nat} (h : ∀ r, m r = some r) : ∀ g : Reg, mapR m g = g
  | .box e cs => by show Reg.box e (mapL m cs) = _; rw [mapL_some h]
  | .arr .. => rfl
  | .dead => rfl
theorem mapT_some {m : Nat → Option Nat} (h : ∀ r, m r = some r) : ∀ l : List (Nat × AV), mapT m l = l
  | [] => rfl
  | (i, x) :: l => by unfold mapT; rw [mapA_some h, mapT_some h]
theorem kpM_nil (s : St) (r : Nat) : kpM s [] r = some r := rfl
theorem bkM_nil (L r : Nat) : bkM [] L r = some (L + r) := by simp [bkM]
theorem retRg_nil (s : St) : ∀ (l : List Reg) (r : Nat), retRg s [] [] r l = l
  | [], r => rfl
  | g :: l, r => by
    unfold retRg
    rw [retRg_nil s l, show pos [] r = none from rfl]
    simp only
    rw [mapR_some (kpM_nil s)]
/-- Behind a call that only read and left nothing. -/
theorem retS_nil (s : St) (dst : Option Nat) (x : AV) : retS s [] dst [] x = s.putO dst (mapA (bkM [] s.rg.length) x) := by
  unfold retS
  rw [retRg_nil, mapT_some (kpM_nil s)]

/-! ### The end of a function -/
def wpRet (np : Nat) (π : List Nat) (rs : List RV) (Post : List Reg → AV → Prop) (s : St) : Prop :=
  renOk np s.rg.length π = true ∧ match resAVs (renS π s) rs with
    | some (l, ob) => ob ∧ Post (renS π s).rg (tupOf l)
    | none => False
def PinOk (E : Env) (rg0 : List Reg) : Prop := ∀ r p, E.pin r = some p → r < E.np ∧ isBox (rg0.getD r .dead) = true
section
variable {P : Program} {E : Env} {s : St} {rs : List RV} {Post : List Reg → AV → Prop} {rg0 : List Reg} {np : Nat}
theorem wpRet.out {π : List Nat} (hp : PinOk E rg0) (hnp : E.np = np) (h : wpRet np π rs Post s) : ∃ s' l ob, Weak E s s' ∧ resAVs s' rs = some (l, ob) ∧ ob ∧ Post s'.rg (tupOf l) := by
  obtain ⟨h1, h2⟩ := h
  split at h2
  · rename_i l ob hl
    exact ⟨renS π s, l, ob, weak_ren π (fun r p hr => (hp r p hr).1) (hnp ▸ h1), hl, h2.1, h2.2⟩
  · exact h2.elim
theorem Retn.ret {π : List Nat} (hp : PinOk E rg0) (hnp : E.np = np) (h : wpRet np π rs Post s) : Retn E rs Post .ret s := h.out hp hnp
theorem Retn.normal {π : List Nat} (hp : PinOk E rg0) (hnp : E.np = np) (h : wpRet np π rs Post s) : Retn E rs Post .normal s := h.out hp hnp
end

/-! ### A function, by its printed code -/
def FnIs (P : Program) (f : FuncId) (n : Nat) (rs : List RV) (ac : ACode) : Prop :=
  ∃ fn c, P.funcs[f]? = some fn ∧ fn.body = some c ∧ compC P c = some ac ∧ rvsOf P fn.results.toList = some rs ∧ fn.ntmps = n
theorem Spec.of {P : Program} {f : FuncId} {n : Nat} {rs : List RV} {ac : ACode} (k : FnIs P f n rs ac) {rg0 : List Reg} {args : List AV} {Post : List Reg → AV → Prop} (hl : Nat.ble args.length n = true)
    (h : ∀ E : Env, E.n = n → E.np = rg0.length → PinOk E rg0 → AWp P E (Retn E rs Post) ac ⟨params 0 args, rg0⟩) : Spec P f rg0 args Post := by
  obtain ⟨fn, c, h1, h2, h3, h4, h5⟩ := k
  exact Spec.intro h1 h2 h3 h4 h5 (Nat.le_of_ble_eq_true hl) h
end Go.Proofs.Ytmkodhpbjedfkaa.Aw
