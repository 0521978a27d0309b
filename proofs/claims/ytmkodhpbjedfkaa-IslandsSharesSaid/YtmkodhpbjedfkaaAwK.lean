/- A logic of abstract states for walks: code, and regions that are dropped or numbered anew. -/
import Derived.Test.YtmkodhpbjedfkaaAwJ
set_option linter.unusedVariables false
set_option linter.unusedSimpArgs false
namespace Go.Proofs.Ytmkodhpbjedfkaa.Aw
open Go.RowKit

inductive ACode where
  | skip
  | region (dr : Bool) (af : List (List Nat)) (ops : List GOp)
  | seq (x y : ACode)
  | cond (c : Opd) (x y : ACode)
  | block (id : Nat) (x : ACode)
  | loop (x : ACode)
  | exit (id : Nat)
  | ret
  deriving Inhabited

/-- The operations that an operation waits for. -/
def waits (o : Oper) : List Nat := o.after.toList.filterMap fun e => if Region.binds .any e then some e.on else none

/-- The code that a code of the logic stands for. -/
inductive CR (P : Program) : Code → ACode → Prop
  | skip : CR P .skip .skip
  | region {id ops gs} : gops P ops ops.toList = some gs → CR P (.region id ops false) (.region false [] gs)
  | draw {id ops gs} : gops P ops ops.toList = some gs → Region.lexB .any ops = true → CR P (.region id ops true) (.region true (ops.toList.map waits) gs)
  | seq {x y x' y'} : CR P x x' → CR P y y' → CR P (.seq x y) (.seq x' y')
  | cond {c x y x' y'} : CR P x x' → CR P y y' → CR P (.cond c x y) (.cond (.of c) x' y')
  | block {id x x'} : CR P x x' → CR P (.block id x) (.block id x')
  | loop {x x'} : CR P x x' → CR P (.loop x) (.loop x')
  | exit {id} : CR P (.exit id) (.exit id)
  | ret : CR P .ret .ret

def compC (P : Program) : Code → Option ACode
  | .skip => some .skip
  | .region _ ops draw => match gops P ops ops.toList with
    | some gs => bif draw then (bif Region.lexB .any ops then some (.region true (ops.toList.map waits) gs) else none) else some (.region false [] gs)
    | none => none
  | .seq x y => match compC P x, compC P y with
    | some x, some y => some (.seq x y)
    | _, _ => none
  | .cond c x y => match compC P x, compC P y with
    | some x, some y => some (.cond (.of c) x y)
    | _, _ => none
  | .block id x => match compC P x with
    | some x => some (.block id x)
    | none => none
  | .loop x => match compC P x with
    | some x => some (.loop x)
    | none => none
  | .exit id => some (.exit id)
  | .ret => some .ret
  | _ => none

theorem compC_ok {P : Program} : ∀ {c : Code} {ac : ACode}, compC P c = some ac → CR P c ac
  | .skip, ac, h => by simp only [compC, Option.some.injEq] at h; subst h; exact .skip
  | .region id ops draw, ac, h => by
    unfold compC at h
    split at h <;> first | (cases h; done) | skip
    rename_i gs hg
    cases draw with
    | false => simp only [cond_false, Option.some.injEq] at h; subst h; exact .region hg
    | true =>
      simp only [cond_true] at h
      obtain ⟨h1, h2⟩ := cond_some' h
      simp only [Option.some.injEq] at h2; subst h2; exact .draw hg h1
  | .seq x y, ac, h => by
    unfold compC at h
    split at h <;> first | (cases h; done) | skip
    rename_i x' y' h1 h2
    simp only [Option.some.injEq] at h; subst h; exact .seq (compC_ok h1) (compC_ok h2)
  | .cond c x y, ac, h => by
    unfold compC at h
    split at h <;> first | (cases h; done) | skip
    rename_i x' y' h1 h2
    simp only [Option.some.injEq] at h; subst h; exact .cond (compC_ok h1) (compC_ok h2)
  | .block id x, ac, h => by
    unfold compC at h
    split at h <;> first | (cases h; done) | skip
    rename_i x' h1
    simp only [Option.some.injEq] at h; subst h; exact .block (compC_ok h1)
  | .loop x, ac, h => by
    unfold compC at h
    split at h <;> first | (cases h; done) | skip
    rename_i x' h1
    simp only [Option.some.injEq] at h; subst h; exact .loop (compC_ok h1)
  | .exit id, ac, h => by simp only [compC, Option.some.injEq] at h; subst h; exact .exit
  | .ret, ac, h => by simp only [compC, Option.some.injEq] at h; subst h; exact .ret
  | .rangeFunc .., ac, h => by simp [compC] at h
  | .scope _, ac, h => by simp [compC] at h
  | .label _, ac, h => by simp [compC] at h
  | .goto _, ac, h => by simp [compC] at h
  | .refuse _, ac, h => by simp [compC] at h

def AWp (P : Program) (E : Env) (Q : Exit → St → Prop) (c : ACode) (s : St) : Prop :=
  ∀ code, CR P code c → ∀ a w, Rel E s a w → code.wp P (conc E Q) a w

/-! ### Weakening -/
/-- What holds of the first state holds of the second. -/
def Weak (E : Env) (s s' : St) : Prop := ∀ a w, Rel E s a w → Rel E s' a w
theorem Weak.refl (E : Env) (s : St) : Weak E s s := fun _ _ h => h

section
variable {P : Program} {E : Env} {Q Q' : Exit → St → Prop} {s s' : St}
theorem AWp.weak {c : ACode} (h : Weak E s s') (k : AWp P E Q c s') : AWp P E Q c s := fun code hc a w hr => k code hc a w (h a w hr)
theorem AWpL.weak {gs : List GOp} (h : Weak E s s') (k : AWpL P E Q gs s') : AWpL P E Q gs s := fun ops l hl a w hr => k ops l hl a w (h a w hr)
theorem AWp.mono {c : ACode} (h : ∀ e s, Q e s → Q' e s) (k : AWp P E Q c s) : AWp P E Q' c s := fun code hc a w hr =>
  wp_mono (k code hc a w hr) fun e a w ⟨s, hq, hr⟩ => ⟨s, h e s hq, hr⟩
/-- The post may hold of a weaker state. -/
def Up (E : Env) (Q : Exit → St → Prop) : Exit → St → Prop := fun e s => ∃ s', Weak E s s' ∧ Q e s'
theorem conc_up {e : Exit} {a : Act} {w : World} (h : conc E (Up E Q) e a w) : conc E Q e a w := by
  obtain ⟨s, ⟨s', h1, h2⟩, hr⟩ := h
  exact ⟨s', h2, h1 a w hr⟩
theorem AWp.up {c : ACode} (k : AWp P E (Up E Q) c s) : AWp P E Q c s := fun code hc a w hr => wp_mono (k code hc a w hr) fun e a w h => conc_up h

/-! ### Code -/
theorem AWp.skip (h : Q .normal s) : AWp P E Q .skip s := fun code hc a w hr => by
  cases hc; exact wp_skip ⟨s, h, hr⟩
theorem AWp.ret (h : Q .ret s) : AWp P E Q .ret s := fun code hc a w hr => by
  cases hc; exact wp_ret ⟨s, h, hr⟩
theorem AWp.exit {id : Nat} (h : Q (.exit id) s) : AWp P E Q (.exit id) s := fun code hc a w hr => by
  cases hc; exact wp_exit ⟨s, h, hr⟩
theorem AWp.region {af : List (List Nat)} {gs : List GOp} (h : AWpL P E Q gs s) : AWp P E Q (.region false af gs) s := fun code hc a w hr => by
  cases hc with
  | region hg => exact wp_region_list (h _ _ hg a w hr)

/-- What a sequence asks of its first part. -/
def Seq (P : Program) (E : Env) (Q : Exit → St → Prop) (y : ACode) : Exit → St → Prop
  | .normal, s => AWp P E Q y s
  | e, s => Q e s
theorem AWp.seq {x y : ACode} (h : AWp P E (Seq P E Q y) x s) : AWp P E Q (.seq x y) s := fun code hc a w hr => by
  cases hc with
  | seq h1 h2 =>
    refine wp_seq (wp_mono (h _ h1 a w hr) fun e a w hq => ?_)
    obtain ⟨s1, h3, h4⟩ := hq
    cases e with
    | normal => exact h3 _ h2 a w h4
    | _ => exact ⟨s1, h3, h4⟩

theorem AWp.cond {c : Opd} {x y : ACode} {b : Bool} (hc : s.ev c = .val (.bool b)) (ht : b = true → AWp P E Q x s) (hf : b = false → AWp P E Q y s) : AWp P E Q (.cond c x y) s := fun code hcr a w hr => by
  cases hcr with
  | @cond c' x1 y1 _ _ h1 h2 =>
    have hb : a.eval c' = .bool b := by
      obtain ⟨ρ, ok, hr⟩ := hr
      have := hr.ev (.of c')
      rw [hc, Opd.cv_of] at this; exact R_val this
    exact wp_cond_split hb (fun e => ht e _ h1 a w hr) (fun e => hf e _ h2 a w hr)
theorem AWp.cond_true {c : Opd} {x y : ACode} (hc : s.ev c = .val (.bool true)) (h : AWp P E Q x s) : AWp P E Q (.cond c x y) s :=
  AWp.cond hc (fun _ => h) (fun e => by cases e)
theorem AWp.cond_false {c : Opd} {x y : ACode} (hc : s.ev c = .val (.bool false)) (h : AWp P E Q y s) : AWp P E Q (.cond c x y) s :=
  AWp.cond hc (fun e => by cases e) (fun _ => h)

/-- What a block asks of its body. -/
def Blk (id : Nat) (Q : Exit → St → Prop) : Exit → St → Prop
  | .exit id', s => if id' = id then Q .normal s else Q (.exit id') s
  | e, s => Q e s
theorem AWp.block {id : Nat} {x : ACode} (h : AWp P E (Blk id Q) x s) : AWp P E Q (.block id x) s := fun code hc a w hr => by
  cases hc with
  | block h1 =>
    refine wp_block (wp_mono (h _ h1 a w hr) fun e a w hq => ?_)
    obtain ⟨s1, h3, h4⟩ := hq
    cases e with
    | exit id' =>
      simp only [Blk] at h3
      simp only [Exit.inBlock]
      split
      · rename_i e; rw [if_pos e] at h3; exact ⟨s1, h3, h4⟩
      · rename_i e; rw [if_neg e] at h3; exact ⟨s1, h3, h4⟩
    | _ => exact ⟨s1, h3, h4⟩

/-- A loop: 'I n' holds of the state at each round's head, n going down. -/
def Rnd (I : Nat → St → Prop) (Q : Exit → St → Prop) (n : Nat) : Exit → St → Prop
  | .normal, s => ∃ m, m < n ∧ I m s
  | e, s => Q e s
theorem least {p : Nat → Prop} (h : ∃ n, p n) : ∃ n, p n ∧ ∀ m, p m → n ≤ m := by
  obtain ⟨n, hn⟩ := h
  induction n using Nat.strongRecOn with
  | _ n ih =>
    by_cases hx : ∃ m, m < n ∧ p m
    · obtain ⟨m, h1, h2⟩ := hx
      exact ih m h1 h2
    · exact ⟨n, hn, fun m hm => by
        rcases Nat.lt_or_ge m n with h1 | h1
        · exact absurd ⟨m, h1, hm⟩ hx
        · exact h1⟩
theorem AWp.loop {x : ACode} (I : Nat → St → Prop) {n : Nat} (h0 : I n s) (h : ∀ n s, I n s → AWp P E (Rnd I Q n) x s) : AWp P E Q (.loop x) s := fun code hc a w hr => by
  cases hc with
  | @loop x1 _ h1 =>
    let J : Act → World → Prop := fun a w => ∃ n s, I n s ∧ Rel E s a w
    have hJ : J a w := ⟨n, s, h0, hr⟩
    classical
    let μ : Act → World → Nat := fun a w => if h : J a w then Classical.choose (least h) else 0
    refine wp_loop J μ hJ fun a w hj => ?_
    obtain ⟨s1, h2, h3⟩ := (Classical.choose_spec (least hj)).1
    refine wp_mono (h _ s1 h2 _ h1 a w h3) fun e a' w' hq => ?_
    obtain ⟨s2, h4, h5⟩ := hq
    cases e with
    | normal =>
      obtain ⟨m, h6, h7⟩ := h4
      have hj' : J a' w' := ⟨m, s2, h7, h5⟩
      refine ⟨hj', ?_⟩
      show (if h : J a' w' then Classical.choose (least h) else 0) < (if h : J a w then Classical.choose (least h) else 0)
      rw [dif_pos hj', dif_pos hj]
      exact Nat.lt_of_le_of_lt ((Classical.choose_spec (least hj')).2 m ⟨s2, h7, h5⟩) h6
    | _ => exact ⟨s2, h4, h5⟩
end
end Go.Proofs.Ytmkodhpbjedfkaa.Aw
