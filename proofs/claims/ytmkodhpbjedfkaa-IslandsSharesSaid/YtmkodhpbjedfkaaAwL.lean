/- A logic of abstract states for walks: what a call of a function gives. -/
import Derived.Test.YtmkodhpbjedfkaaAwK
set_option linter.unusedVariables false
set_option linter.unusedSimpArgs false
namespace Go.Proofs.Ytmkodhpbjedfkaa.Aw
open Go.RowKit

/-! ### Regions numbered anew -/
def pos : List Nat → Nat → Option Nat
  | [], _ => none
  | x :: l, r => bif x == r then some 0 else (pos l r).map (· + 1)
theorem pos_get : ∀ {l : List Nat} {r j : Nat}, pos l r = some j → l[j]? = some r
  | [], r, j, h => by simp [pos] at h
  | x :: l, r, j, h => by
    unfold pos at h
    cases hx : (x == r) with
    | true =>
      rw [hx] at h
      simp only [cond_true, Option.some.injEq] at h
      subst h
      simpa using hx
    | false =>
      rw [hx] at h
      simp only [cond_false, Option.map_eq_some_iff] at h
      obtain ⟨i, hi, rfl⟩ := h
      simpa using pos_get hi
mutual
def renA (π : List Nat) : AV → AV
  | .hnd r off n k ex => match pos π r with
    | some j => .hnd j off n k ex
    | none => .any
  | .ptr r i o => match pos π r with
    | some j => .ptr j i o
    | none => .any
  | .fn f caps => .fn f (renL π caps)
  | .agg cs => .agg (renL π cs)
  | .tup cs => .tup (renL π cs)
  | .opt c x => .opt c (renA π x)
  | .any => .any
  | .val v => .val v
  | .imm a b c d => .imm a b c d
  | .pim cs => .pim cs
def renL (π : List Nat) : List AV → List AV
  | [] => []
  | x :: xs => renA π x :: renL π xs
end
def renR (π : List Nat) : Reg → Reg
  | .box e cs => .box e (renL π cs)
  | g => g
def renT (π : List Nat) : List (Nat × AV) → List (Nat × AV)
  | [] => []
  | (i, x) :: l => (i, renA π x) :: renT π l
def renS (π : List Nat) (s : St) : St := ⟨renT π s.tm, π.map fun r => renR π (s.rg.getD r .dead)⟩
def pl (π : List Nat) (ρ : Nat → Option (Option Place)) : Nat → Option (Option Place) := fun j => (π[j]?).bind ρ

section
variable {w : World} {ok : Nat → Prop} {ρ : Nat → Option (Option Place)} {π : List Nat}
theorem pl_of {r j : Nat} (h : pos π r = some j) : pl π ρ j = ρ r := by unfold pl; rw [pos_get h]; rfl
mutual
theorem R_ren : ∀ (x : AV) (v : Value), R w ok ρ x v → R w ok (pl π ρ) (renA π x) v
  | .hnd r off n k ex, v, h => by
    unfold renA
    split
    · rename_i j hj
      unfold R at h ⊢
      rw [pl_of hj]; exact h
    · unfold R; trivial
  | .ptr r i o, v, h => by
    unfold renA
    split
    · rename_i j hj
      unfold R at h ⊢
      rw [pl_of hj]; exact h
    · unfold R; trivial
  | .fn f caps, v, h => by
    unfold renA; unfold R at h ⊢
    obtain ⟨vs, h1, h2⟩ := h
    exact ⟨vs, h1, RList_ren _ _ h2⟩
  | .agg cs, v, h => by
    unfold renA; unfold R at h ⊢
    obtain ⟨vs, h1, h2⟩ := h
    exact ⟨vs, h1, RList_ren _ _ h2⟩
  | .tup cs, v, h => by
    unfold renA; unfold R at h ⊢
    obtain ⟨vs, h1, h2⟩ := h
    exact ⟨vs, h1, RList_ren _ _ h2⟩
  | .opt c x, v, h => by
    unfold renA; unfold R at h ⊢
    exact ⟨fun hc => R_ren x v (h.1 hc), h.2⟩
  | .any, v, h => by unfold renA R; trivial
  | .val x, v, h => by unfold renA; unfold R at h ⊢; exact h
  | .imm a b c d, v, h => by unfold renA; unfold R at h ⊢; exact h
  | .pim cs, v, h => by unfold renA; unfold R at h ⊢; exact h
theorem RList_ren : ∀ (xs : List AV) (vs : List Value), RList w ok ρ xs vs → RList w ok (pl π ρ) (renL π xs) vs
  | [], vs, h => by unfold renL; unfold RList at h ⊢; exact h
  | x :: xs, vs, h => by
    unfold renL; unfold RList at h ⊢
    obtain ⟨v, vs', e, h1, h2⟩ := h
    exact ⟨v, vs', e, R_ren x v h1, RList_ren xs vs' h2⟩
end
theorem renL_length : ∀ xs : List AV, (renL π xs).length = xs.length
  | [] => rfl
  | x :: xs => by simp [renL, renL_length xs]
theorem look_ren : ∀ (l : List (Nat × AV)) (n : Nat), look (renT π l) n = renA π (look l n)
  | [], n => by simp [renT, look, renA]
  | (i, x) :: l, n => by
    unfold renT look
    cases (i == n)
    · simp only [cond_false]; exact look_ren l n
    · rfl
theorem Mem.ren {rg : List Reg} (h : Mem w ok ρ rg) (hn : ∀ j r, π[j]? = some r → pos π r = some j) (hl : ∀ r ∈ π, r < rg.length) : Mem w ok (pl π ρ) (π.map fun r => renR π (rg.getD r .dead)) := by
  refine ⟨h.okl, fun r r' p p' h1 h2 h3 => ?_, fun r p h1 => ?_, fun r g hg => ?_, fun r hr => ?_⟩
  · unfold pl at h1 h2
    obtain ⟨a, h4, h5⟩ := Option.bind_eq_some_iff.1 h1
    obtain ⟨b, h6, h7⟩ := Option.bind_eq_some_iff.1 h2
    have := h.inj a b p p' h5 h7 h3
    subst this
    have h8 := hn _ _ h4
    rw [hn _ _ h6] at h8
    exact (Option.some.inj h8).symm
  · unfold pl at h1
    obtain ⟨a, h4, h5⟩ := Option.bind_eq_some_iff.1 h1
    exact h.own a p h5
  · rw [List.getElem?_map, Option.map_eq_some_iff] at hg
    obtain ⟨a, ha, rfl⟩ := hg
    have hlt := hl a (List.mem_of_getElem? ha)
    have h0 := h.reg a (rg.getD a .dead) (by rw [List.getD_eq_getElem?_getD, List.getElem?_eq_getElem hlt]; rfl)
    have hp : pl π ρ r = ρ a := by unfold pl; rw [ha]; rfl
    generalize rg.getD a .dead = g at h0
    cases g with
    | dead => exact hp.trans h0
    | box e cs =>
      obtain ⟨b, C, h1, h2, h3⟩ := h0
      exact ⟨b, C, by rw [hp, renL_length]; exact h1, h2, RList_ren _ _ h3⟩
    | arr e sz els =>
      rcases h0 with ⟨b, d, C, pre, vs, rest, h1, h2⟩ | ⟨h1, h2⟩
      · exact .inl ⟨b, d, C, pre, vs, rest, hp.trans h1, h2⟩
      · exact .inr ⟨h1, hp.trans h2⟩
  · unfold pl
    rw [List.getElem?_eq_none (by simpa using hr)]; rfl
end

/-- Regions dropped and numbered anew: those of the call's own caller keep their numbers. -/
def renOk (np : Nat) (len : Nat) (π : List Nat) : Bool := ((List.range π.length).all fun j => pos π (π.getD j 0) == some j) && π.all (fun r => Nat.blt r len) && (List.range np).all fun r => π[r]? == some r
theorem weak_ren {E : Env} {s : St} (π : List Nat) (hp : ∀ r p, E.pin r = some p → r < E.np) (h : renOk E.np s.rg.length π = true) : Weak E s (renS π s) := fun a w ⟨ρ, ok, hr⟩ => by
  simp only [renOk, Bool.and_eq_true] at h
  obtain ⟨⟨h1, h2⟩, h3⟩ := h
  have h1' : ∀ j r, π[j]? = some r → pos π r = some j := fun j r hj => by
    have hlt := (List.getElem?_eq_some_iff.1 hj).1
    have := List.all_eq_true.1 h1 j (List.mem_range.2 hlt)
    rw [List.getD_eq_getElem?_getD, hj] at this
    simpa using this
  have h2' : ∀ r ∈ π, r < s.rg.length := fun r hm => by
    have := List.all_eq_true.1 h2 r hm
    simpa [Nat.blt_eq] using this
  refine ⟨pl π ρ, ok, hr.mem.ren h1' h2', fun n => ?_, hr.siz, hr.dfr, hr.kps, hr.bas, fun r p hp => ?_, hr.okr, fun r p hp' => ?_⟩
  · show R w ok (pl π ρ) (look (renT π s.tm) n) _
    rw [look_ren]; exact R_ren _ _ (hr.tm n)
  · unfold pl at hp
    obtain ⟨b, _, h5⟩ := Option.bind_eq_some_iff.1 hp
    exact hr.ownr b p h5
  · have := List.all_eq_true.1 h3 r (List.mem_range.2 (hp r p hp'))
    unfold pl
    rw [show π[r]? = some r by simpa using this]
    exact hr.pin r p hp'

/-- Temporaries are forgotten. -/
def subTm (tm : List (Nat × AV)) : List (Nat × AV) → Prop
  | [] => True
  | (i, x) :: l => look tm i = x ∧ subTm tm l
theorem look_cons (i n : Nat) (x : AV) (l : List (Nat × AV)) : look ((i, x) :: l) n = bif i == n then x else look l n := rfl
theorem subTm_look {tm : List (Nat × AV)} : ∀ {l : List (Nat × AV)}, subTm tm l → ∀ n, look l n = .any ∨ look l n = look tm n
  | [], _, n => .inl rfl
  | (i, x) :: l, h, n => by
    rw [look_cons]
    cases hi : (i == n)
    · exact subTm_look h.2 n
    · right
      obtain rfl : i = n := by simpa using hi
      exact h.1.symm
theorem weak_tm {E : Env} {s : St} {tm : List (Nat × AV)} (h : subTm s.tm tm) : Weak E s ⟨tm, s.rg⟩ := fun a w ⟨ρ, ok, hr⟩ =>
  ⟨ρ, ok, hr.mem, fun n => by
    rcases subTm_look h n with h1 | h1
    · show R w ok ρ (look tm n) _
      rw [h1]; unfold R; trivial
    · show R w ok ρ (look tm n) _
      rw [h1]; exact hr.tm n, hr.siz, hr.dfr, hr.kps, hr.bas, hr.ownr, hr.okr, hr.pin⟩
theorem Weak.trans {E : Env} {s s' s'' : St} (h : Weak E s s') (k : Weak E s' s'') : Weak E s s'' := fun a w hr => k a w (h a w hr)

/-- A nil slice is an array of the call's own without elements. -/
theorem weak_nil {E : Env} {s : St} (i : Nat) (e : TypeId) (sz : Nat) (h : look s.tm i = .val (.slice none 0 0)) :
    Weak E s ⟨putTm s.tm i (.hnd s.rg.length 0 0 0 false), s.rg ++ [.arr e sz []]⟩ := fun a w ⟨ρ, ok, hr⟩ => by
  have hn := hr.mem.out s.rg.length (Nat.le_refl _)
  have hold := addPl_old hn none
  have hnew : addPl ρ s.rg.length none s.rg.length = some none := by unfold addPl; rw [if_pos rfl]
  have hne : ∀ r p, addPl ρ s.rg.length none r = some (some p) → ρ r = some (some p) := fun r p hp => by
    unfold addPl at hp
    split at hp
    · cases hp
    · exact hp
  refine ⟨addPl ρ s.rg.length none, ok, ⟨hr.mem.okl, fun r r' p p' h1 h2 h3 => hr.mem.inj r r' p p' (hne _ _ h1) (hne _ _ h2) h3, fun r p hp => hr.mem.own r p (hne _ _ hp), fun r g hg => ?_, fun r hr' => ?_⟩, fun n => ?_, hr.siz, hr.dfr, hr.kps, hr.bas, fun r p hp => hr.ownr r p (hne _ _ hp), hr.okr, fun r p hp => hold _ _ (hr.pin r p hp)⟩
  · by_cases e1 : r = s.rg.length
    · subst e1
      obtain rfl : g = .arr e sz [] := by simpa using hg.symm
      exact .inr ⟨rfl, hnew⟩
    · have hlt : r < s.rg.length := by
        have := (List.getElem?_eq_some_iff.1 hg).1
        simp at this; omega
      rw [List.getElem?_append_left hlt] at hg
      have h0 := hr.mem.reg r g hg
      have hρr : addPl ρ s.rg.length none r = ρ r := by unfold addPl; rw [if_neg e1]
      cases g with
      | dead => exact hρr.trans h0
      | box e' cs =>
        obtain ⟨b, C, h1, h2, h3⟩ := h0
        exact ⟨b, C, hρr.trans h1, h2, RList_frame (fun _ _ _ _ x => x) (fun _ x => x) hold _ _ h3⟩
      | arr e' sz els =>
        rcases h0 with ⟨b, d, C, pre, vs, rest, h1, h2⟩ | ⟨h0, h1⟩
        · exact .inl ⟨b, d, C, pre, vs, rest, hρr.trans h1, h2⟩
        · exact .inr ⟨h0, hρr.trans h1⟩
  · unfold addPl
    have : s.rg.length + 1 ≤ r := by simpa using hr'
    rw [if_neg (by omega)]
    exact hr.mem.out r (by omega)
  · show R w ok _ (look (putTm s.tm i _) n) _
    rw [look_put]
    by_cases e1 : n = i
    · subst e1
      rw [if_pos rfl]
      have := hr.tm n
      rw [h] at this
      unfold R
      exact .inr ⟨hnew, R_val this, rfl, rfl, rfl⟩
    · rw [if_neg e1]
      exact R_frame (fun _ _ _ _ x => x) (fun _ x => x) hold _ _ (hr.tm n)

def isBox : Reg → Bool
  | .box .. => true
  | _ => false
/-! ### A function -/
/-- What a call of function f with these regions and arguments gives: regions and a result. -/
def Spec (P : Program) (f : FuncId) (rg0 : List Reg) (args : List AV) (Post : List Reg → AV → Prop) : Prop :=
  ∀ (w : World) (ρ : Nat → Option (Option Place)) (ok : Nat → Prop) (vals : Array Value), Mem w ok ρ rg0 → RList w ok ρ args vals.toList →
    Calls P f vals w fun e w' => ∃ rg x v ρ' ok', e = .returned v ∧ Post rg x ∧ Mem w' ok' ρ' rg ∧ R w' ok' ρ' x v ∧
      (∀ b, ok' b → ok b ∨ w.heap.size ≤ b ∨ ∃ r0 p0, ρ r0 = some (some p0) ∧ p0.b = b) ∧
      (∀ r p, ρ' r = some (some p) → w.heap.size ≤ p.b ∨ ∃ r0 p0, ρ r0 = some (some p0) ∧ p0.b = p.b) ∧
      Keeps w.heap.size (fun b => ∃ r0 p0, ρ r0 = some (some p0) ∧ p0.b = b) w w' ∧
      (∀ r e cs, rg0[r]? = some (.box e cs) → ρ' r = ρ r)

/-- Where a result stands. -/
inductive RV where
  | t (n : Nat)
  | c (p n : Nat) (ag : Bool)
def rvOf (P : Program) : ResultVar → Option RV
  | .tmp i => some (.t i)
  | .cell p ty => match P.underlying ty, P.info? ty with
    | some d, some i => some (.c p i.size (isAg d))
    | _, _ => none
def rvsOf (P : Program) : List ResultVar → Option (List RV)
  | [] => some []
  | x :: l => match rvOf P x, rvsOf P l with
    | some y, some r => some (y :: r)
    | _, _ => none
def resAV (s : St) : RV → Option (AV × Prop)
  | .t n => some (look s.tm n, True)
  | .c p n ag => match ptrCells s (look s.tm p) with
    | some (cs, o, ob) => some (bif ag then .agg ((cs.drop o).take n) else cs.getD o .any, ob ∧ o + n ≤ cs.length ∧ (ag = false → n = 1))
    | none => none
def resAVs (s : St) : List RV → Option (List AV × Prop)
  | [] => some ([], True)
  | x :: l => match resAV s x, resAVs s l with
    | some (y, ob), some (r, ob') => some (y :: r, ob ∧ ob')
    | _, _ => none
def tupOf : List AV → AV
  | [x] => x
  | l => .tup l
/-- The post of a body. -/
def Retn (E : Env) (rs : List RV) (Post : List Reg → AV → Prop) : Exit → St → Prop
  | .ret, s => ∃ s' l ob, Weak E s s' ∧ resAVs s' rs = some (l, ob) ∧ ob ∧ Post s'.rg (tupOf l)
  | .normal, s => ∃ s' l ob, Weak E s s' ∧ resAVs s' rs = some (l, ob) ∧ ob ∧ Post s'.rg (tupOf l)
  | _, _ => False
def params : Nat → List AV → List (Nat × AV)
  | _, [] => []
  | i, x :: l => (i, x) :: params (i + 1) l

section
variable {P : Program} {E : Env} {s : St} {a : Act} {w : World} {ρ : Nat → Option (Option Place)} {ok : Nat → Prop}
def resOne (a : Act) : ResultVar → Sem Value
  | .tmp t => pure (a.tmps.getD t undef)
  | .cell p t => do loadVar t (← asAddr (a.tmps.getD p undef))
theorem results_eq (fn : Func) (a : Act) : results fn a.tmps = (do
    let vs ← fn.results.mapM (resOne a)
    pure (if h : vs.size = 1 then vs[0] else .tuple vs)) := by
  unfold results
  have e : ∀ x, (match x with | .tmp t => pure (a.tmps.getD t undef) | .cell p t => do loadVar t (← asAddr (a.tmps.getD p undef)) : Sem Value) = resOne a x := fun x => by cases x <;> rfl
  congr 1
theorem resAV_ok (hr : RelM E s a w ρ ok) {x : ResultVar} {y : RV} (hx : rvOf P x = some y) {z : AV} {ob : Prop} (h : resAV s y = some (z, ob)) (hob : ob) :
    ∃ v, (resOne a x).run P w = .ok v w ∧ R w ok ρ z v := by
  cases x with
  | tmp i =>
    simp only [rvOf, Option.some.injEq] at hx
    subst hx
    simp only [resAV, Option.some.injEq, Prod.mk.injEq] at h
    obtain ⟨rfl, rfl⟩ := h
    exact ⟨_, rfl, hr.tm i⟩
  | cell p ty =>
    simp only [rvOf] at hx
    split at hx <;> first | (cases hx; done) | skip
    rename_i d i hd hi
    simp only [Option.some.injEq] at hx
    subst hx
    simp only [resAV] at h
    split at h <;> first | (cases h; done) | skip
    rename_i cs o ob' hc
    simp only [Option.some.injEq, Prod.mk.injEq] at h
    obtain ⟨rfl, rfl⟩ := h
    obtain ⟨b, o', u, h1, h2, h3⟩ := load_ok (P := P) hr hd hi (hr.tm p) hc hob.1 hob.2.1 hob.2.2
    refine ⟨u, ?_, h3⟩
    simp [resOne, h1, asAddr, h2 w (Ext.refl w)]

theorem resAVs_ok (hr : RelM E s a w ρ ok) : ∀ {xs : List ResultVar} {ys : List RV}, rvsOf P xs = some ys → ∀ {zs : List AV} {ob : Prop}, resAVs s ys = some (zs, ob) → ob →
    ∃ vs, (xs.mapM (resOne a)).run P w = .ok vs w ∧ RList w ok ρ zs vs
  | [], ys, hx, zs, ob, h, _ => by
    simp only [rvsOf, Option.some.injEq] at hx
    subst hx
    simp only [resAVs, Option.some.injEq, Prod.mk.injEq] at h
    obtain ⟨rfl, rfl⟩ := h
    exact ⟨[], by simp, by unfold RList; rfl⟩
  | x :: xs, ys, hx, zs, ob, h, hob => by
    unfold rvsOf at hx
    split at hx <;> first | (cases hx; done) | skip
    rename_i y r h1 h2
    simp only [Option.some.injEq] at hx
    subst hx
    unfold resAVs at h
    split at h <;> first | (cases h; done) | skip
    rename_i z ob1 zr ob2 h3 h4
    simp only [Option.some.injEq, Prod.mk.injEq] at h
    obtain ⟨rfl, rfl⟩ := h
    obtain ⟨v, h5, h6⟩ := resAV_ok (P := P) hr h1 h3 hob.1
    obtain ⟨vs, h7, h8⟩ := resAVs_ok hr h2 h4 hob.2
    refine ⟨v :: vs, ?_, by unfold RList; exact ⟨v, vs, rfl, h6, h8⟩⟩
    simp only [List.mapM_cons, Sem.run_bind]
    rw [h5]
    simp only [Result.andThen_ok]
    rw [h7]
    simp

theorem results_ok (hr : RelM E s a w ρ ok) {fn : Func} {ys : List RV} (hx : rvsOf P fn.results.toList = some ys) {zs : List AV} {ob : Prop} (h : resAVs s ys = some (zs, ob)) (hob : ob) :
    ∃ v, (results fn a.tmps).run P w = .ok v w ∧ R w ok ρ (tupOf zs) v := by
  obtain ⟨vs, h1, h2⟩ := resAVs_ok (P := P) hr hx h hob
  have hl := RList_length h2
  have hrun : (results fn a.tmps).run P w = .ok (if h : vs.toArray.size = 1 then vs.toArray[0] else .tuple vs.toArray) w := by
    rw [results_eq, Array.mapM_eq_mapM_toList]
    simp only [Sem.run_bind, Sem.run_map]
    rw [h1]
    simp
  refine ⟨_, hrun, ?_⟩
  match zs, vs, h2, hl with
  | [z], [v], h2, _ =>
    unfold RList at h2
    obtain ⟨v', vs', e, h3, _⟩ := h2
    injection e with e1 _
    subst e1
    simpa [tupOf] using h3
  | [], [], h2, _ =>
    simp only [tupOf, List.size_toArray, List.length_nil]
    rw [dif_neg (by simp)]
    unfold R; exact ⟨#[], rfl, h2⟩
  | z1 :: z2 :: zs, v1 :: v2 :: vs, h2, _ =>
    rw [dif_neg (by simp)]
    simp only [tupOf]
    unfold R; exact ⟨_, rfl, by simpa using h2⟩

theorem look_params : ∀ {xs : List AV} {vs : List Value} (i n : Nat), RList w ok ρ xs vs → look (params i xs) n = .any ∨ ∃ v, vs[n - i]? = some v ∧ i ≤ n ∧ R w ok ρ (look (params i xs) n) v
  | [], vs, i, n, _ => .inl rfl
  | x :: xs, vs, i, n, h => by
    unfold RList at h
    obtain ⟨v, vs', rfl, h1, h2⟩ := h
    unfold params
    rw [look_cons]
    cases hi : (i == n)
    · simp only [cond_false]
      have hne : i ≠ n := by simpa using hi
      rcases look_params (i + 1) n h2 with h3 | ⟨u, h3, h4, h5⟩
      · exact .inl h3
      · right
        refine ⟨u, ?_, by omega, h5⟩
        rw [show n - i = (n - (i + 1)) + 1 by omega]
        simpa using h3
    · obtain rfl : i = n := by simpa using hi
      right
      exact ⟨v, by simp, Nat.le_refl _, h1⟩

/-- From a function's body to its contract. -/
theorem Spec.intro {f : FuncId} {fn : Func} {c : Code} {ac : ACode} {rs : List RV} {rg0 : List Reg} {args : List AV} {Post : List Reg → AV → Prop} (hf : P.funcs[f]? = some fn) (hb : fn.body = some c) (hc : compC P c = some ac)
    (hrs : rvsOf P fn.results.toList = some rs) {n : Nat} (hn : fn.ntmps = n) (hl : args.length ≤ n)
    (h : ∀ E : Env, E.n = n → E.np = rg0.length → (∀ r p, E.pin r = some p → r < E.np ∧ isBox (rg0.getD r .dead) = true) → AWp P E (Retn E rs Post) ac ⟨params 0 args, rg0⟩) : Spec P f rg0 args Post := by
  intro w ρ ok vals hm ha
  have hvl := RList_length ha
  let O0 : Nat → Prop := fun b => ∃ r0 p0, ρ r0 = some (some p0) ∧ p0.b = b
  let pinF : Nat → Option Place := fun r => match rg0[r]?, ρ r with
    | some (.box _ _), some (some p) => some p
    | _, _ => none
  let E : Env := { base := w.heap.size, O0 := O0, okE := ok, w0 := w, pin := pinF, n := n, np := rg0.length }
  have hpin : ∀ r p, E.pin r = some p → (r < E.np ∧ isBox (rg0.getD r .dead) = true) ∧ ρ r = some (some p) := fun r p h => by
    simp only [E, pinF] at h
    split at h <;> first | (cases h; done) | skip
    rename_i e cs q hr hq
    simp only [Option.some.injEq] at h
    subst h
    exact ⟨⟨(List.getElem?_eq_some_iff.1 hr).1, by rw [List.getD_eq_getElem?_getD, hr]; rfl⟩, hq⟩
  have hw := h E rfl rfl (fun r p hp => (hpin r p hp).1) c (compC_ok hc)
  have hsz : (vals ++ Array.replicate (fn.ntmps - vals.size) undef).size = n := by simp at hvl ⊢; omega
  have hrel : Rel E ⟨params 0 args, rg0⟩ { tmps := vals ++ Array.replicate (fn.ntmps - vals.size) undef, defers := [] } w := by
    refine ⟨ρ, ok, hm, fun k => ?_, hsz, rfl, ⟨rfl, rfl, rfl, Nat.le_refl _, fun _ _ _ => rfl⟩, Nat.le_refl _, fun r p hp => .inr ⟨r, p, hp, rfl⟩, fun b hb => .inl hb, fun r p hp => (hpin r p hp).2⟩
    show R w ok ρ (look (params 0 args) k) _
    rcases look_params 0 k ha with h1 | ⟨v, h1, _, h2⟩
    · rw [h1]; unfold R; trivial
    · have : (vals ++ Array.replicate (fn.ntmps - vals.size) undef).getD k undef = v := by
        simp only [Nat.sub_zero, Array.getElem?_toList] at h1
        have hk := (Array.getElem?_eq_some_iff.1 h1).1
        rw [Array.getD_eq_getD_getElem?, Array.getElem?_append_left hk, h1]; rfl
      rw [this]; exact h2
  refine calls_of_wp hf hb (wp_mono (hw _ _ hrel) fun e a' w' hq => ?_)
  have fin : ∀ s, (∃ s' l ob, Weak E s s' ∧ resAVs s' rs = some (l, ob) ∧ ob ∧ Post s'.rg (tupOf l)) → Rel E s a' w' → a'.defers = [] ∧ ∃ v, (results fn a'.tmps).run P w' = .ok v w' ∧
      ∃ rg x v' ρ' ok', Ending.returned v = .returned v' ∧ Post rg x ∧ Mem w' ok' ρ' rg ∧ R w' ok' ρ' x v' ∧
      (∀ b, ok' b → ok b ∨ w.heap.size ≤ b ∨ ∃ r0 p0, ρ r0 = some (some p0) ∧ p0.b = b) ∧
      (∀ r p, ρ' r = some (some p) → w.heap.size ≤ p.b ∨ ∃ r0 p0, ρ r0 = some (some p0) ∧ p0.b = p.b) ∧
      Keeps w.heap.size (fun b => ∃ r0 p0, ρ r0 = some (some p0) ∧ p0.b = b) w w' ∧
      (∀ r e cs, rg0[r]? = some (.box e cs) → ρ' r = ρ r) := by
    rintro s ⟨s', l, ob, h1, h2, h3, h4⟩ hr
    obtain ⟨ρ', ok', hr'⟩ := h1 _ _ hr
    obtain ⟨v, h5, h6⟩ := results_ok (P := P) hr' hrs h2 h3
    refine ⟨hr'.dfr, v, h5, s'.rg, _, v, ρ', ok', rfl, h4, hr'.mem, h6, hr'.okr, hr'.ownr, hr'.kps, fun r e cs hre => ?_⟩
    obtain ⟨b, C, h7, _⟩ := hm.reg r _ hre
    have hp : E.pin r = some ⟨b, 0, cs.length, cs.length⟩ := by simp only [E, pinF, hre, h7]
    rw [hr'.pin r _ hp, h7]
  obtain ⟨s, h1, h2⟩ := hq
  cases e with
  | normal => exact fin s h1 h2
  | ret => exact fin s h1 h2
  | _ => exact h1.elim
end
end Go.Proofs.Ytmkodhpbjedfkaa.Aw
