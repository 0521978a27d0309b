/- A logic of abstract states for walks: tables, i.e. blocks that are only read and that no region covers. -/
import Derived.Test.YtocghkacngoblaaDoorAwZl
import Derived.Lib.LaidTab
set_option linter.unusedVariables false
set_option linter.unusedSimpArgs false
namespace Go.Proofs.YtocghkacngoblaaDoor.Aw
open Go.RowKit

/-- Blocks with these cells. -/
def GOk (Γ : List (Nat × Array Value)) (w : World) : Prop := ∀ x ∈ Γ, ∃ t m, w.heap[x.1]? = some (.cells x.2 t m)
/-- A contract in worlds with tables. -/
def SpecG (Γ : List (Nat × Array Value)) (P : Program) (f : FuncId) (rg0 : List Reg) (args : List AV) (Post : List Reg → AV → Prop) : Prop :=
  ∀ (w : World) (ρ : Nat → Option (Option Place)) (ok : Nat → Prop) (vals : Array Value), GOk Γ w → (∀ x ∈ Γ, ∀ r p, ρ r = some (some p) → p.b ≠ x.1) → Mem w ok ρ rg0 → RList w ok ρ args vals.toList →
    Calls P f vals w fun e w' => ∃ rg x v ρ' ok', e = .returned v ∧ Post rg x ∧ Mem w' ok' ρ' rg ∧ R w' ok' ρ' x v ∧
      (∀ b, ok' b → ok b ∨ w.heap.size ≤ b ∨ ∃ r0 p0, ρ r0 = some (some p0) ∧ p0.b = b) ∧
      (∀ r p, ρ' r = some (some p) → w.heap.size ≤ p.b ∨ ∃ r0 p0, ρ r0 = some (some p0) ∧ p0.b = p.b) ∧
      Keeps w.heap.size (fun b => ∃ r0 p0, ρ r0 = some (some p0) ∧ p0.b = b) w w' ∧
      (∀ r e cs, rg0[r]? = some (.box e cs) → ρ' r = ρ r)
/-- A contract at the worlds in which a function is under way. -/
def SpecAt (E : Env) (P : Program) (f : FuncId) (rg0 : List Reg) (args : List AV) (Post : List Reg → AV → Prop) : Prop :=
  ∀ (w : World) (ρ : Nat → Option (Option Place)) (ok : Nat → Prop) (vals : Array Value), Keeps E.base E.O0 E.w0 w → (∀ r p, ρ r = some (some p) → E.base ≤ p.b ∨ E.O0 p.b) → Mem w ok ρ rg0 → RList w ok ρ args vals.toList →
    Calls P f vals w fun e w' => ∃ rg x v ρ' ok', e = .returned v ∧ Post rg x ∧ Mem w' ok' ρ' rg ∧ R w' ok' ρ' x v ∧
      (∀ b, ok' b → ok b ∨ w.heap.size ≤ b ∨ ∃ r0 p0, ρ r0 = some (some p0) ∧ p0.b = b) ∧
      (∀ r p, ρ' r = some (some p) → w.heap.size ≤ p.b ∨ ∃ r0 p0, ρ r0 = some (some p0) ∧ p0.b = p.b) ∧
      Keeps w.heap.size (fun b => ∃ r0 p0, ρ r0 = some (some p0) ∧ p0.b = b) w w' ∧
      (∀ r e cs, rg0[r]? = some (.box e cs) → ρ' r = ρ r)
/-- The tables stand where a function begins, and it is not lent them. -/
def TabE (Γ : List (Nat × Array Value)) (E : Env) : Prop := ∀ x ∈ Γ, x.1 < E.base ∧ ¬ E.O0 x.1 ∧ ∃ t m, E.w0.heap[x.1]? = some (.cells x.2 t m)
section
variable {Γ Γ' : List (Nat × Array Value)} {P : Program} {E : Env} {f : FuncId} {rg0 : List Reg} {av av' : List AV} {Post Post' : List Reg → AV → Prop}
theorem Spec.g (h : Spec P f rg0 av Post) : SpecG Γ P f rg0 av Post := fun w ρ ok vals _ _ => h w ρ ok vals
theorem SpecG.mono (h : SpecG Γ P f rg0 av Post) (hs : ∀ x ∈ Γ, x ∈ Γ') : SpecG Γ' P f rg0 av Post := fun w ρ ok vals h1 h2 => h w ρ ok vals (fun x hx => h1 x (hs x hx)) fun x hx => h2 x (hs x hx)
theorem SpecG.at (h : SpecG Γ P f rg0 av Post) (ht : TabE Γ E) : SpecAt E P f rg0 av Post := fun w ρ ok vals hk hs hm ha =>
  h w ρ ok vals (fun x hx => by
    obtain ⟨h1, h2, t, m, h3⟩ := ht x hx
    exact ⟨t, m, (hk.block x.1 h1 h2).trans h3⟩) (fun x hx r p hp he => by
    obtain ⟨h1, h2, _⟩ := ht x hx
    rcases hs r p hp with h | h
    · omega
    · rw [he] at h; exact h2 h) hm ha
theorem SpecG.post (h : SpecG Γ P f rg0 av Post) (hp : ∀ rg x, Post rg x → Post' rg x) : SpecG Γ P f rg0 av Post' := fun w ρ ok vals h1 h2 hm ha => by
  refine (h w ρ ok vals h1 h2 hm ha).mono ?_
  rintro e w' ⟨rg, x, v, ρ', ok', h1, h2, h3⟩
  exact ⟨rg, x, v, ρ', ok', h1, hp _ _ h2, h3⟩
theorem SpecG.args (h : SpecG Γ P f rg0 av Post) (he : EntL av' av) : SpecG Γ P f rg0 av' Post := fun w ρ ok vals h1 h2 hm ha => h w ρ ok vals h1 h2 hm (he.ok ha)
theorem SpecAt.args (h : SpecAt E P f rg0 av Post) (he : EntL av' av) : SpecAt E P f rg0 av' Post := fun w ρ ok vals h1 h2 hm ha => h w ρ ok vals h1 h2 hm (he.ok ha)
theorem SpecAt.post (h : SpecAt E P f rg0 av Post) (hp : ∀ rg x, Post rg x → Post' rg x) : SpecAt E P f rg0 av Post' := fun w ρ ok vals h1 h2 hm ha => by
  refine (h w ρ ok vals h1 h2 hm ha).mono ?_
  rintro e w' ⟨rg, x, v, ρ', ok', h1, h2, h3⟩
  exact ⟨rg, x, v, ρ', ok', h1, hp _ _ h2, h3⟩
/-- A value that holds no region needs none. -/
theorem SpecG.shut (h : SpecG Γ P f [] av Post) (hp : ∀ rg v, Post rg v → v.shut = true ∧ Post' [] v) : SpecG Γ P f [] av Post' := fun w ρ ok vals g1 g2 hm ha => by
  refine (h w ρ ok vals g1 g2 hm ha).mono ?_
  rintro e w' ⟨rg, x, v, ρ', ok', h1, h2, h3, h4, h5, h6, h7, h8⟩
  obtain ⟨k1, k2⟩ := hp rg x h2
  exact ⟨[], x, v, fun _ => none, ok', h1, k2, Mem.none h3.okl, R_of_Rc _ _ (Rc_of_R _ _ k1 h4), h5, fun r p hr => (by cases hr), h7, fun r e cs hr => (by cases hr)⟩
end
theorem pl_some {π : List Nat} {ρ : Nat → Option (Option Place)} {r : Nat} {p : Place} (h : pl π ρ r = some (some p)) : ∃ r', ρ r' = some (some p) := by
  unfold pl at h
  cases hq : π[r]? with
  | none => rw [hq] at h; cases h
  | some r' => rw [hq] at h; exact ⟨r', h⟩

theorem SpecG.intro {P : Program} {Γ : List (Nat × Array Value)} {f : FuncId} {fn : Func} {c : Code} {ac : ACode} {rs : List RV} {rg0 : List Reg} {args : List AV} {Post : List Reg → AV → Prop} (hf : P.funcs[f]? = some fn) (hb : fn.body = some c) (hc : compC P c = some ac)
    (hrs : rvsOf P fn.results.toList = some rs) {n : Nat} (hn : fn.ntmps = n) (hl : args.length ≤ n)
    (h : ∀ E : Env, E.n = n → E.np = rg0.length → (∀ r p, E.pin r = some p → r < E.np ∧ isBox (rg0.getD r .dead) = true) → TabE Γ E → AWp P E (Retn E rs Post) ac ⟨params 0 args, rg0⟩) : SpecG Γ P f rg0 args Post := by
  intro w ρ ok vals hgo hsep hm ha
  have hvl := RList_length ha
  let O0 : Nat → Prop := fun b => ∃ r0 p0, ρ r0 = some (some p0) ∧ p0.b = b
  let pinF : Nat → Option Place := fun r => match rg0[r]?, ρ r with
    | some (.box _ _), some (some p) => some p
    | _, _ => none
  let E : Env := { base := w.heap.size, O0 := O0, okE := ok, w0 := w, pin := pinF, n := n, np := rg0.length }
  have hpin : ∀ r p, E.pin r = some p → (r < E.np ∧ isBox (rg0.getD r .dead) = true) ∧ ρ r = some (some p) := fun r p h => by
    simp only [E, pinF] at h
    split at h <;> first | (cases h; done) | skip
    rename_i e cs q hr hq
    simp only [Option.some.injEq] at h
    subst h
    exact ⟨⟨(List.getElem?_eq_some_iff.1 hr).1, by rw [List.getD_eq_getElem?_getD, hr]; rfl⟩, hq⟩
  have htab : TabE Γ E := fun x hx => by
    obtain ⟨ty, m, hg⟩ := hgo x hx
    exact ⟨(Array.getElem?_eq_some_iff.1 hg).1, fun ⟨r0, p0, h1, h2⟩ => hsep x hx r0 p0 h1 h2, ty, m, hg⟩
  have hw := h E rfl rfl (fun r p hp => (hpin r p hp).1) htab c (compC_ok hc)
  have hsz : (vals ++ Array.replicate (fn.ntmps - vals.size) undef).size = n := by simp at hvl ⊢; omega
  have hrel : Rel E ⟨params 0 args, rg0⟩ { tmps := vals ++ Array.replicate (fn.ntmps - vals.size) undef, defers := [] } w := by
    refine ⟨ρ, ok, hm, fun k => ?_, hsz, rfl, ⟨rfl, rfl, rfl, Nat.le_refl _, fun _ _ _ => rfl⟩, Nat.le_refl _, fun r p hp => .inr ⟨r, p, hp, rfl⟩, fun b hb => .inl hb, fun r p hp => (hpin r p hp).2⟩
    show R w ok ρ (look (params 0 args) k) _
    rcases look_params 0 k ha with h1 | ⟨v, h1, _, h2⟩
    · rw [h1]; unfold R; trivial
    · have : (vals ++ Array.replicate (fn.ntmps - vals.size) undef).getD k undef = v := by
        simp only [Nat.sub_zero, Array.getElem?_toList] at h1
        have hk := (Array.getElem?_eq_some_iff.1 h1).1
        rw [Array.getD_eq_getD_getElem?, Array.getElem?_append_left hk, h1]; rfl
      rw [this]; exact h2
  refine calls_of_wp hf hb (wp_mono (hw _ _ hrel) fun e a' w' hq => ?_)
  have fin : ∀ s, (∃ s' l ob, Weak E s s' ∧ resAVs s' rs = some (l, ob) ∧ ob ∧ Post s'.rg (tupOf l)) → Rel E s a' w' → a'.defers = [] ∧ ∃ v, (results fn a'.tmps).run P w' = .ok v w' ∧
      ∃ rg x v' ρ' ok', Ending.returned v = .returned v' ∧ Post rg x ∧ Mem w' ok' ρ' rg ∧ R w' ok' ρ' x v' ∧
      (∀ b, ok' b → ok b ∨ w.heap.size ≤ b ∨ ∃ r0 p0, ρ r0 = some (some p0) ∧ p0.b = b) ∧
      (∀ r p, ρ' r = some (some p) → w.heap.size ≤ p.b ∨ ∃ r0 p0, ρ r0 = some (some p0) ∧ p0.b = p.b) ∧
      Keeps w.heap.size (fun b => ∃ r0 p0, ρ r0 = some (some p0) ∧ p0.b = b) w w' ∧
      (∀ r e cs, rg0[r]? = some (.box e cs) → ρ' r = ρ r) := by
    rintro s ⟨s', l, ob, h1, h2, h3, h4⟩ hr
    obtain ⟨ρ', ok', hr'⟩ := h1 _ _ hr
    obtain ⟨v, h5, h6⟩ := results_ok (P := P) hr' hrs h2 h3
    refine ⟨hr'.dfr, v, h5, s'.rg, _, v, ρ', ok', rfl, h4, hr'.mem, h6, hr'.okr, hr'.ownr, hr'.kps, fun r e cs hre => ?_⟩
    obtain ⟨b, C, h7, _⟩ := hm.reg r _ hre
    have hp : E.pin r = some ⟨b, 0, cs.length, cs.length⟩ := by simp only [E, pinF, hre, h7]
    rw [hr'.pin r _ hp, h7]
  obtain ⟨s, h1, h2⟩ := hq
  cases e with
  | normal => exact fin s h1 h2
  | ret => exact fin s h1 h2
  | _ => exact h1.elim

theorem SpecG.regsW {Γ : List (Nat × Array Value)} {P : Program} {f : FuncId} {n np : Nat} {rs : List RV} {ac : ACode} (k : FnIs P f n rs ac) {rg0 : List Reg} {args : List AV} {Post : List Reg → AV → Prop} (hl : Nat.ble args.length n = true) (hnp : rg0.length = np)
    (h : ∀ E : Env, E.n = n → E.np = np → PinOk E rg0 → TabE Γ E → AWp P E (Retn E rs Post) ac ⟨params 0 args, rg0⟩) : SpecG Γ P f rg0 args Post := by
  obtain ⟨fn, c, h1, h2, h3, h4, h5⟩ := k
  exact SpecG.intro h1 h2 h3 h4 h5 (Nat.le_of_ble_eq_true hl) fun E hn hp0 hp ht => h E hn (hp0.trans hnp) hp ht
section
variable {P : Program} {E : Env} {Q : Exit → St → Prop} {s s' : St} {a : Act} {w : World} {ρ : Nat → Option (Option Place)} {ok : Nat → Prop}

theorem call_strictT (hr : RelM E s a w ρ ok) {f : FuncId} {π : List Nat} {args : List AV} {vals : Array Value} {Post : List Reg → AV → Prop} (hs : SpecAt E P f (lent s π) args Post)
    (hπ : piOk s.rg.length π = true) (hpin : ∀ r ∈ π, isBox (s.reg r) = true ∨ E.pin r = none) (ha : RList w ok (pl π ρ) args vals.toList) {dst : Option Nat} (hd : dstOk E.n dst = true) {K : Act → World → Prop}
    (h : ∀ rg x, Post rg x → π.length ≤ rg.length ∧ ∀ v w', Rel E (retS s π dst rg x) (a.put dst v) w' → K (a.put dst v) w') :
    Calls P f vals w fun e w' => ∃ v, e = .returned v ∧ K (a.put dst v) w' := by
  obtain ⟨hinj, hlt⟩ := piOk_inj hπ
  refine (hs w (pl π ρ) ok vals hr.kps (fun r p hp => (by obtain ⟨r1, h1⟩ := pl_some hp; exact hr.ownr r1 p h1)) (hr.mem.ren hinj hlt) ha).mono ?_
  rintro e w' ⟨rg, x, v, ρ', ok', rfl, hp, hm, hx, h1, h2, h3, h4⟩
  obtain ⟨h5, h6⟩ := h rg x hp
  refine ⟨v, rfl, h6 v w' ⟨_, _, ret_core hr hπ hpin hd hm hx h1 h5 h2 h3 fun r hb hlt' => ?_⟩⟩
  have hreg : (lent s π)[r]? = some (renR π (s.reg (π.getD r 0))) := map_getD π _ r hlt'
  cases hg : s.reg (π.getD r 0) with
  | box e cs => rw [hg] at hreg; exact h4 r e (renL π cs) hreg
  | arr => rw [hg] at hb; cases hb
  | tab => rw [hg] at hb; cases hb
  | dead => rw [hg] at hb; cases hb


theorem call_lentT (hr : RelM E s a w ρ ok) {f : FuncId} {args : List AV} {vals : Array Value} {Post : List Reg → AV → Prop} (hs : SpecAt E P f [] args Post)
    (ha : RcList w (fun b => b < w.heap.size) args vals.toList) {dst : Option Nat} (hd : dstOk E.n dst = true) {K : Act → World → Prop}
    (h : ∀ rg x, Post rg x → (NI x ∧ ∀ g ∈ rg, NIR g) ∧ ∀ v w', Rel E (retS s [] dst rg x) (a.put dst v) w' → K (a.put dst v) w') :
    Calls P f vals w fun e w' => ∃ v, e = .returned v ∧ K (a.put dst v) w' := by
  refine (hs w (fun _ => none) (fun b => b < w.heap.size) vals hr.kps (fun r p hp => (by cases hp)) (Mem.none fun _ h => h) (RList_of_Rc _ _ ha)).mono ?_
  rintro e w' ⟨rg, x, v, ρ', ok', rfl, hp, hm, hx, h1, h2, h3, h4⟩
  obtain ⟨⟨h5, h5'⟩, h6⟩ := h rg x hp
  refine ⟨v, rfl, h6 v w' ⟨_, _, ret_core hr (π := []) rfl (fun r hr => by cases hr) hd (hm.ni h5') (R_ni x v h5 hx) (fun b hb => hb.elim) (Nat.zero_le _) (fun r p hp => ?_) ⟨h3.os, h3.tape, h3.output, h3.size, fun k hk _ => h3.block k hk fun ⟨r0, p0, h7, _⟩ => by cases h7⟩ fun r hb hlt' => by simp at hlt'⟩⟩
  rcases h2 r p hp with h7 | ⟨r0, p0, h7, _⟩
  · exact .inl h7
  · cases h7


theorem AWpL.callT (π : List Nat) {f : FuncId} {xs : List Opd} {dst : Option Nat} {gs : List GOp} {Post : List Reg → AV → Prop} (hs : SpecAt E P f (lent s π) (xs.map fun x => renA π (s.ev x)) Post)
    (hd : dstOk E.n dst = true) (hπ : piOk s.rg.length π = true) (hpin : ∀ r ∈ π, isBox (s.reg r) = true ∨ E.pin r = none)
    (h : ∀ rg x, Post rg x → π.length ≤ rg.length ∧ AWpL P E Q gs (retS s π dst rg x)) : AWpL P E Q (⟨dst, none, .call f xs⟩ :: gs) s := fun ops l hl a w hrel => by
  obtain ⟨o, l', rfl, h1, h2⟩ := gops_cons hl
  obtain ⟨ρ, ok, hr⟩ := hrel
  obtain ⟨hc, hdst, hg⟩ := gop_guard h1
  rcases hg with ⟨hg0, _⟩ | ⟨_, _, _, _, _, hg⟩
  case inr => cases hg
  unfold wpList
  rw [if_pos (wanted_none hg0 _)]
  left
  obtain ⟨_, vals, hv, hrun⟩ := call_inv (a := a) (w := w) hc
  unfold Oper.wp
  rw [hrun]
  refine upon_enter hdst.symm (call_strictT hr hs hπ hpin (by rw [hv]; exact args_ren hr π xs) hd fun rg x hp => ?_)
  obtain ⟨h3, h4⟩ := h rg x hp
  exact ⟨h3, fun v w' hr' => h4 ops l' h2 _ _ hr'⟩


theorem AWpL.callbT {f : FuncId} {xs : List Opd} {dst : Option Nat} {gs : List GOp} {Post : List Reg → AV → Prop} (hs : SpecAt E P f [] (xs.map fun x => borA 4 s (s.ev x)) Post)
    (hd : dstOk E.n dst = true) (hb : allOb (borOb 4 s) (xs.map s.ev))
    (h : ∀ rg x, Post rg x → (NI x ∧ ∀ g ∈ rg, NIR g) ∧ AWpL P E Q gs (retS s [] dst rg x)) : AWpL P E Q (⟨dst, none, .call f xs⟩ :: gs) s := fun ops l hl a w hrel => by
  obtain ⟨o, l', rfl, h1, h2⟩ := gops_cons hl
  obtain ⟨ρ, ok, hr⟩ := hrel
  obtain ⟨hc, hdst, hg⟩ := gop_guard h1
  rcases hg with ⟨hg0, _⟩ | ⟨_, _, _, _, _, hg⟩
  case inr => cases hg
  unfold wpList
  rw [if_pos (wanted_none hg0 _)]
  left
  obtain ⟨_, vals, hv, hrun⟩ := call_inv (a := a) (w := w) hc
  unfold Oper.wp
  rw [hrun]
  refine upon_enter hdst.symm (call_lentT hr hs (by rw [hv]; exact args_bor hr xs fun x hx => allOb_mem hb _ (List.mem_map.2 ⟨x, hx, rfl⟩)) hd fun rg x hp => ?_)
  obtain ⟨h3, h4⟩ := h rg x hp
  exact ⟨h3, fun v w' hr' => h4 ops l' h2 _ _ hr'⟩


theorem AWpL.callAT (π : List Nat) {f : FuncId} {xs : List Opd} {dst : Option Nat} {gs : List GOp} {rg0 : List Reg} {args : List AV} {Post : List Reg → AV → Prop} (hs : SpecAt E P f rg0 args Post) (hl : lent s π = rg0) (ha : (xs.map fun x => renA π (s.ev x)) = args)
    (hd : dstOk E.n dst = true) (hπ : piOk s.rg.length π = true) (hpin : ∀ r ∈ π, isBox (s.reg r) = true ∨ E.pin r = none)
    (h : ∀ rg x, Post rg x → π.length ≤ rg.length ∧ AWpL P E Q gs (retS s π dst rg x)) : AWpL P E Q (⟨dst, none, .call f xs⟩ :: gs) s := by
  subst hl; subst ha
  exact AWpL.callT π hs hd hπ hpin h

theorem AWpL.calleT {f : FuncId} {xs : List Opd} {dst : Option Nat} {gs : List GOp} {y : AV} (hs : SpecAt E P f [] (xs.map fun x => borA 4 s (s.ev x)) (Gives (· = y)))
    (hy : plainA y = true) (hd : dstOk E.n dst = true) (hb : allOb (borOb 4 s) (xs.map s.ev)) (h : AWpL P E Q gs (s.putO dst y)) : AWpL P E Q (⟨dst, none, .call f xs⟩ :: gs) s :=
  AWpL.callbT hs hd hb fun rg x ⟨hr, hx⟩ => by
    subst hr; subst hx
    exact ⟨⟨plain_ni _ hy, fun _ h => by cases h⟩, by rw [retS_nil, plain_map _ _ hy]; exact h⟩
theorem AWpL.gcalleT {f : FuncId} {xs : List Opd} {dst : Option Nat} {t : Nat} {want b : Bool} {gs : List GOp} {y : AV} (hg : gdB (look s.tm t) want = some b)
    (hs : b = true → SpecAt E P f [] (xs.map fun x => (borA 4 s (s.ev x)).strip) (Gives (· = y))) (hy : plainA y = true) (hd : dstOk E.n dst = true) (hb : b = true → allOb (borOb 4 s) (xs.map s.ev) ∧ allOb (fun x => x.guard = true) (xs.map s.ev))
    (h : AWpL P E Q gs (s.putO dst (.opt b y))) : AWpL P E Q (⟨dst, some (t, want), .call f xs⟩ :: gs) s := by
  cases b with
  | true =>
    obtain ⟨h1, h2⟩ := hb rfl
    exact AWpL.guardT hg (AWpL.calleT ((hs rfl).args (EntL.strips fun x hx => allOb_mem h2 _ (List.mem_map_of_mem hx))) hy hd h1 (AWpL.weak (weak_put Ent.opt) h))
  | false => exact AWpL.guardF hd hg (AWpL.weak (weak_put Ent.off) h)

theorem AWpQ.callbT {f : FuncId} {xs : List Opd} {dst : Option Nat} {gs : List GOp} {y : Value} (hs : SpecAt E P f [] (xs.map fun x => borA 4 s (s.ev x)) fun _ x => x = .val y)
    (hd : dstOk E.n dst = true) (hb : allOb (borOb 4 s) (xs.map s.ev)) (h : AWpQ P E Q gs (s.putO dst (.val y))) : AWpQ P E Q (⟨dst, none, .call f xs⟩ :: gs) s := fun ops l hl a w hrel => by
  obtain ⟨o, l', rfl, h1, h2⟩ := gops_cons hl
  obtain ⟨ρ, ok, hr⟩ := hrel
  obtain ⟨hc, hdst, hg⟩ := gop_guard h1
  rcases hg with ⟨hg0, _⟩ | ⟨_, _, _, _, _, hg⟩
  case inr => cases hg
  unfold wpQuiet
  rw [if_pos (wanted_none hg0 _)]
  refine ⟨y, fun w' he => ?_, ?_⟩
  · obtain ⟨_, vals, hv, hrun⟩ := call_inv (a := a) (w := w') hc
    unfold Oper.quietAt
    rw [hrun]
    refine ⟨rfl, ?_⟩
    have hr' := hr.ext he
    refine (hs w' (fun _ => none) (fun b => b < w'.heap.size) vals hr'.kps (fun r p hp => (by cases hp)) (Mem.none fun _ h => h) (RList_of_Rc _ _ (by rw [hv]; exact args_bor hr' xs fun x hx => allOb_mem hb _ (List.mem_map.2 ⟨x, hx, rfl⟩)))).mono ?_
    rintro e w'' ⟨rg, x, v, ρ', ok', rfl, rfl, hm, hx, h3, h4, h5, h6⟩
    refine ⟨by rw [R_val hx], he.trans ⟨h5.os, h5.tape, h5.output, h5.size, fun k hk => h5.block k hk fun ⟨r0, p0, h7, _⟩ => by cases h7⟩⟩
  · exact h ops l' h2 _ _ ⟨ρ, ok, by rw [← hdst]; exact hr.putO hd (R_val_mk y)⟩

theorem AWpQ.calleT {f : FuncId} {xs : List Opd} {dst : Option Nat} {gs : List GOp} {y : Value} (hs : SpecAt E P f [] (xs.map fun x => borA 4 s (s.ev x)) (Gives (· = .val y)))
    (hd : dstOk E.n dst = true) (hb : allOb (borOb 4 s) (xs.map s.ev)) (h : AWpQ P E Q gs (s.putO dst (.val y))) : AWpQ P E Q (⟨dst, none, .call f xs⟩ :: gs) s :=
  AWpQ.callbT (hs.post fun rg x hx => hx.2) hd hb h

theorem AOne.callbT {m : Bool} {f : FuncId} {xs : List Opd} {dst : Option Nat} {K : St → Prop} {Post : List Reg → AV → Prop} (hs : SpecAt E P f [] (xs.map fun x => borA 4 s (s.ev x)) Post)
    (hd : dstOk E.n dst = true) (hb : allOb (borOb 4 s) (xs.map s.ev)) (h : ∀ rg x, Post rg x → (NI x ∧ ∀ g ∈ rg, NIR g) ∧ K (retS s [] dst rg x)) : AOne P E m ⟨dst, none, .call f xs⟩ s K := fun ops o hg a w hrel Q => by
  obtain ⟨ρ, ok, hr⟩ := hrel
  obtain ⟨hc, hdst, hgd⟩ := gop_guard hg
  rcases hgd with ⟨hg0, _⟩ | ⟨_, _, _, _, _, hgd⟩
  case inr => cases hgd
  rw [if_pos (wanted_none hg0 _)]
  left
  obtain ⟨_, vals, hv, hrun⟩ := call_inv (a := a) (w := w) hc
  unfold Oper.wp
  rw [hrun]
  refine upon_enter hdst.symm ?_
  have ha : RcList w (fun b => b < w.heap.size) (xs.map fun x => borA 4 s (s.ev x)) vals.toList := by rw [hv]; exact args_bor hr xs fun x hx => allOb_mem hb _ (List.mem_map.2 ⟨x, hx, rfl⟩)
  refine (hs w (fun _ => none) (fun b => b < w.heap.size) vals hr.kps (fun r p hp => (by cases hp)) (Mem.none fun _ h => h) (RList_of_Rc _ _ ha)).mono ?_
  rintro e w' ⟨rg, x, v, ρ', ok', rfl, hp, hm, hx, h1, h2, h3, h4⟩
  obtain ⟨⟨h5, h5'⟩, h6⟩ := h rg x hp
  have hext : Ext w w' := ⟨h3.os, h3.tape, h3.output, h3.size, fun k hk => h3.block k hk fun ⟨r0, p0, h7, _⟩ => by cases h7⟩
  refine ⟨v, rfl, fun _ => hext, _, h6, _, _, ret_core hr (π := []) rfl (fun r hr => by cases hr) hd (hm.ni h5') (R_ni x v h5 hx) (fun b hb => hb.elim) (Nat.zero_le _) (fun r p hp => ?_) ⟨h3.os, h3.tape, h3.output, h3.size, fun k hk _ => h3.block k hk fun ⟨r0, p0, h7, _⟩ => by cases h7⟩ fun r hb hlt' => by simp at hlt'⟩
  rcases h2 r p hp with h7 | ⟨r0, p0, h7, _⟩
  · exact .inl h7
  · cases h7

theorem AOne.calleT {m : Bool} {f : FuncId} {xs : List Opd} {dst : Option Nat} {K : St → Prop} {y : AV} (hs : SpecAt E P f [] (xs.map fun x => borA 4 s (s.ev x)) (Gives (· = y)))
    (hy : plainA y = true) (hd : dstOk E.n dst = true) (hb : allOb (borOb 4 s) (xs.map s.ev)) (h : K (s.putO dst y)) : AOne P E m ⟨dst, none, .call f xs⟩ s K :=
  AOne.callbT hs hd hb fun rg x ⟨hr, hx⟩ => by
    subst hr; subst hx
    exact ⟨⟨plain_ni _ hy, fun _ h => by cases h⟩, by rw [retS_nil, plain_map _ _ hy]; exact h⟩


theorem AOne.callAT {m : Bool} {f : FuncId} {xs : List Opd} {dst : Option Nat} {K : St → Prop} {args : List AV} {Post : List Reg → AV → Prop} (hs : SpecAt E P f [] args Post) (ha : (xs.map fun x => renA [] (s.ev x)) = args)
    (hd : dstOk E.n dst = true) (h : ∀ rg x, Post rg x → K (retS s [] dst rg x)) : AOne P E m ⟨dst, none, .call f xs⟩ s K := fun ops o hg a w hrel Q => by
  subst ha
  obtain ⟨ρ, ok, hr⟩ := hrel
  obtain ⟨hc, hdst, hgd⟩ := gop_guard hg
  rcases hgd with ⟨hg0, _⟩ | ⟨_, _, _, _, _, hgd⟩
  case inr => cases hgd
  rw [if_pos (wanted_none hg0 _)]
  left
  obtain ⟨_, vals, hv, hrun⟩ := call_inv (a := a) (w := w) hc
  unfold Oper.wp
  rw [hrun]
  refine upon_enter hdst.symm ?_
  obtain ⟨hinj, hlt⟩ := piOk_inj (len := s.rg.length) (π := []) rfl
  have hav : RList w ok (pl [] ρ) (xs.map fun x => renA [] (s.ev x)) vals.toList := by rw [hv]; exact args_ren hr [] xs
  refine (hs w (pl [] ρ) ok vals hr.kps (fun r p hp => (by obtain ⟨r1, h1⟩ := pl_some hp; exact hr.ownr r1 p h1)) (hr.mem.ren hinj hlt) hav).mono ?_
  rintro e w' ⟨rg, x, v, ρ', ok', rfl, hp, hm, hx, h1, h2, h3, h4⟩
  have hno : ∀ k, ¬ ∃ r0 p0, pl [] ρ r0 = some (some p0) ∧ p0.b = k := fun k ⟨r0, p0, h7, _⟩ => by simp [pl] at h7
  have hext : Ext w w' := ⟨h3.os, h3.tape, h3.output, h3.size, fun k hk => h3.block k hk (hno k)⟩
  exact ⟨v, rfl, fun _ => hext, _, h rg x hp, _, _, ret_core hr (π := []) rfl (fun r hr => by cases hr) hd hm hx h1 (Nat.zero_le _) h2 h3 fun r hb hlt' => by simp at hlt'⟩

end
/-- A table is a block with these cells. -/
theorem tab_block {P : Program} {w : World} {name : String} {g : Nat} {cs : Array Value} (hg : P.globalNamed name = some g) (h : w.var? P name = some cs) : ∃ t m, w.heap[g]? = some (.cells cs t m) := by
  unfold World.var? at h
  rw [hg, Option.bind_some] at h
  cases hh : w.heap[g]? with
  | none => rw [hh] at h; cases h
  | some o =>
    rw [hh] at h
    cases o with
    | cells c t m => simp only [Option.some.injEq] at h; subst h; exact ⟨t, m, rfl⟩
    | _ => cases h
theorem block_tab {P : Program} {w : World} {name : String} {g : Nat} {cs : Array Value} (hg : P.globalNamed name = some g) (h : ∃ t m, w.heap[g]? = some (.cells cs t m)) : w.var? P name = some cs := by
  obtain ⟨t, m, h⟩ := h
  unfold World.var?
  rw [hg, Option.bind_some, h]
/-- From a function of the library that makes new blocks at most. -/
theorem SpecG.ofBelow {Γ : List (Nat × Array Value)} {P : Program} {f : FuncId} {vs : List Value} {v : Value} (h : ∀ w, GOk Γ w → Calls P f vs.toArray w fun e w' => e = .returned v ∧ Below w.heap.size w w') : SpecG Γ P f [] (vs.map AV.val) (Gives (· = .val v)) := by
  intro w ρ ok vals hgo hsep hm hr
  have hv : vals = vs.toArray := by
    have : ∀ (vs : List Value) (xs : List Value), RList w ok ρ (vs.map AV.val) xs → xs = vs := by
      intro vs
      induction vs with
      | nil => intro xs hx; cases xs with
        | nil => rfl
        | cons => simp [RList] at hx
      | cons a vs ih => intro xs hx; cases xs with
        | nil => simp [RList] at hx
        | cons x xs =>
          simp only [List.map_cons, RList, R] at hx
          obtain ⟨y, ys, h1, h2, h3⟩ := hx
          injection h1 with h4 h5
          subst h4 h5 h2
          rw [ih _ h3]
    have h1 := this vs vals.toList hr
    rw [← h1]
  subst hv
  refine (h w hgo).mono ?_
  rintro e w' ⟨rfl, hb⟩
  refine ⟨[], .val v, v, fun _ => none, fun _ => False, rfl, ⟨rfl, rfl⟩, Mem.none fun _ h => h.elim, by unfold R; rfl, fun b h => h.elim, fun r p h => (by cases h), ⟨hb.os, hb.tape, hb.output, hb.size, fun k hk _ => hb.block k hk⟩, fun r e cs h => (by cases h)⟩
/-! A variable in memory that is only read from now on. -/
section
variable {P : Program} {E : Env} {s : St}
theorem weak_pim (t r : Nat) {e : TypeId} {cs : List AV} (ht : look s.tm t = .ptr r 0 0) (hg : s.reg r = .box e cs) (hsh : shutAll cs = true) (hp : E.pin r = none) : Weak E s ⟨(t, .pim cs) :: (killS s r .dead).tm, (killS s r .dead).rg⟩ := fun a w ⟨ρ, ok, hr⟩ => by
  have hvx := hr.tm t
  rw [ht] at hvx
  unfold R at hvx
  obtain ⟨p, hpl, hv⟩ := hvx
  have hreg := hr.mem.reg r _ (reg_some hg (by simp))
  have hrlt : r < s.rg.length := (List.getElem?_eq_some_iff.1 (reg_some hg (by simp))).1
  obtain ⟨b, C, q1, q2, q3⟩ := hreg
  rw [q1] at hpl
  obtain rfl := by simpa using hpl
  let ok' : Nat → Prop := fun c => ok c ∨ c = b
  have hk : ∀ c, ok c → ok' c := fun c h => .inl h
  have hne : ∀ {k q}, (fun k => if k = r then none else ρ k) k = some q → k ≠ r ∧ ρ k = some q := fun {k q} h => by
    dsimp only at h
    split at h
    · cases h
    · exact ⟨by assumption, h⟩
  have hrd : Reads ok w w := fun _ _ _ _ h => h
  have hkill : ∀ k j, killM r k = some j → (fun k => if k = r then none else ρ k) j = ρ k := fun k j hk => by
    obtain ⟨rfl, hne⟩ := killM_ne hk
    exact if_neg hne
  have hval : ∀ x v, R w ok ρ x v → R w ok' (fun k => if k = r then none else ρ k) (mapA (killM r) x) v := fun x v hx =>
    R_frame hrd hk (fun _ _ h => h) _ _ (R_map hkill x v hx)
  have hvals : ∀ xs vs, RList w ok ρ xs vs → RList w ok' (fun k => if k = r then none else ρ k) (mapL (killM r) xs) vs := fun xs vs hx =>
    RList_frame hrd hk (fun _ _ h => h) _ _ (RList_map hkill xs vs hx)
  have hr' : RelM E (killS s r .dead) a w (fun k => if k = r then none else ρ k) ok' := by
    refine ⟨⟨fun c h => ?_, fun k k' p p' h1 h2 h3 => hr.mem.inj k k' p p' (hne h1).2 (hne h2).2 h3, fun k p h => ?_, fun k g hk' => ?_, fun k hk' => ?_⟩, fun n => ?_, hr.siz, hr.dfr, hr.kps, hr.bas, fun k p h => hr.ownr k p (hne h).2, fun c h => ?_, fun k p h => ?_⟩
    · rcases h with h | rfl
      · exact hr.mem.okl c h
      · exact (hr.mem.own r _ q1).1
    · obtain ⟨h1, h2⟩ := hne h
      refine ⟨(hr.mem.own k p h2).1, fun h3 => ?_⟩
      rcases h3 with h3 | h3
      · exact (hr.mem.own k p h2).2 h3
      · exact h1 (hr.mem.inj k r p _ h2 q1 h3)
    · by_cases e1 : k = r
      · subst e1
        rw [killS, List.getElem?_set] at hk'
        simp only [if_true, List.length_map, hrlt] at hk'
        obtain rfl := Option.some.inj hk'
        exact if_pos rfl
      · rw [killS, List.getElem?_set_ne (Ne.symm e1), List.getElem?_map, Option.map_eq_some_iff] at hk'
        obtain ⟨g0, hg0, rfl⟩ := hk'
        have h0 := hr.mem.reg k g0 hg0
        have hρ : (fun k => if k = r then none else ρ k) k = ρ k := if_neg e1
        cases g0 with
        | dead => exact hρ.trans h0
        | box e' cs =>
          obtain ⟨b, C, h1, h2, h3⟩ := h0
          exact ⟨b, C, by rw [hρ, mapL_length]; exact h1, h2, hvals _ _ h3⟩
        | arr e' sz' els' =>
          rcases h0 with ⟨b, d, C, pre, vs, rest, h1, h2, h3, h4, h5, h6⟩ | ⟨h1, h2⟩
          · exact .inl ⟨b, d, C, pre, vs, rest, hρ.trans h1, h2, h3, h4, h5, RcList_frame hrd hk _ _ h6⟩
          · exact .inr ⟨h1, hρ.trans h2⟩
        | tab e' cs =>
          rcases h0 with ⟨b, d, C, pre, vs, rest, h1, h2, h3, h4, h6⟩ | ⟨h1, h2⟩
          · exact .inl ⟨b, d, C, pre, vs, rest, hρ.trans h1, h2, h3, h4, hvals _ _ h6⟩
          · exact .inr ⟨by rw [h1]; rfl, hρ.trans h2⟩
    · have hlen : s.rg.length ≤ k := by simpa [killS] using hk'
      show (if k = r then none else ρ k) = none
      rw [if_neg (by omega)]
      exact hr.mem.out k hlen
    · show R w ok' _ (look (mapT (killM r) s.tm) n) _
      rw [look_map]
      exact hval _ _ (hr.tm n)
    · rcases h with h | rfl
      · exact hr.okr c h
      · exact .inr (hr.ownr r _ q1)
    · have h1 := hr.pin k p h
      have h2 : k ≠ r := fun e1 => by rw [e1, hp] at h; cases h
      show (if k = r then none else ρ k) = _
      rw [if_neg h2]; exact h1
  have hcl : RcList w ok' cs C.toList := RcList_frame hrd hk _ _ (RcList_of_R _ _ hsh q3)
  refine ⟨fun k => if k = r then none else ρ k, ok', ⟨hr'.mem, fun q => ?_, hr'.siz, hr'.dfr, hr'.kps, hr'.bas, hr'.ownr, hr'.okr, hr'.pin⟩⟩
  show R w ok' _ (look ((t, .pim cs) :: (killS s r .dead).tm) q) _
  rw [look_ite]
  split
  · rename_i hq
    subst hq
    rw [hv]
    unfold R Rc
    refine ⟨b, 0, by simp, .inr rfl, RcCells_of 0 hcl fun j u hj => ?_⟩
    rw [Nat.zero_add, cell_of q2, ← Array.getElem?_toList]; exact hj
  · exact hr'.tm q
end
end Go.Proofs.YtocghkacngoblaaDoor.Aw
