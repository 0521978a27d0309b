/- Calls after which what was lent still stands where it stood. -/
import Derived.Test.YtoickofcmngdjaaAwZl
set_option linter.unusedVariables false
set_option linter.unusedSimpArgs false
namespace Go.Proofs.Ytoickofcmngdjaa
open Go.Proofs.Ytoickofcmngdjaa.Aw
attribute [local go_sem] Int.natCast_zero Int.natCast_one bne_self_eq_false beq_self_eq_true Bool.not_true Bool.not_false Option.isSome_none Option.isSome_some Aw.bkM_nil Option.getD_some Option.getD_none Nat.sub_zero Int.toNat_zero Aw.frzS Aw.frzT Aw.frzA Aw.frzL Aw.frzR Aw.frzO Aw.frzOL Aw.frzOT Aw.frzOR Aw.killS Aw.mapT Aw.mapR Aw.killM Aw.resAVs Aw.resAV Aw.quietOps Aw.wpP Aw.wpT Aw.wpS Aw.AOp.mild List.getElem?_cons_zero List.getElem?_cons_succ Bool.and_false Bool.and_self Bool.false_and Aw.opOb Aw.gdB Aw.Rnd Aw.subTm List.length_map Int.toNat_natCast and_self Aw.SeqC Aw.stops Aw.Ends Aw.looks Aw.renA Aw.renL Aw.renT Aw.renS Aw.wpO Aw.aop Aw.putTm Aw.St.ev Aw.St.put Aw.St.putO Aw.binAV Aw.intBin Aw.strBin Aw.pickAV Aw.optInt Aw.AV.strip Aw.AV.guard Aw.AV.cells Aw.gdOb Aw.AOp.opds Aw.AOp.still Aw.ptrCells Aw.St.reg Aw.fillAV Aw.fillOb Aw.elsOb Aw.splice Aw.firm Aw.cellish Aw.AV.shut Aw.shutAll Aw.Seq Aw.Blk Aw.retS_nil Aw.mapA Aw.mapL Aw.borA Aw.borOb Aw.allOb Aw.tupOf Aw.params Aw.Opd.of Array.toList Value.cells List.map_cons List.map_nil List.getD_cons_zero List.getD_cons_succ List.getD_nil List.length_cons List.length_nil List.take_succ_cons List.take_zero List.take_nil List.drop_zero List.drop_succ_cons List.drop_nil List.set_cons_zero List.set_cons_succ List.append_nil List.nil_append List.cons_append List.all_cons List.all_nil cond_false cond_true if_true if_false true_and and_true Bool.and_true Bool.true_and Option.map_some Option.map_none false_implies forall_const implies_true forall_eq imp_self Bool.cond_false_right Bool.cond_true_left beq_true beq_false Bool.not_eq_true' Bool.false_eq_true Nat.zero_add Nat.add_zero Aw.eqCells Aw.stopDraw Aw.skipS Aw.exactCap Aw.revealS Aw.srcEls Aw.srcSz
attribute [local go_sem ↓] Aw.look_nil Aw.look_ite Aw.wpL_nil Aw.wpL_op Aw.wpL_gd Aw.wpQ_nil Aw.wpQ_op Aw.wpQ_gd Aw.wpC_draw Aw.wpC_reg Aw.wpC_skip Aw.wpC_ret Aw.wpC_exit Aw.wpC_seq Aw.wpC_block Aw.wpC_loop Aw.wpC_cond Aw.stopAt_nil Aw.stopAt_cons Aw.wpD_skip Aw.wpD_ret Aw.wpD_exit Aw.wpD_region Aw.wpD_draw Aw.wpM_nil Aw.wpM_op Aw.wpM_gd Aw.wpD_seq Aw.wpD_block Aw.wpD_loop Aw.wpD_cond
open Go.RowKit
def SpecK (P : Program) (f : FuncId) (rg0 : List Reg) (args : List AV) (Post : List Reg → AV → Prop) : Prop :=
  ∀ (w : World) (ρ : Nat → Option (Option Aw.Place)) (ok : Nat → Prop) (vals : Array Value), Mem w ok ρ rg0 → RList w ok ρ args vals.toList →
    Calls P f vals w fun e w' => ∃ rg x v ρ' ok', e = .returned v ∧ Post rg x ∧ Mem w' ok' ρ' rg ∧ R w' ok' ρ' x v ∧
      (∀ b, ok' b → ok b ∨ w.heap.size ≤ b ∨ ∃ r0 p0, ρ r0 = some (some p0) ∧ p0.b = b) ∧
      (∀ r p, ρ' r = some (some p) → w.heap.size ≤ p.b ∨ ∃ r0 p0, ρ r0 = some (some p0) ∧ p0.b = p.b) ∧
      Keeps w.heap.size (fun b => ∃ r0 p0, ρ r0 = some (some p0) ∧ p0.b = b) w w' ∧
      (∀ r p, r < rg0.length → ρ r = some (some p) → ρ' r = some (some p))
section
variable {P : Program}
theorem SpecK.intro {f : FuncId} {fn : Func} {c : Code} {ac : ACode} {rs : List RV} {rg0 : List Reg} {args : List AV} {Post : List Reg → AV → Prop} (hf : P.funcs[f]? = some fn) (hb : fn.body = some c) (hc : compC P c = some ac)
    (hrs : rvsOf P fn.results.toList = some rs) {n : Nat} (hn : fn.ntmps = n) (hl : args.length ≤ n)
    (h : ∀ E : Env, E.n = n → E.np = rg0.length → PinOk E (rg0.map fun _ => .box 0 []) → AWp P E (Retn E rs Post) ac ⟨params 0 args, rg0⟩) : SpecK P f rg0 args Post := by
  intro w ρ ok vals hm ha
  have hvl := RList_length ha
  let O0 : Nat → Prop := fun b => ∃ r0 p0, ρ r0 = some (some p0) ∧ p0.b = b
  let pinF : Nat → Option Aw.Place := fun r => if r < rg0.length then (match ρ r with
    | some (some p) => some p
    | _ => none) else none
  let E : Env := { base := w.heap.size, O0 := O0, okE := ok, w0 := w, pin := pinF, n := n, np := rg0.length }
  have hpin : ∀ r p, E.pin r = some p → (r < E.np ∧ isBox ((rg0.map fun _ => Reg.box 0 []).getD r .dead) = true) ∧ ρ r = some (some p) := fun r p h => by
    simp only [E, pinF] at h
    split at h <;> first | (cases h; done) | skip
    rename_i hlt
    split at h <;> first | (cases h; done) | skip
    rename_i q hq
    simp only [Option.some.injEq] at h
    subst h
    exact ⟨⟨hlt, by rw [List.getD_eq_getElem?_getD, List.getElem?_map, List.getElem?_eq_getElem hlt]; rfl⟩, hq⟩
  have hw := h E rfl rfl (fun r p hp => (hpin r p hp).1) c (compC_ok hc)
  have hsz : (vals ++ Array.replicate (fn.ntmps - vals.size) undef).size = n := by simp at hvl ⊢; omega
  have hrel : Rel E ⟨params 0 args, rg0⟩ { tmps := vals ++ Array.replicate (fn.ntmps - vals.size) undef, defers := [] } w := by
    refine ⟨ρ, ok, hm, fun k => ?_, hsz, rfl, ⟨rfl, rfl, rfl, Nat.le_refl _, fun _ _ _ => rfl⟩, Nat.le_refl _, fun r p hp => .inr ⟨r, p, hp, rfl⟩, fun b hb => .inl hb, fun r p hp => (hpin r p hp).2⟩
    show R w ok ρ (Aw.look (params 0 args) k) _
    rcases look_params 0 k ha with h1 | ⟨v, h1, _, h2⟩
    · rw [h1]; unfold R; trivial
    · have : (vals ++ Array.replicate (fn.ntmps - vals.size) undef).getD k undef = v := by
        simp only [Nat.sub_zero, Array.getElem?_toList] at h1
        have hk := (Array.getElem?_eq_some_iff.1 h1).1
        rw [Array.getD_eq_getD_getElem?, Array.getElem?_append_left hk, h1]; rfl
      rw [this]; exact h2
  refine calls_of_wp hf hb (wp_mono (hw _ _ hrel) fun e a' w' hq => ?_)
  have fin : ∀ s, (∃ s' l ob, Weak E s s' ∧ resAVs s' rs = some (l, ob) ∧ ob ∧ Post s'.rg (tupOf l)) → Rel E s a' w' → a'.defers = [] ∧ ∃ v, (results fn a'.tmps).run P w' = .ok v w' ∧
      ∃ rg x v' ρ' ok', Ending.returned v = .returned v' ∧ Post rg x ∧ Mem w' ok' ρ' rg ∧ R w' ok' ρ' x v' ∧
      (∀ b, ok' b → ok b ∨ w.heap.size ≤ b ∨ ∃ r0 p0, ρ r0 = some (some p0) ∧ p0.b = b) ∧
      (∀ r p, ρ' r = some (some p) → w.heap.size ≤ p.b ∨ ∃ r0 p0, ρ r0 = some (some p0) ∧ p0.b = p.b) ∧
      Keeps w.heap.size (fun b => ∃ r0 p0, ρ r0 = some (some p0) ∧ p0.b = b) w w' ∧
      (∀ r p, r < rg0.length → ρ r = some (some p) → ρ' r = some (some p)) := by
    rintro s ⟨s', l, ob, h1, h2, h3, h4⟩ hr
    obtain ⟨ρ', ok', hr'⟩ := h1 _ _ hr
    obtain ⟨v, h5, h6⟩ := results_ok (P := P) hr' hrs h2 h3
    refine ⟨hr'.dfr, v, h5, s'.rg, _, v, ρ', ok', rfl, h4, hr'.mem, h6, hr'.okr, hr'.ownr, hr'.kps, fun r p hlt hrp => ?_⟩
    have hp : E.pin r = some p := by simp only [E, pinF, if_pos hlt, hrp]
    exact hr'.pin r _ hp
  obtain ⟨s, h1, h2⟩ := hq
  cases e with
  | normal => exact fin s h1 h2
  | ret => exact fin s h1 h2
  | _ => exact h1.elim
theorem SpecK.regsW {f : FuncId} {n np : Nat} {rs : List RV} {ac : ACode} (k : FnIs P f n rs ac) {rg0 : List Reg} {args : List AV} {Post : List Reg → AV → Prop} (hl : Nat.ble args.length n = true) (hnp : rg0.length = np)
    (h : ∀ E : Env, E.n = n → E.np = np → PinOk E (rg0.map fun _ => .box 0 []) → AWp P E (Retn E rs Post) ac ⟨params 0 args, rg0⟩) : SpecK P f rg0 args Post := by
  obtain ⟨fn, c, h1, h2, h3, h4, h5⟩ := k
  exact SpecK.intro h1 h2 h3 h4 h5 (Nat.le_of_ble_eq_true hl) fun E hn hp0 hp => h E hn (hp0.trans hnp) hp
theorem SpecK.spec {f : FuncId} {rg0 : List Reg} {args : List AV} {Post : List Reg → AV → Prop} (h : SpecK P f rg0 args Post) : Aw.Spec P f rg0 args Post := fun w ρ ok vals hm ha => by
  refine (h w ρ ok vals hm ha).mono ?_
  rintro e w' ⟨rg, x, v, ρ', ok', h1, h2, h3, h4, h5, h6, h7, h8⟩
  refine ⟨rg, x, v, ρ', ok', h1, h2, h3, h4, h5, h6, h7, fun r e cs hre => ?_⟩
  obtain ⟨b, C, h9, _⟩ := hm.reg r _ hre
  rw [h9]
  exact h8 r _ (List.getElem?_eq_some_iff.1 hre).1 h9
variable {E : Env} {Q : Exit → St → Prop} {s : St}
theorem AWpL_callK (π : List Nat) (t : Nat) {f : FuncId} {xs : List Opd} {dst : Option Nat} {gs : List GOp} {rg0 : List Reg} {args : List AV} {Post : List Reg → AV → Prop} {r i m k : Nat} {ex : Bool} (hs : SpecK P f rg0 args Post) (hl : lent s π = rg0) (ha : (xs.map fun x => renA π (s.ev x)) = args)
    (hd : dstOk E.n dst = true) (hπ : piOk s.rg.length π = true) (hpin : ∀ r ∈ π, isBox (s.reg r) = true ∨ E.pin r = none)
    (ht : Aw.look s.tm t = .hnd r 0 m k ex) (hr0 : pos π r = some i) (hm0 : 0 < m) (hdt : dst ≠ some t)
    (h : ∀ rg x, Post rg x → π.length ≤ rg.length ∧ AWpL P E Q gs ⟨(t, .hnd r 0 m k ex) :: (retS s π dst rg x).tm, (retS s π dst rg x).rg⟩) : AWpL P E Q (⟨dst, none, .call f xs⟩ :: gs) s := fun ops l hl' a w hrel => by
  subst hl; subst ha
  obtain ⟨o, l', rfl, h1, h2⟩ := gops_cons hl'
  obtain ⟨ρ, ok, hr⟩ := hrel
  obtain ⟨hc, hdst, hg⟩ := gop_guard h1
  rcases hg with ⟨hg0, _⟩ | ⟨_, _, _, _, _, hg⟩
  case inr => cases hg
  unfold wpList
  rw [if_pos (wanted_none hg0 _)]
  left
  obtain ⟨_, vals, hv, hrun⟩ := call_inv (a := a) (w := w) hc
  unfold Oper.wp
  rw [hrun]
  refine upon_enter hdst.symm ?_
  obtain ⟨hinj, hlt⟩ := piOk_inj hπ
  refine (hs w (pl π ρ) ok vals (hr.mem.ren hinj hlt) (by rw [hv]; exact args_ren hr π xs)).mono ?_
  rintro e w' ⟨rg, x, v, ρ', ok', rfl, hp, hm, hx, k1, k2, k3, k4⟩
  obtain ⟨h5, h6⟩ := h rg x hp
  have hplen : (lent s π).length = π.length := List.length_map _
  have hcore := ret_core hr hπ hpin hd hm hx k1 h5 k2 k3 fun r hb hlt' => by
    have hreg : (lent s π)[r]? = some (renR π (s.reg (π.getD r 0))) := map_getD π _ r hlt'
    cases hg : s.reg (π.getD r 0) with
    | box e cs =>
      have hbox := (hr.mem.ren hinj hlt).reg r (renR π (s.reg (π.getD r 0))) hreg
      rw [hg] at hbox
      obtain ⟨b, C, h7, _⟩ := hbox
      rw [h7]
      exact k4 r _ (by rw [hplen]; exact hlt') h7
    | arr => rw [hg] at hb; cases hb
    | tab => rw [hg] at hb; cases hb
    | dead => rw [hg] at hb; cases hb
  refine ⟨v, rfl, h6 ops l' h2 _ _ ⟨_, _, ⟨hcore.mem, fun q => ?_, hcore.siz, hcore.dfr, hcore.kps, hcore.bas, hcore.ownr, hcore.okr, hcore.pin⟩⟩⟩
  by_cases hq : q = t
  · subst hq
    have hlook : Aw.look ((q, AV.hnd r 0 m k ex) :: (retS s π dst rg x).tm) q = .hnd r 0 m k ex := by
      unfold Aw.look; simp
    rw [hlook]
    have hold := hr.tm q
    rw [ht] at hold
    have hval : (a.put dst v).tmps.getD q undef = a.tmps.getD q undef := by
      cases dst with
      | none => rfl
      | some d =>
        have hne : d ≠ q := fun e => hdt (by rw [e])
        show (a.tmps.setIfInBounds d v).getD q undef = _
        rw [Array.getD_eq_getD_getElem?, Array.getElem?_setIfInBounds_ne hne, ← Array.getD_eq_getD_getElem?]
    rw [hval]
    unfold R at hold ⊢
    rcases hold with ⟨p, cc, ad, g1, g2⟩ | ⟨_, _, _, g4, _⟩
    · left
      refine ⟨p, cc, ad, ?_, g2⟩
      have hrl : r < s.rg.length := hlt r (List.mem_of_getElem? (pos_get hr0))
      simp only [hrl, if_true, hr0]
      exact k4 i p (by rw [hplen]; exact (List.getElem?_eq_some_iff.1 (pos_get hr0)).1) (by rw [pl_of hr0]; exact g1)
    · omega
  · have hlook : Aw.look ((t, AV.hnd r 0 m k ex) :: (retS s π dst rg x).tm) q = Aw.look (retS s π dst rg x).tm q := by
      show (bif t == q then AV.hnd r 0 m k ex else Aw.look (retS s π dst rg x).tm q) = _
      rw [beq_eq_false_iff_ne.2 (Ne.symm hq)]; rfl
    rw [hlook]
    exact hcore.tm q
end
end Go.Proofs.Ytoickofcmngdjaa
