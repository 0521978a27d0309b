/- A logic of abstract states for walks: the question whether two arrays overlap. -/
import Derived.Test.YtmkodhpbjedfkaaAwZf
import Derived.Lib.Overlaps
set_option linter.unusedVariables false
set_option linter.unusedSimpArgs false
namespace Go.Proofs.Ytmkodhpbjedfkaa.Aw
open Go.RowKit

section
variable {P : Program} {E : Env} {Q : Exit → St → Prop} {s s' : St} {a : Act} {w : World} {ρ : Nat → Option (Option Place)} {ok : Nat → Prop}
/-- The function without a body that asks whether two slices overlap. -/
def OvlFn (P : Program) (f : FuncId) (sz : Nat) : Prop := ∃ (fn : Func) (tS tR e : TypeId), P.funcs[f]? = some fn ∧ (fn.name == "runtime.NumGoroutine") = false ∧ fn.body.isNone = true ∧ Extern.findNext fn = none ∧
  Extern.find fn = some (Extern.SlicesOverlaps.overlaps #[tS, tS] #[tR]) ∧ P.underlying tS = some (.slice e) ∧ (P.info? e).map (·.size) = some sz
theorem ext_inv {o : Oper} {f : FuncId} {xs : List Opd} (hc : comp P o = some (.bad (some f) xs)) : ∃ vals : Array Value, vals.toList = xs.map (Opd.cv a) ∧ (execOp a.eval o).run P w = (callFunc f vals).run P w := by
  unfold comp at hc
  cases h0 : comp0 P o with
  | some z =>
    rw [h0] at hc
    simp only [Option.getD_some, Option.some.injEq] at hc
    subst hc
    exfalso
    obtain ⟨dst, op, type, ps, after, guard⟩ := o
    cases op <;> simp only [comp0, Option.some.injEq, reduceCtorEq] at h0
    case call c =>
      obtain ⟨callee, args, argTypes⟩ := c
      dsimp only at h0
      cases callee with
      | invoke r m => simp only [reduceCtorEq] at h0
      | builtin b =>
        cases b <;> simp only [reduceCtorEq] at h0
        all_goals (repeat' (split at h0)) <;> simp only [Option.some.injEq, reduceCtorEq] at h0
      | value g =>
        cases g <;> simp only [Option.some.injEq, reduceCtorEq] at h0
        (repeat' (split at h0)) <;> simp only [Option.some.injEq, reduceCtorEq] at h0
    case makeFunc fn first caps =>
      cases fn <;> simp only [reduceCtorEq] at h0
      split at h0 <;> simp only [Option.some.injEq, reduceCtorEq] at h0
    all_goals (repeat' (split at h0)) <;> first | (simp only [Option.some.injEq, reduceCtorEq] at h0; done) | (simp only [Option.map_eq_some_iff, reduceCtorEq, and_false, exists_false] at h0; done) | skip
  | none =>
    rw [h0] at hc
    simp only [Option.getD_none, Option.some.injEq] at hc
    unfold badOf at hc
    obtain ⟨dst, op, type, ps, after, guard⟩ := o
    cases op <;> simp only [AOp.bad.injEq, reduceCtorEq, false_and] at hc
    case call c =>
      obtain ⟨callee, args, argTypes⟩ := c
      dsimp only at hc
      cases callee with
      | invoke r m => simp only [AOp.bad.injEq, reduceCtorEq, false_and] at hc
      | builtin b => simp only [AOp.bad.injEq, reduceCtorEq, false_and] at hc
      | value g =>
        cases g <;> simp only [AOp.bad.injEq, reduceCtorEq, false_and] at hc
        split at hc
        · split at hc
          · simp only [AOp.bad.injEq, Option.some.injEq] at hc
            obtain ⟨rfl, rfl⟩ := hc
            refine ⟨args.map a.eval, ?_, ?_⟩
            · simp only [Array.toList_map, List.map_map]
              refine List.map_congr_left fun x _ => ?_
              exact (Opd.cv_of a x).symm
            · simp [execOp, resolve, Act.eval, Deferred.ofValue, Sem.run_bind, Sem.run_pure, Result.andThen_ok, invoke]
          · simp only [AOp.bad.injEq, reduceCtorEq, false_and] at hc
        · simp only [AOp.bad.injEq, reduceCtorEq, false_and] at hc

/-- Two arrays of two regions do not overlap. -/
theorem AWpL.ovl {f : FuncId} {x y : Opd} {dst : Option Nat} {gs : List GOp} {sz : Nat} {r off n k r' off' n' k' : Nat} {ex ex' : Bool} {e e' : TypeId} {els els' : List (List AV)} {sz1 sz2 : Nat}
    (hf : OvlFn P f sz) (hx : s.ev x = .hnd r off n k ex) (hy : s.ev y = .hnd r' off' n' k' ex') (hne : r ≠ r') (hg : s.reg r = .arr e sz1 els) (hg' : s.reg r' = .arr e' sz2 els') (hz2 : sz2 ≠ 0) (h0 : 0 < n) (h0' : 0 < n') (hd : dstOk E.n dst = true)
    (h : AWpL P E Q gs (St.putO s dst (.val (.bool false)))) : AWpL P E Q (⟨dst, none, .bad (some f) [x, y]⟩ :: gs) s := fun ops l hl a w hrel => by
  obtain ⟨o, l', rfl, h1, h2⟩ := gops_cons hl
  obtain ⟨ρ, ok, hr⟩ := hrel
  obtain ⟨hcp, hdst, hgd⟩ := gop_guard h1
  rcases hgd with ⟨hg0, _⟩ | ⟨_, _, _, _, _, hgd⟩
  case inr => cases hgd
  unfold wpList
  rw [if_pos (wanted_none hg0 _)]
  left
  obtain ⟨vals, hvals, hrun⟩ := ext_inv (a := a) (w := w) hcp
  obtain ⟨vals⟩ := vals
  simp only [List.map_cons, List.map_nil] at hvals
  subst hvals
  obtain ⟨fn, tS, tR, te, f1, f2, f3, f4, f5, f6, f70⟩ := hf
  obtain ⟨i, f7, f8⟩ := Option.map_eq_some_iff.1 f70
  have hvx := hr.ev x
  have hvy := hr.ev y
  rw [hx] at hvx
  rw [hy] at hvy
  have key : (Extern.SlicesOverlaps.overlaps #[tS, tS] #[tR] #[x.cv a, y.cv a]).run P w = .ok (.bool false) w := by
    unfold R at hvx hvy
    rcases hvx with ⟨p, cc, ad, g1, g2, g3, g4, g5, g6, g7⟩ | ⟨g1, g2, g3, g4, g5⟩
    · rcases hvy with ⟨p', cc', ad', l1, l2, l3, l4, l5, l6, l7⟩ | ⟨l1, l2, l3, l4, l5⟩
      · rw [g2, l2]
        have hb : p.b ≠ p'.b := fun e0 => hne (hr.mem.inj r r' p p' g1 l1 e0)
        have q3 : ad = ⟨p.b, p.d + off * p.sz, none⟩ := by
          rcases g3 with g3 | g3
          · omega
          · exact g3
        have m3 : ad' = ⟨p'.b, p'.d + off' * p'.sz, none⟩ := by
          rcases l3 with l3 | l3
          · omega
          · exact l3
        rw [q3, m3]
        rcases hr.mem.reg r _ (reg_some hg (by simp)) with ⟨b, d, C, pre, vs, rest, q1, q2, _⟩ | ⟨_, q2⟩
        · rcases hr.mem.reg r' _ (reg_some hg' (by simp)) with ⟨b', d', C', pre', vs', rest', m1, m2, _⟩ | ⟨_, m2⟩
          · rw [q1] at g1
            obtain rfl := by simpa using g1
            rw [m1] at l1
            obtain rfl := by simpa using l1
            simp only at l6 hb
            have h1 : 1 * 1 ≤ (off' + cc') * sz2 := Nat.mul_le_mul (by omega) (by omega)
            exact Lib.run_overlaps_apart w tS tR te f6 sz (fun w => by rw [← f8]; exact run_sizeOf f7) _ _ n cc n' cc' hb e e' C.size C'.size (by simp [World.shape?, q2]) (by simp [World.shape?, m2]) (by omega) (by simp [World.frozen?, q2]) (by simp [World.frozen?, q2])
          · rw [m2] at l1; cases l1
        · rw [q2] at g1; cases g1
      · omega
    · omega
  unfold Oper.wp
  rw [hrun, run_callFunc_extern f1 f2 f3 f4 f5, key, Result.andThen_ok, Oper.upon_value]
  refine h ops l' h2 _ _ ⟨ρ, ok, ?_⟩
  rw [← hdst]
  refine hr.putO hd ?_
  unfold R; rfl
/-- No operation that has a rule of its own. -/
def noStops : List GOp → Bool
  | [] => true
  | ⟨_, _, op⟩ :: l => !stops op && noStops l
/-- Stop ahead of operation number k. -/
theorem AWpQ.upto {n : Nat} (hn : E.n = n) : ∀ (k : Nat) {gs : List GOp} {s : St}, dstsOk n (gs.take k) = true → noStops (gs.take k) = true → wpQ P E (fun e s' => e = .normal ∧ AWpQ P E Q (gs.drop k) s') (gs.take k) s → AWpQ P E Q gs s
  | 0, gs, s, _, _, h => by rw [List.take_zero] at h; unfold wpQ at h; exact h.2
  | k + 1, [], s, _, _, h => by rw [List.take_nil] at h; unfold wpQ at h; exact h.2
  | k + 1, ⟨d, none, op⟩ :: l, s, hd, hs, h => by
    simp only [List.take_succ_cons, dstsOk, noStops, Bool.and_eq_true, Bool.not_eq_true'] at hd hs
    rw [List.take_succ_cons] at h
    unfold wpQ at h
    rw [hs.1] at h
    simp only [cond_false] at h
    split at h
    · rename_i z s1 ob hst ha
      refine AWpQ.cons (s' := s1.putO d z) (ob := ob) hst ?_ h.1 (AWpQ.upto hn k hd.2 hs.2 h.2)
      simp only [stepOp, hn, hd.1, cond_true, ha]
    · exact h.elim
  | k + 1, ⟨d, some (t, want), op⟩ :: l, s, hd, hs, h => by
    simp only [List.take_succ_cons, dstsOk, noStops, Bool.and_eq_true, Bool.not_eq_true'] at hd hs
    rw [List.take_succ_cons] at h
    unfold wpQ at h
    rw [hs.1] at h
    simp only [cond_false] at h
    split at h
    · rename_i b hb
      split at h
      · rename_i z s1 ob hst ha
        refine AWpQ.cons (s' := s.putO d (.opt b z)) (ob := b = true → opOb s.ev op ∧ ob) hst ?_ h.1 (AWpQ.upto hn k hd.2 hs.2 h.2)
        simp only [stepOp, hn, hd.1, cond_true, hb, hst, ha]
      · exact h.elim
    · exact h.elim
/-- A call, the callee only reading what it is lent, and leaving arrays of its own. -/
theorem AWpL.calleB {f : FuncId} {xs : List Opd} {dst : Option Nat} {gs : List GOp} {args : List AV} {Post : List Reg → AV → Prop} (hs : Spec P f [] args Post) (ha : (xs.map fun x => borA 4 s (s.ev x)) = args)
    (hd : dstOk E.n dst = true) (hb : allOb (borOb 4 s) (xs.map s.ev))
    (h : ∀ rg x, Post rg x → (NI x ∧ ∀ g ∈ rg, NIR g) ∧ AWpL P E Q gs (retS s [] dst rg x)) : AWpL P E Q (⟨dst, none, .call f xs⟩ :: gs) s := by
  subst ha
  exact AWpL.callb hs hd hb h
/-- Regions dropped and numbered anew: those that the caller holds fast keep their numbers. -/
theorem weak_renP {E : Env} {s : St} (π : List Nat) (hp : ∀ r p, E.pin r = some p → π[r]? = some r) (h : renOk 0 s.rg.length π = true) : Weak E s (renS π s) := fun a w ⟨ρ, ok, hr⟩ => by
  simp only [renOk, Bool.and_eq_true] at h
  obtain ⟨⟨h1, h2⟩, h3⟩ := h
  have h1' : ∀ j r, π[j]? = some r → pos π r = some j := fun j r hj => by
    have hlt := (List.getElem?_eq_some_iff.1 hj).1
    have := List.all_eq_true.1 h1 j (List.mem_range.2 hlt)
    rw [List.getD_eq_getElem?_getD, hj] at this
    simpa using this
  have h2' : ∀ r ∈ π, r < s.rg.length := fun r hm => by
    have := List.all_eq_true.1 h2 r hm
    simpa [Nat.blt_eq] using this
  refine ⟨pl π ρ, ok, hr.mem.ren h1' h2', fun n => ?_, hr.siz, hr.dfr, hr.kps, hr.bas, fun r p hp => ?_, hr.okr, fun r p hp' => ?_⟩
  · show R w ok (pl π ρ) (look (renT π s.tm) n) _
    rw [look_ren]; exact R_ren _ _ (hr.tm n)
  · unfold pl at hp
    obtain ⟨b, _, h5⟩ := Option.bind_eq_some_iff.1 hp
    exact hr.ownr b p h5
  · unfold pl
    rw [hp r p hp']
    exact hr.pin r p hp'
/-- Region r is looked at from a later element on. -/
theorem RelM.rebase {w : World} {ρ : Nat → Option (Option Place)} {ok : Nat → Prop} {a : Act} (h : RelM E s a w ρ ok) {r : Nat} {p p' : Place} (hq : ρ r = some (some p)) (hnp : E.pin r = none) (hb : p'.b = p.b) {g' : Reg}
    (hg : RegOk w ok (fun k => if k = r then some (some p') else ρ k) r g') : RelM E (killS s r g') a w (fun k => if k = r then some (some p') else ρ k) ok := by
  have hrlt : r < s.rg.length := by
    rcases Nat.lt_or_ge r s.rg.length with h1 | h1
    · exact h1
    · rw [h.mem.out r h1] at hq; cases hq
  have hoth : ∀ {k q}, k ≠ r → ρ k = some (some q) → p.b ≠ q.b := fun {k q} hk hp e => hk (h.mem.inj _ _ _ _ hq hp e).symm
  have hkill : ∀ k j, killM r k = some j → (fun k => if k = r then some (some p') else ρ k) j = ρ k := fun k j hk => by
    obtain ⟨rfl, hne⟩ := killM_ne hk
    simp only [hne, if_false]
  have hval : ∀ x v, R w ok ρ x v → R w ok (fun k => if k = r then some (some p') else ρ k) (mapA (killM r) x) v := fun x v hx => R_map hkill _ _ hx
  refine ⟨⟨h.mem.okl, fun k k' q q' h1 h2 h3 => ?_, fun k q h1 => ?_, fun k g hk => ?_, fun k hk => ?_⟩, fun n => ?_, h.siz, h.dfr, h.kps, h.bas, fun k q h1 => ?_, h.okr, fun k q h1 => ?_⟩
  · by_cases e1 : k = r <;> by_cases e2 : k' = r <;> simp only [e1, e2, if_true, if_false] at h1 h2
    · rw [e1, e2]
    · simp only [Option.some.injEq] at h1; subst h1
      exact absurd (hb.symm.trans h3) (hoth e2 h2)
    · simp only [Option.some.injEq] at h2; subst h2
      exact absurd (hb.symm.trans h3.symm) (hoth e1 h1)
    · exact h.mem.inj k k' q q' h1 h2 h3
  · by_cases e1 : k = r <;> simp only [e1, if_true, if_false] at h1
    · simp only [Option.some.injEq] at h1; subst h1
      rw [hb]; exact h.mem.own r p hq
    · exact h.mem.own k q h1
  · by_cases e1 : k = r
    · subst e1
      rw [killS, List.getElem?_set] at hk
      simp only [if_true, List.length_map, hrlt] at hk
      obtain rfl : g' = g := by simpa using hk
      exact hg
    · rw [killS, List.getElem?_set_ne (Ne.symm e1), List.getElem?_map, Option.map_eq_some_iff] at hk
      obtain ⟨g0, hg0, rfl⟩ := hk
      have h0 := h.mem.reg k g0 hg0
      cases g0 with
      | dead => show (if k = r then _ else ρ k) = none; rw [if_neg e1]; exact h0
      | box e cs =>
        obtain ⟨b, C, h1, h2, h3⟩ := h0
        refine ⟨b, C, ?_, h2, RList_map hkill _ _ h3⟩
        show (if k = r then _ else ρ k) = _
        rw [if_neg e1, mapL_length]; exact h1
      | arr e sz els =>
        rcases h0 with ⟨b, d, C, pre, vs, rest, h1, h2, h3, h4, h5, h6⟩ | ⟨h1, h2⟩
        · exact .inl ⟨b, d, C, pre, vs, rest, by (show (if k = r then _ else ρ k) = _); rw [if_neg e1]; exact h1, h2, h3, h4, h5, h6⟩
        · exact .inr ⟨h1, by (show (if k = r then _ else ρ k) = _); rw [if_neg e1]; exact h2⟩
  · have : s.rg.length ≤ k := by simpa [killS] using hk
    show (if k = r then _ else ρ k) = none
    rw [if_neg (by omega)]; exact h.mem.out k this
  · show R w ok _ (look (mapT (killM r) s.tm) n) _
    rw [look_map]; exact hval _ _ (h.tm n)
  · by_cases e1 : k = r <;> simp only [e1, if_true, if_false] at h1
    · simp only [Option.some.injEq] at h1; subst h1
      rw [hb]; exact h.ownr r p hq
    · exact h.ownr k q h1
  · by_cases e1 : k = r
    · subst e1; rw [hnp] at h1; cases h1
    · show (if k = r then _ else ρ k) = _
      rw [if_neg e1]; exact h.pin k q h1
/-- A slice that begins later: its region may begin there. -/
theorem weak_base (t r : Nat) {off n k sz : Nat} {ex : Bool} {e : TypeId} {els : List (List AV)} (ht : look s.tm t = .hnd r off n k ex) (hg : s.reg r = .arr e sz els) (hp : E.pin r = none) (h0 : 0 < off) (hin : off ≤ els.length) :
    Weak E s ((killS s r (.arr e sz (els.drop off))).put t (.hnd r 0 n k ex)) := fun a w ⟨ρ, ok, hr⟩ => by
  have hv := hr.tm t
  rw [ht] at hv
  unfold R at hv
  rcases hv with ⟨p, cc, ad, h7, hv, h8, h9, h10, h11, h12⟩ | ⟨_, _, h8, _⟩
  · rcases hr.mem.reg r _ (reg_some hg (by simp)) with ⟨b, d, C, pre, vs, rest, g1, g2, g3, g4, g5, g6⟩ | ⟨_, g2⟩
    · rw [g1] at h7
      obtain rfl := by simpa using h7
      dsimp only at h8 h11
      have hvl : vs.length = els.length * sz := by rw [RcList_length g6, flatten_length g5]
      have hle : off * sz ≤ els.length * sz := Nat.mul_le_mul_right _ hin
      have h1 := hr.rebase (p' := ⟨b, d + off * sz, sz, C.size⟩) g1 hp rfl (g' := .arr e sz (els.drop off)) (.inl ⟨b, d + off * sz, C, pre ++ vs.take (off * sz), vs.drop (off * sz), rest, if_pos rfl, g2, by
        rw [g3]; simp only [List.append_assoc]; rw [← List.append_assoc (vs.take _), List.take_append_drop], by
        rw [List.length_append, List.length_take, g4]; omega, fun el hm => g5 el (List.mem_of_mem_drop hm), by
        rw [drop_flatten off g5]; exact RcList_drop _ g6⟩)
      refine ⟨_, ok, h1.mem, fun m => ?_, h1.siz, h1.dfr, h1.kps, h1.bas, h1.ownr, h1.okr, h1.pin⟩
      show R w ok _ (look (putTm _ t _) m) _
      rw [look_put]
      by_cases e1 : m = t
      · rw [if_pos e1, e1]
        unfold R
        refine .inl ⟨⟨b, d + off * sz, sz, C.size⟩, cc, ad, if_pos rfl, hv, ?_, h9, h10, ?_, h12⟩
        · rcases h8 with h8 | h8
          · exact .inl h8
          · right; rw [h8]; simp
        · have : (off + cc) * sz = off * sz + cc * sz := Nat.add_mul _ _ _
          dsimp only
          rw [Nat.zero_add]; omega
      · rw [if_neg e1]; exact h1.tm m
    · rw [g2] at h7; injection h7 with h7; cases h7
  · omega
end
end Go.Proofs.Ytmkodhpbjedfkaa.Aw
