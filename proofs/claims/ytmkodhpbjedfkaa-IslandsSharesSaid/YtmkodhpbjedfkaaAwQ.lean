/- A logic of abstract states for walks: rules for append. -/
import Derived.Test.YtmkodhpbjedfkaaAwP
set_option linter.unusedVariables false
set_option linter.unusedSimpArgs false
namespace Go.Proofs.Ytmkodhpbjedfkaa.Aw
open Go.RowKit

section
variable {P : Program} {E : Env} {Q : Exit → St → Prop} {s s' : St} {a : Act} {w : World} {ρ : Nat → Option (Option Place)} {ok : Nat → Prop}

set_option maxHeartbeats 1000000 in
theorem app_inv {o : Oper} {e : TypeId} {sz bytes : Nat} {z : Value} {x y : Opd} (hc : comp P o = some (.app e sz bytes z x y)) :
    ∃ tx ty e' i, P.underlying tx = some (.slice e) ∧ P.underlying ty = some (.slice e') ∧ P.info? e = some i ∧ i.zero = some z ∧ z.cells.size = i.size ∧ i.size = sz ∧ i.bytes = bytes ∧ sz ≠ 0 ∧
      ∀ v w', (Builtin.append_ #[tx, ty] o.type #[x.cv a, y.cv a]).run P w = .ok v w' → (execOp a.eval o).run P w = .ok (.value v) w' := by
  replace hc := comp0_of hc (by simp)
  obtain ⟨dst, op, type, ps, after, guard⟩ := o
  cases op <;> simp only [comp0, Option.some.injEq, reduceCtorEq] at hc
  case call c =>
    obtain ⟨callee, args, argTypes⟩ := c
    dsimp only at hc
    cases callee with
    | invoke r m => simp only [reduceCtorEq] at hc
    | value g =>
      cases g <;> simp only [Option.some.injEq, reduceCtorEq] at hc
      split at hc <;> first | (cases hc; done) | skip
      split at hc <;> simp only [Option.some.injEq, reduceCtorEq] at hc
    | builtin b =>
      cases b <;> simp only [reduceCtorEq] at hc
      case append =>
        split at hc <;> first | (cases hc; done) | skip
        rename_i x1 y1 tx ty ha ht
        split at hc <;> first | (cases hc; done) | skip
        case h_2 => (repeat' (split at hc)) <;> simp only [Option.some.injEq, reduceCtorEq] at hc
        rename_i e1 e' hx hy
        split at hc <;> first | (cases hc; done) | skip
        rename_i i hi
        split at hc <;> first | (cases hc; done) | skip
        rename_i z1 hz
        split at hc <;> first | (cases hc; done) | skip
        rename_i hcond
        simp only [Option.some.injEq, AOp.app.injEq] at hc
        obtain ⟨rfl, rfl, rfl, rfl, rfl, rfl⟩ := hc
        obtain ⟨args⟩ := args
        obtain ⟨argTypes⟩ := argTypes
        simp only at ha ht
        subst ha ht
        refine ⟨tx, ty, e', i, hx, hy, hi, hz, hcond.1, rfl, rfl, hcond.2.1, fun v w' hrun => ?_⟩
        rw [Opd.cv_of, Opd.cv_of] at hrun
        simp only [execOp, resolve, Sem.run_bind, Sem.run_pure, Result.andThen_ok, invoke, builtin]
        have : (#[x1, y1] : Array Operand).map a.eval = #[a.eval x1, a.eval y1] := by simp
        rw [this]
        simp [hrun]
      all_goals (repeat' (split at hc)) <;> simp only [Option.some.injEq, reduceCtorEq] at hc
  case makeFunc fn first caps =>
    cases fn <;> simp only [reduceCtorEq] at hc
    split at hc <;> simp only [Option.some.injEq, reduceCtorEq] at hc
  all_goals (repeat' (split at hc)) <;> first | (simp only [Option.some.injEq, reduceCtorEq] at hc; done) | (simp only [Option.map_eq_some_iff, reduceCtorEq, and_false, exists_false] at hc; done) | skip

/-- append to an array of the call's own. -/
theorem AWpL.app {e : TypeId} {sz bytes : Nat} {z : Value} {x y : Opd} {dst : Option Nat} {gs : List GOp} {r n k : Nat} {ex : Bool} {els ys : List (List AV)} {ob : Prop}
    (hx : s.ev x = .hnd r 0 n k ex) (hg : s.reg r = .arr e sz els) (hs : srcEls s (s.ev y) = some (ys, ob)) (hsz : srcSz s (s.ev y) sz = true) (hd : dstOk E.n dst = true) (hn : n = els.length) (hnp : E.pin r = none) (hob : ob)
    (hcell : ∀ el ∈ ys, ∀ x ∈ el, cellish x = true) (hbytes : (n + ys.length) * bytes ≤ 140737488355328) (h63 : n + ys.length ≤ 9223372036854775807)
    (h : AWpL P E Q gs ((killS s r (.arr e sz (els ++ ys))).putO dst (.hnd r 0 (n + ys.length) (n + ys.length) false))) : AWpL P E Q (⟨dst, none, .app e sz bytes z x y⟩ :: gs) s := fun ops l hl a w hrel => by
  obtain ⟨o, l', rfl, h1, h2⟩ := gops_cons hl
  obtain ⟨ρ, ok, hr⟩ := hrel
  obtain ⟨hc, hdst, hgd⟩ := gop_guard h1
  rcases hgd with ⟨hg0, _⟩ | ⟨_, _, _, _, _, hgd⟩
  case inr => cases hgd
  unfold wpList
  rw [if_pos (wanted_none hg0 _)]
  left
  obtain ⟨tx, ty, e', i, hux, huy, hi, hz, hzs, rfl, rfl, hsz0, hrun⟩ := app_inv (a := a) (w := w) hc
  have hvx := hr.ev x
  rw [hx] at hvx
  obtain ⟨v, w', ρ', h3, h4, h5⟩ := snd_app (P := P) (ty' := o.type) hr hux huy hi hz hzs hvx (hr.ev y) hg rfl hn hnp hs hsz hob hcell hbytes h63
  unfold Oper.wp
  rw [hrun v w' h3, Oper.upon_value]
  exact h ops l' h2 _ _ ⟨ρ', ok, by rw [← hdst]; exact h4.putO hd h5⟩

/-- append to a slice without room: a new array. -/
theorem AWpL.appNew {e : TypeId} {sz bytes : Nat} {z : Value} {x y : Opd} {dst : Option Nat} {gs : List GOp} {nl : Option Bool} {els ys : List (List AV)} {ob : Prop}
    (hx : s.ev x = .imm nl true sz els) (hs : srcEls s (s.ev y) = some (ys, ob)) (hsz : srcSz s (s.ev y) sz = true) (hd : dstOk E.n dst = true) (hob : ob) (hpos : 0 < ys.length)
    (hbytes : (els.length + ys.length) * bytes ≤ 140737488355328) (h63 : els.length + ys.length ≤ 9223372036854775807)
    (h : AWpL P E Q gs (St.putO { s with rg := s.rg ++ [.arr e sz (els ++ ys)] } dst (.hnd s.rg.length 0 (els.length + ys.length) (els.length + ys.length) false))) : AWpL P E Q (⟨dst, none, .app e sz bytes z x y⟩ :: gs) s := fun ops l hl a w hrel => by
  obtain ⟨o, l', rfl, h1, h2⟩ := gops_cons hl
  obtain ⟨ρ, ok, hr⟩ := hrel
  obtain ⟨hc, hdst, hgd⟩ := gop_guard h1
  rcases hgd with ⟨hg0, _⟩ | ⟨_, _, _, _, _, hgd⟩
  case inr => cases hgd
  unfold wpList
  rw [if_pos (wanted_none hg0 _)]
  left
  obtain ⟨tx, ty, e', i, hux, huy, hi, hz, hzs, rfl, rfl, hsz0, hrun⟩ := app_inv (a := a) (w := w) hc
  have hvx := hr.ev x
  rw [hx] at hvx
  obtain ⟨olds, hold, hol, hll⟩ := src_ok (sz := i.size) hr hvx (ys := els) (ob := True) rfl (by simp [srcSz]) trivial
  obtain ⟨news, hnew, hnl, hyl⟩ := src_ok hr (hr.ev y) hs hsz hob
  have hvx' := hvx
  unfold R Rc at hvx'
  obtain ⟨A, c, hv, h3, h4, h5, h6, h7⟩ := hvx'
  have hcc := h6 rfl
  subst hcc
  rw [hv] at hold
  rcases run_app (ty' := o.type) hux huy hi hz hzs hold hnew hbytes h63 with ⟨hroom, _⟩ | ⟨hfull, w', C', cap, rest', hrun', hext, hblk, hC', hcs, hcap⟩
  · omega
  · rw [← hv] at hrun'
    have hrd : Reads ok w w' := hext.reads hr.mem.okl
    obtain ⟨ρ', h8, h9⟩ := newarr_ok hr e i.size (els ++ ys) C' (olds ++ news) rest' hext hblk (by simp [hC']) (fun el hm => by
      rcases List.mem_append.1 hm with hm | hm
      · exact hll el hm
      · exact hyl el hm) (by rw [List.flatten_append]; exact RcList_append hol hnl)
    unfold Oper.wp
    rw [hrun _ w' hrun', Oper.upon_value]
    refine h ops l' h2 _ _ ⟨ρ', ok, ?_⟩
    rw [← hdst]
    refine h8.putO hd ?_
    unfold R
    exact .inl ⟨_, cap, _, h9, rfl, .inr (by simp), Nat.le_refl _, hcap, by simp [hcs], fun h => by cases h⟩
end
end Go.Proofs.Ytmkodhpbjedfkaa.Aw
