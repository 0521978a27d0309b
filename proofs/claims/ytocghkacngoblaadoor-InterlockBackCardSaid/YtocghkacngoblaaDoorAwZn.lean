/- A logic of abstract states for walks: texts turned into bytes that are written. -/
import Derived.Test.YtocghkacngoblaaDoorAwZm
set_option linter.unusedVariables false
set_option linter.unusedSimpArgs false
namespace Go.Proofs.YtocghkacngoblaaDoor.Aw
open Go.RowKit
section
variable {P : Program} {E : Env} {Q : Exit → St → Prop} {s s' : St} {a : Act} {w : World} {ρ : Nat → Option (Option Place)} {ok : Nat → Prop}
theorem stb_inv {o : Oper} {e : TypeId} {x : Opd} (hc : comp P o = some (.stb e x)) :
    ∃ src dst', P.underlying src = some .string ∧ P.underlying dst' = some (.slice e) ∧ P.underlying e = some (.int .u8) ∧
      ∀ (b : ByteArray) (w : World), x.cv a = .string b → (execOp a.eval o).run P w = (do pure (Next.value (← convert src dst' (.string b))) : Sem Next).run P w := by
  replace hc := comp0_of hc (by simp)
  obtain ⟨dst, op, type, ps, after, guard⟩ := o
  cases op <;> simp only [comp0, Option.some.injEq, reduceCtorEq] at hc
  case convert src dst' x' =>
    split at hc <;> first | (cases hc; done) | skip
    · rename_i e' hs hd
      split at hc <;> first | (cases hc; done) | skip
      rename_i he
      simp only [Option.some.injEq, AOp.stb.injEq] at hc
      obtain ⟨rfl, rfl⟩ := hc
      refine ⟨src, dst', hs, hd, he, fun b w hx => ?_⟩
      rw [Opd.cv_of] at hx
      simp only [execOp, hx]
    · (repeat' (split at hc)) <;> first | (cases hc; done) | (simp only [Option.some.injEq, reduceCtorEq] at hc; done)
  case makeFunc fn first caps =>
    cases fn <;> simp only [reduceCtorEq] at hc
    split at hc <;> simp only [Option.some.injEq, reduceCtorEq] at hc
  all_goals (repeat' (split at hc)) <;> first | (simp only [Option.some.injEq, reduceCtorEq] at hc; done) | (simp only [Option.map_eq_some_iff, reduceCtorEq, and_false, exists_false] at hc; done) | skip
theorem stb_run (w : World) {src dst e : TypeId} (hs : P.underlying src = some .string) (hd : P.underlying dst = some (.slice e)) (he : P.underlying e = some (.int .u8)) (b : ByteArray) :
    ∃ w' cap, ∃ C : Array Value, (convert src dst (.string b)).run P w = .ok (.slice (some ⟨w.heap.size, 0, none⟩) b.size cap) w' ∧ Ext w w' ∧ w'.heap[w.heap.size]? = some (.cells C e (cap, cap + 1)) ∧ C.size = cap ∧ b.size ≤ cap ∧
      ∃ rest, C.toList = (b.data.toList.map fun x => Value.int .u8 x.toNat) ++ rest := by
  generalize hcap : (Question.appendCap b.size 0 e).cut (w.tape w.drawn (.appendCap b.size 0 e)) = cap
  have hle : b.size ≤ cap := by rw [← hcap]; exact Nat.le_add_right _ _
  generalize hC : (b.data.map fun x => Value.int .u8 x.toNat) ++ Array.replicate (cap - b.size) (Value.int .u8 0) = C
  have hCs : C.size = cap := by rw [← hC]; simp; omega
  let w1 : World := { w with drawn := w.drawn + 1, heap := w.heap.push (.cells C e) }
  have hrun : ∃ w', (convert src dst (.string b)).run P w = .ok (.slice (some ⟨w.heap.size, 0, none⟩) b.size cap) w' ∧ w' = w1.freeze ⟨w.heap.size, cap, none⟩ 1 := by
    refine ⟨_, ?_, rfl⟩
    simp only [convert, Sem.run_bind, run_underlying hs, run_underlying hd, run_underlying he, Result.andThen_ok, Conv.stringToBytes, run_choose, Question.forced, Bool.false_eq_true, if_false, hcap, newRow, run_newObj, Sem.run_pure, markStringish, run_shape, hC]
    simp only [World.shape?]
    rw [show ({ heap := w.heap.push (Obj.cells C e), tape := w.tape, drawn := w.drawn + 1, os := w.os, output := w.output } : World).heap[w.heap.size]? = some (.cells C e (0, 0)) by simp]
    simp only [Sem.run_bind, run_freeze, Result.andThen_ok, Sem.run_pure, hCs]
    rfl
  obtain ⟨w', hrun, hw'⟩ := hrun
  have hext : Ext w w' := by
    subst hw'
    refine ⟨rfl, rfl, rfl, ?_, fun k hk => ?_⟩
    · simp [World.freeze, w1]
    · simp only [World.freeze, w1]
      simp only [Nat.one_ne_zero, if_false, Array.getElem?_modify, Array.getElem?_push]
      rw [if_neg (by omega), if_neg (by omega)]
  refine ⟨w', cap, C, hrun, hext, ?_, hCs, hle, (Array.replicate (cap - b.size) (Value.int .u8 0)).toList, by rw [← hC]; simp⟩
  subst hw'
  simp only [World.freeze, w1, Nat.one_ne_zero, if_false, Array.getElem?_modify, if_true, Array.getElem?_push]
  simp
theorem rc_vals : ∀ (vs : List Value), RcList w ok (vs.map .val) vs
  | [] => by unfold RcList; rfl
  | v :: vs => by
    show RcList w ok (.val v :: vs.map .val) (v :: vs)
    unfold RcList
    exact ⟨v, vs, rfl, by unfold Rc; rfl, rc_vals vs⟩
theorem newarr_hp (hr : RelM E s a w ρ ok) {w' : World} (e : TypeId) (sz : Nat) (els : List (List AV)) (C : Array Value) (vs rest : List Value) (hx : Ext w w') (hh : hpB w' w.heap.size = some (.cells C e (0, 0))) (hC : C.toList = vs ++ rest)
    (hl : ∀ el ∈ els, el.length = sz) (h : RcList w ok els.flatten vs) :
    ∃ ρ', RelM E { s with rg := s.rg ++ [.arr e sz els] } a w' ρ' ok ∧ ρ' s.rg.length = some (some ⟨w.heap.size, 0, sz, C.size⟩) := by
  have hn := hr.mem.out s.rg.length (Nat.le_refl _)
  obtain ⟨fr, hh', _⟩ := hpB_inv hh
  have hlt : w.heap.size < w'.heap.size := (Array.getElem?_eq_some_iff.1 hh').1
  refine ⟨_, hr.alloc hx (p := ⟨w.heap.size, 0, sz, C.size⟩) rfl hlt (.inl ⟨w.heap.size, 0, C, [], vs, rest, ?_, hh, by simpa using hC, rfl, hl, ?_⟩), ?_⟩
  · unfold addPl; rw [if_pos rfl]
  · exact RcList_frame (hx.reads hr.mem.okl) (fun _ x => x) _ _ h
  · unfold addPl; rw [if_pos rfl]
/-- A text turned into bytes that are written. -/
theorem AWpL.stbA {x : Opd} {dst : Option Nat} {gs : List GOp} (b : ByteArray) (hx : s.ev x = .val (.string b)) (hd : dstOk E.n dst = true)
    (h : AWpL P E Q gs (St.putO { s with rg := s.rg ++ [.arr 5 1 (b.data.toList.map fun c => [.val (.int .u8 c.toNat)])] } dst (.hnd s.rg.length 0 b.size b.size false))) : AWpL P E Q (⟨dst, none, .stb 5 x⟩ :: gs) s := fun ops l' hl' a w hrel => by
  obtain ⟨o, l2, rfl, h1, h2⟩ := gops_cons hl'
  obtain ⟨ρ, ok, hr⟩ := hrel
  obtain ⟨hcp, hdst, hgd⟩ := gop_guard h1
  rcases hgd with ⟨hg0, _⟩ | ⟨_, _, _, _, _, hgd⟩
  case inr => cases hgd
  unfold wpList
  rw [if_pos (wanted_none hg0 _)]
  left
  obtain ⟨src, dst', hs, hdt, he, hrun⟩ := stb_inv (a := a) hcp
  have hvx := hr.ev x
  rw [hx] at hvx
  obtain ⟨w', cap, C, hconv, hext, hblk, hCs, hle, rest, hCl⟩ := stb_run (P := P) w hs hdt he b
  have hpb : hpB w' w.heap.size = some (.cells C 5 (0, 0)) := by
    unfold hpB
    rw [hblk]
    dsimp only
    rw [if_pos ⟨rfl, by omega⟩]
  have hflat : (b.data.toList.map fun c => [AV.val (.int .u8 c.toNat)]).flatten = (b.data.toList.map fun c => Value.int .u8 c.toNat).map AV.val := by
    generalize b.data.toList = l
    induction l with
    | nil => rfl
    | cons c l ih => simp only [List.map_cons, List.flatten_cons, ih]; rfl
  obtain ⟨ρ', q1, q2⟩ := newarr_hp hr 5 1 (b.data.toList.map fun c => [.val (.int .u8 c.toNat)]) C _ rest hext hpb hCl (fun el hm => by
    obtain ⟨c, _, rfl⟩ := List.mem_map.1 hm
    rfl) (by rw [hflat]; exact rc_vals _)
  unfold Oper.wp
  rw [hrun b w (R_val hvx), run_value hconv, Oper.upon_value]
  refine h ops l2 h2 _ _ ⟨ρ', ok, ?_⟩
  rw [← hdst]
  refine q1.putO hd ?_
  unfold R
  exact .inl ⟨_, cap, _, q2, rfl, .inr (by simp), Nat.le_refl _, hle, by simp [hCs], fun h => by cases h⟩
end
end Go.Proofs.YtocghkacngoblaaDoor.Aw
