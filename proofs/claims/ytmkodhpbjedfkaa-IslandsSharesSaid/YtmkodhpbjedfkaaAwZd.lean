/- A logic of abstract states for walks: new arrays for slices without room, append of zeros, clear, copy, capacities. -/
import Derived.Test.YtmkodhpbjedfkaaAwZc
import Derived.Laws.AppendOwn
set_option linter.unusedVariables false
set_option linter.unusedSimpArgs false
namespace Go.Proofs.Ytmkodhpbjedfkaa.Aw
open Go.RowKit

/-- The capacity, where it is known. -/
def exactCap : AV → Option Nat
  | .imm _ true _ els => some els.length
  | .hnd _ _ _ k true => some k
  | .val (.slice none 0 0) => some 0
  | _ => none
section
variable {P : Program} {E : Env} {Q : Exit → St → Prop} {s s' : St} {a : Act} {w : World} {ρ : Nat → Option (Option Place)} {ok : Nat → Prop}
theorem exactCap_ok {x : AV} {v : Value} {c : Nat} (h : R w ok ρ x v) (hc : exactCap x = some c) : ∃ A n, v = .slice A n c := by
  unfold exactCap at hc
  split at hc <;> first | (cases hc; done) | skip
  · obtain rfl := Option.some.inj hc
    unfold R Rc at h
    obtain ⟨A, c, h2, _, _, _, h3, _⟩ := h
    exact ⟨A, _, by rw [h2, h3 rfl]⟩
  · obtain rfl := Option.some.inj hc
    unfold R at h
    rcases h with ⟨p, cc, ad, _, h2, _, _, _, _, h3⟩ | ⟨_, h2, _, _, h3⟩
    · exact ⟨_, _, by rw [h2, h3 rfl]⟩
    · exact ⟨_, _, by rw [h2, h3]⟩
  · obtain rfl := Option.some.inj hc
    exact ⟨_, _, R_val h⟩
/-- append to a slice whose capacity is known and too small: a new array. -/
theorem AWpL.appFresh {e : TypeId} {sz bytes : Nat} {z : Value} {x y : Opd} {dst : Option Nat} {gs : List GOp} {c : Nat} {els ys : List (List AV)} {ob ob' : Prop}
    (hx : srcEls s (s.ev x) = some (els, ob')) (hxs : srcSz s (s.ev x) sz = true) (hob' : ob') (hc : exactCap (s.ev x) = some c) (hs : srcEls s (s.ev y) = some (ys, ob)) (hsz : srcSz s (s.ev y) sz = true) (hd : dstOk E.n dst = true) (hob : ob) (hlt : c < els.length + ys.length)
    (hbytes : (els.length + ys.length) * bytes ≤ 140737488355328) (h63 : els.length + ys.length ≤ 9223372036854775807)
    (h : AWpL P E Q gs (St.putO { s with rg := s.rg ++ [.arr e sz (els ++ ys)] } dst (.hnd s.rg.length 0 (els.length + ys.length) (els.length + ys.length) false))) : AWpL P E Q (⟨dst, none, .app e sz bytes z x y⟩ :: gs) s := fun ops l hl a w hrel => by
  obtain ⟨o, l', rfl, h1, h2⟩ := gops_cons hl
  obtain ⟨ρ, ok, hr⟩ := hrel
  obtain ⟨hcp, hdst, hgd⟩ := gop_guard h1
  rcases hgd with ⟨hg0, _⟩ | ⟨_, _, _, _, _, hgd⟩
  case inr => cases hgd
  unfold wpList
  rw [if_pos (wanted_none hg0 _)]
  left
  obtain ⟨tx, ty, e', i, hux, huy, hi, hz, hzs, rfl, rfl, hsz0, hrun⟩ := app_inv (a := a) (w := w) hcp
  have hvx := hr.ev x
  obtain ⟨olds, hold, hol, hll⟩ := src_ok hr hvx hx hxs hob'
  obtain ⟨news, hnew, hnl, hyl⟩ := src_ok hr (hr.ev y) hs hsz hob
  obtain ⟨A, n0, hv0⟩ := exactCap_ok hvx hc
  have hold' := hold
  obtain ⟨A', c', hv, _⟩ := hold'
  rw [hv0] at hv
  injection hv with hA hn hcc
  subst hA hn hcc
  rw [hv0] at hold
  rcases run_app (ty' := o.type) hux huy hi hz hzs hold hnew hbytes h63 with ⟨hroom, _⟩ | ⟨hfull, w', C', cap, rest', hrun', hext, hblk, hC', hcs, hcap⟩
  · omega
  · have hrd : Reads ok w w' := hext.reads hr.mem.okl
    obtain ⟨ρ', h8, h9⟩ := newarr_ok hr e i.size (els ++ ys) C' (olds ++ news) rest' hext hblk (by simp [hC']) (fun el hm => by
      rcases List.mem_append.1 hm with hm | hm
      · exact hll el hm
      · exact hyl el hm) (by rw [List.flatten_append]; exact RcList_append hol hnl)
    unfold Oper.wp
    rw [hrun _ w' (by rw [hv0]; exact hrun'), Oper.upon_value]
    refine h ops l' h2 _ _ ⟨ρ', ok, ?_⟩
    rw [← hdst]
    refine h8.putO hd ?_
    unfold R
    exact .inl ⟨_, cap, _, h9, rfl, .inr (by simp), Nat.le_refl _, hcap, by simp [hcs], fun h => by cases h⟩

set_option maxHeartbeats 1000000 in
theorem builtin_inv {b : Builtin} {o : Oper} {ao : AOp} (hc : comp P o = some ao) (hb : (∃ e sz by' z x y, ao = .appz e sz by' z x y ∧ b = .append) ∨ (∃ sz z x, ao = .clr sz z x ∧ b = .clear) ∨ (∃ sz x y, ao = .copy sz x y ∧ b = .copy)) :
    ∃ (c : Call), o.op = .call c ∧ c.callee = .builtin b := by
  have hne : ∀ f xs, ao ≠ .bad f xs := by intro f xs; rcases hb with ⟨_, _, _, _, _, _, rfl, _⟩ | ⟨_, _, _, rfl, _⟩ | ⟨_, _, _, rfl, _⟩ <;> simp
  replace hc := comp0_of hc hne
  obtain ⟨dst, op, type, ps, after, guard⟩ := o
  rcases hb with ⟨_, _, _, _, _, _, rfl, rfl⟩ | ⟨_, _, _, rfl, rfl⟩ | ⟨_, _, _, rfl, rfl⟩ <;>
  · cases op <;> simp only [comp0, Option.some.injEq, reduceCtorEq] at hc
    case call c =>
      obtain ⟨callee, args, argTypes⟩ := c
      dsimp only at hc
      cases callee with
      | invoke r m => simp only [reduceCtorEq] at hc
      | builtin b =>
        cases b <;> (try simp only [reduceCtorEq] at hc) <;> first | exact ⟨_, rfl, rfl⟩ | ((repeat' (split at hc)) <;> simp only [Option.some.injEq, reduceCtorEq] at hc)
      | value g =>
        cases g <;> simp only [Option.some.injEq, reduceCtorEq] at hc
        split at hc <;> first | (cases hc; done) | skip
        split at hc <;> simp only [Option.some.injEq, reduceCtorEq] at hc
    case makeFunc fn first caps =>
      cases fn <;> simp only [reduceCtorEq] at hc
      split at hc <;> simp only [Option.some.injEq, reduceCtorEq] at hc
    all_goals (repeat' (split at hc)) <;> first | (simp only [Option.some.injEq, reduceCtorEq] at hc; done) | (simp only [Option.map_eq_some_iff, reduceCtorEq, and_false, exists_false] at hc; done) | skip

theorem appz_inv {o : Oper} {e : TypeId} {sz bytes : Nat} {z : Value} {x y : Opd} (hc : comp P o = some (.appz e sz bytes z x y)) :
    ∃ tx ty i, P.underlying tx = some (.slice e) ∧ P.underlying ty = some (.int .i64) ∧ P.info? e = some i ∧ i.zero = some z ∧ z.cells.size = i.size ∧ i.size = sz ∧ i.bytes = bytes ∧ sz ≠ 0 ∧
      ∀ v w', (Builtin.append_ #[tx, ty] o.type #[x.cv a, y.cv a]).run P w = .ok v w' → (execOp a.eval o).run P w = .ok (.value v) w' := by
  obtain ⟨c, h1, h2⟩ := builtin_inv (b := .append) hc (.inl ⟨_, _, _, _, _, _, rfl, rfl⟩)
  replace hc := comp0_of hc (by simp)
  obtain ⟨dst, op, type, ps, after, guard⟩ := o
  simp only at h1
  subst h1
  obtain ⟨callee, args, argTypes⟩ := c
  simp only at h2
  subst h2
  simp only [comp0] at hc
  split at hc <;> first | (cases hc; done) | skip
  rename_i x1 y1 tx ty ha ht
  split at hc <;> first | (cases hc; done) | skip
  case h_1 => (repeat' (split at hc)) <;> simp only [Option.some.injEq, reduceCtorEq] at hc
  rename_i e1 hx hy
  split at hc <;> first | (cases hc; done) | skip
  rename_i i hi
  split at hc <;> first | (cases hc; done) | skip
  rename_i z1 hz
  split at hc <;> first | (cases hc; done) | skip
  rename_i hcond
  simp only [Option.some.injEq, AOp.appz.injEq] at hc
  obtain ⟨rfl, rfl, rfl, rfl, rfl, rfl⟩ := hc
  obtain ⟨args⟩ := args
  obtain ⟨argTypes⟩ := argTypes
  simp only at ha ht
  subst ha ht
  refine ⟨tx, ty, i, hx, hy, hi, hz, hcond.1, rfl, rfl, hcond.2.1, fun v w' hrun => ?_⟩
  rw [Opd.cv_of, Opd.cv_of] at hrun
  simp only [execOp, resolve, Sem.run_bind, Sem.run_pure, Result.andThen_ok, invoke, builtin]
  have : (#[x1, y1] : Array Operand).map a.eval = #[a.eval x1, a.eval y1] := by simp
  rw [this]
  simp [hrun]
theorem clr_inv {o : Oper} {sz : Nat} {z : Value} {x : Opd} (hc : comp P o = some (.clr sz z x)) :
    ∃ tx e i, P.underlying tx = some (.slice e) ∧ P.info? e = some i ∧ i.zero = some z ∧ z.cells.size = i.size ∧ i.size = sz ∧
      ∀ v w', (Builtin.clear_ #[tx] o.type #[x.cv a]).run P w = .ok v w' → (execOp a.eval o).run P w = .ok (.value v) w' := by
  obtain ⟨c, h1, h2⟩ := builtin_inv (b := .clear) hc (.inr (.inl ⟨_, _, _, rfl, rfl⟩))
  replace hc := comp0_of hc (by simp)
  obtain ⟨dst, op, type, ps, after, guard⟩ := o
  simp only at h1
  subst h1
  obtain ⟨callee, args, argTypes⟩ := c
  simp only at h2
  subst h2
  simp only [comp0] at hc
  split at hc <;> first | (cases hc; done) | skip
  rename_i x1 tx ha ht
  split at hc <;> first | (cases hc; done) | skip
  rename_i e1 hx
  split at hc <;> first | (cases hc; done) | skip
  rename_i i hi
  split at hc <;> first | (cases hc; done) | skip
  rename_i z1 hz
  split at hc <;> first | (cases hc; done) | skip
  rename_i hcond
  simp only [Option.some.injEq, AOp.clr.injEq] at hc
  obtain ⟨rfl, rfl, rfl⟩ := hc
  obtain ⟨args⟩ := args
  obtain ⟨argTypes⟩ := argTypes
  simp only at ha ht
  subst ha ht
  refine ⟨tx, e1, i, hx, hi, hz, hcond, rfl, fun v w' hrun => ?_⟩
  rw [Opd.cv_of] at hrun
  simp only [execOp, resolve, Sem.run_bind, Sem.run_pure, Result.andThen_ok, invoke, builtin]
  have : (#[x1] : Array Operand).map a.eval = #[a.eval x1] := by simp
  rw [this]
  simp [hrun]
theorem copy_inv {o : Oper} {sz : Nat} {x y : Opd} (hc : comp P o = some (.copy sz x y)) :
    ∃ tx ty e e' i, P.underlying tx = some (.slice e) ∧ P.underlying ty = some (.slice e') ∧ P.info? e = some i ∧ i.size = sz ∧
      ∀ v w', (Builtin.copy_ #[tx, ty] o.type #[x.cv a, y.cv a]).run P w = .ok v w' → (execOp a.eval o).run P w = .ok (.value v) w' := by
  obtain ⟨c, h1, h2⟩ := builtin_inv (b := .copy) hc (.inr (.inr ⟨_, _, _, rfl, rfl⟩))
  replace hc := comp0_of hc (by simp)
  obtain ⟨dst, op, type, ps, after, guard⟩ := o
  simp only at h1
  subst h1
  obtain ⟨callee, args, argTypes⟩ := c
  simp only at h2
  subst h2
  simp only [comp0] at hc
  split at hc <;> first | (cases hc; done) | skip
  rename_i x1 y1 tx ty ha ht
  split at hc <;> first | (cases hc; done) | skip
  rename_i e1 e' hx hy
  split at hc <;> first | (cases hc; done) | skip
  rename_i i hi
  simp only [Option.some.injEq, AOp.copy.injEq] at hc
  obtain ⟨rfl, rfl, rfl⟩ := hc
  obtain ⟨args⟩ := args
  obtain ⟨argTypes⟩ := argTypes
  simp only at ha ht
  subst ha ht
  refine ⟨tx, ty, e1, e', i, hx, hy, hi, rfl, fun v w' hrun => ?_⟩
  rw [Opd.cv_of, Opd.cv_of] at hrun
  simp only [execOp, resolve, Sem.run_bind, Sem.run_pure, Result.andThen_ok, invoke, builtin]
  have : (#[x1, y1] : Array Operand).map a.eval = #[a.eval x1, a.eval y1] := by simp
  rw [this]
  simp [hrun]

theorem zero_rows (zl : Array Value) (n : Nat) : (Builtin.zeroCells zl n).toList = (List.replicate n zl.toList).flatten := made_rows zl zl.size rfl n

/-- What append does with a number of zeros where there is no room. -/
theorem run_appz {tx ty ty' e : TypeId} {i : TypeInfo} {z : Value} {kk : IntKind} (hx : P.underlying tx = some (.slice e)) (hy : P.underlying ty = some (.int .i64)) (hi : P.info? e = some i) (hz : i.zero = some z) (hpos : 0 < i.size)
    {A : Option Addr} {n c k : Nat} {olds : List Value} (hold : Src w i.size n (.slice A n c) olds) (hk : 0 < k) (hfull : c < n + k) (hbytes : (n + k) * i.bytes ≤ 140737488355328) (h63 : n + k ≤ 9223372036854775807) :
    (Builtin.append_ #[tx, ty] ty' #[.slice A n c, .int kk k]).run P w = .ok (.slice (some ⟨w.heap.size, 0, none⟩) (n + k) (grownCap w (n + k) c e))
      (w.drew.alloc (.cells (olds.toArray ++ Builtin.zeroCells z.cells k ++ Builtin.zeroCells z.cells (grownCap w (n + k) c e - (n + k))) e)) := by
  have hfo : (Builtin.firstCells i.size n (.slice A n c)).run P w.drew = .ok olds.toArray w.drew := run_first hold (fun _ _ _ h => h)
  have hroom : ¬ (n + k ≤ c) := by omega
  have hsz : k * i.size ≠ 0 := Nat.mul_ne_zero (by omega) (by omega)
  have hwrap : IntKind.i64.wrap (k : Int) = k := by rw [IntKind.wrap_i64]; omega
  have hb1 := Nat.mul_le_mul_right i.bytes (show k ≤ n + k by omega)
  have hb2 : ¬ (281474976710656 < (k : Int) * (i.bytes : Int)) := by rw [← Int.natCast_mul]; omega
  have hb3 : ¬ (281474976710656 < Builtin.nextslicecap (n + k) c * i.bytes) := by have := growslice_fits (old := c) (need := n + k) (by omega) hbytes; omega
  have hb4 : ¬ (9223372036854775807 < ((n : Int) + (k : Int))) := by omega
  have hneg : ¬ ((k : Int) < 0) := by omega
  have hk0 : k ≠ 0 := by omega
  simp [Builtin.append_, run_underlying hx, run_underlying hy, sizeOf, typeInfo, zeroValue, hi, hz, asInt, asIntOf, hwrap, hroom, hneg, hsz, hk0, hb2, hb3, hb4, Question.forced, hfo, newRow, grownCap]
  try omega
/-- append of zeros to a slice whose capacity is known and too small. -/
theorem AWpL.appzFresh {e : TypeId} {sz bytes : Nat} {z : Value} {x y : Opd} {dst : Option Nat} {gs : List GOp} {c : Nat} {kk : IntKind} {m : Int} {els : List (List AV)} {ob' : Prop}
    (hx : srcEls s (s.ev x) = some (els, ob')) (hxs : srcSz s (s.ev x) sz = true) (hob' : ob') (hc : exactCap (s.ev x) = some c) (hy : s.ev y = .val (.int kk m)) (hd : dstOk E.n dst = true) (hm : 0 < m) (hlt : c < els.length + m.toNat)
    (hbytes : (els.length + m.toNat) * bytes ≤ 140737488355328) (h63 : els.length + m.toNat ≤ 9223372036854775807)
    (h : AWpL P E Q gs (St.putO { s with rg := s.rg ++ [.arr e sz (els ++ List.replicate m.toNat (z.cells.toList.map .val))] } dst (.hnd s.rg.length 0 (els.length + m.toNat) (els.length + m.toNat) false))) : AWpL P E Q (⟨dst, none, .appz e sz bytes z x y⟩ :: gs) s := fun ops l hl a w hrel => by
  obtain ⟨o, l', rfl, h1, h2⟩ := gops_cons hl
  obtain ⟨ρ, ok, hr⟩ := hrel
  obtain ⟨hcp, hdst, hgd⟩ := gop_guard h1
  rcases hgd with ⟨hg0, _⟩ | ⟨_, _, _, _, _, hgd⟩
  case inr => cases hgd
  unfold wpList
  rw [if_pos (wanted_none hg0 _)]
  left
  obtain ⟨tx, ty, i, hux, huy, hi, hz, hzs, rfl, rfl, hsz0, hrun⟩ := appz_inv (a := a) (w := w) hcp
  have hvx := hr.ev x
  obtain ⟨olds, hold, hol, hll⟩ := src_ok hr hvx hx hxs hob'
  have hvy := hr.ev y
  rw [hy] at hvy
  have hvy' := R_val hvy
  obtain ⟨A, n0, hv0⟩ := exactCap_ok hvx hc
  have hold' := hold
  obtain ⟨A', c', hv, hol', _⟩ := hold'
  rw [hv0] at hv
  injection hv with hA hn hcc
  subst hA hn hcc
  rw [hv0] at hold
  obtain ⟨k, rfl⟩ : ∃ k : Nat, m = (k : Int) := ⟨m.toNat, by omega⟩
  simp only [Int.toNat_natCast] at *
  have hrun' := run_appz (P := P) (ty' := o.type) (kk := kk) hux huy hi hz (by omega) hold (k := k) (by omega) hlt hbytes h63
  have hge := grownCap_ge w (els.length + k) c e
  have hzl := zero_rows z.cells k
  have hol2 : olds.length = els.length * i.size := by rw [RcList_length hol, flatten_length hll]
  generalize hcap : grownCap w (els.length + k) c e = cap at hrun' hge
  have hext : Ext w (w.drew.alloc (.cells (olds.toArray ++ Builtin.zeroCells z.cells k ++ Builtin.zeroCells z.cells (cap - (els.length + k))) e)) := (Ext.drawn w (w.drawn + 1)).trans (Ext.push w.drew _)
  have hls : ∀ el ∈ els ++ List.replicate k (z.cells.toList.map .val), el.length = i.size := fun el hm => by
    rcases List.mem_append.1 hm with hm | hm
    · exact hll el hm
    · rw [List.eq_of_mem_replicate hm]; simp [hzs]
  obtain ⟨ρ', h8, h9⟩ := newarr_ok hr e i.size (els ++ List.replicate k (z.cells.toList.map .val)) (olds.toArray ++ Builtin.zeroCells z.cells k ++ Builtin.zeroCells z.cells (cap - (els.length + k)))
    (olds ++ (List.replicate k z.cells.toList).flatten) (Builtin.zeroCells z.cells (cap - (els.length + k))).toList hext (heap_push w.drew _) (by simp [hzl]) hls
    (by rw [List.flatten_append]; exact RcList_append hol (rep_ok _ _))
  unfold Oper.wp
  rw [hrun _ _ (by rw [hv0, hvy']; exact hrun'), Oper.upon_value]
  refine h ops l' h2 _ _ ⟨ρ', ok, ?_⟩
  rw [← hdst]
  refine h8.putO hd ?_
  unfold R
  refine .inl ⟨_, cap, _, h9, rfl, .inr (by simp), Nat.le_refl _, hge, ?_, fun h => by cases h⟩
  simp only [Array.size_append, List.size_toArray, hol2, size_zeroCells, hzs]
  rw [← Nat.add_mul, ← Nat.add_mul, Nat.zero_add, Nat.zero_add]
  exact Nat.mul_le_mul_right _ (by omega)

/-- clear of elements that are known. -/
theorem AWpL.clr {sz : Nat} {z : Value} {x : Opd} {dst : Option Nat} {gs : List GOp} {r off n k : Nat} {ex : Bool} {e : TypeId} {els : List (List AV)}
    (hx : s.ev x = .hnd r off n k ex) (hg : s.reg r = .arr e sz els) (hd : dstOk E.n dst = true) (hin : off + n ≤ els.length) (hz : ∀ v ∈ z.cells.toList, cellish (.val v) = true) (hpos : 0 < k ∨ n = 0)
    (h : AWpL P E Q gs (St.putO { s with rg := s.rg.set r (.arr e sz (overEls els off (List.replicate n (z.cells.toList.map .val)))) } dst (.val (.tuple #[])))) : AWpL P E Q (⟨dst, none, .clr sz z x⟩ :: gs) s := fun ops l hl a w hrel => by
  obtain ⟨o, l', rfl, h1, h2⟩ := gops_cons hl
  obtain ⟨ρ, ok, hr⟩ := hrel
  obtain ⟨hcp, hdst, hgd⟩ := gop_guard h1
  rcases hgd with ⟨hg0, _⟩ | ⟨_, _, _, _, _, hgd⟩
  case inr => cases hgd
  unfold wpList
  rw [if_pos (wanted_none hg0 _)]
  left
  obtain ⟨tx, e1, i, hux, hi, hzz, hzs, rfl, hrun⟩ := clr_inv (a := a) (w := w) hcp
  have hvx := hr.ev x
  rw [hx] at hvx
  rcases Nat.eq_zero_or_pos n with h0 | h0
  · subst h0
    have hsame : { s with rg := s.rg.set r (.arr e i.size (overEls els off (List.replicate 0 (z.cells.toList.map .val)))) } = s := by
      have e1 : overEls els off (List.replicate 0 (z.cells.toList.map .val)) = els := by unfold overEls; simp
      rw [e1]
      have := reg_some hg (by simp)
      obtain ⟨tm, rg⟩ := s
      congr 1
      obtain ⟨hlt, e2⟩ := List.getElem?_eq_some_iff.1 this
      rw [← e2]; exact List.set_getElem_self hlt
    rw [hsame] at h
    have hrun' : (Builtin.clear_ #[tx] o.type #[x.cv a]).run P w = .ok (.tuple #[]) w := by
      unfold R at hvx
      rcases hvx with ⟨p, cc, ad, _, hv, _⟩ | ⟨_, hv, _⟩
      · rw [hv]; simp [Builtin.clear_, run_underlying hux]
      · rw [hv]; simp [Builtin.clear_, run_underlying hux]
    unfold Oper.wp
    rw [hrun _ w hrun', Oper.upon_value]
    refine h ops l' h2 _ _ ⟨ρ, ok, ?_⟩
    rw [← hdst]
    refine hr.putO hd ?_
    unfold R; rfl
  · unfold R at hvx
    rcases hvx with ⟨p, cc, ad, h7, hv, h8, h9, h10, h11, h12⟩ | ⟨_, _, _, h00, _⟩
    · have hps : p.sz = i.size := by
        rcases hr.mem.reg r _ (reg_some hg (by simp)) with ⟨b, d, C, pre, vs, rest, g1, _⟩ | ⟨_, g2⟩
        · rw [g1] at h7; obtain rfl := by simpa using h7
          rfl
        · rw [g2] at h7; injection h7 with h7; cases h7
      have had : ad = ⟨p.b, p.d + off * p.sz, none⟩ := by
        rcases h8 with h8 | h8
        · omega
        · exact h8
      subst had
      obtain ⟨w', h13, h14⟩ := hr.over (P := P) (i := off) (ys := List.replicate n (z.cells.toList.map .val)) (news := (List.replicate n z.cells.toList).flatten) h7 hg (by simpa using hin) (rep_ok _ _) (fun el hm => by
        rw [List.eq_of_mem_replicate hm]; simp [hzs]) (fun el hm v hv => by
        rw [List.eq_of_mem_replicate hm] at hv
        obtain ⟨u, hu, rfl⟩ := List.mem_map.1 hv
        exact hz u hu)
      have hrun' : (Builtin.clear_ #[tx] o.type #[x.cv a]).run P w = .ok (.tuple #[]) w' := by
        rw [hv, hps]
        obtain ⟨n, rfl⟩ : ∃ m, n = m + 1 := ⟨n - 1, by omega⟩
        rw [← zero_rows] at h13
        simp [Builtin.clear_, run_underlying hux, zeroValue, typeInfo, hi, hzz, h13]
      unfold Oper.wp
      rw [hrun _ w' hrun', Oper.upon_value]
      refine h ops l' h2 _ _ ⟨ρ, ok, ?_⟩
      rw [← hdst]
      refine h14.putO hd ?_
      unfold R; rfl
    · omega

/-- copy onto elements that are known. -/
theorem AWpL.copy {sz : Nat} {x y : Opd} {dst : Option Nat} {gs : List GOp} {r off n k : Nat} {ex : Bool} {e : TypeId} {els ys : List (List AV)} {ob : Prop}
    (hx : s.ev x = .hnd r off n k ex) (hg : s.reg r = .arr e sz els) (hs : srcEls s (s.ev y) = some (ys, ob)) (hsz : srcSz s (s.ev y) sz = true) (hd : dstOk E.n dst = true) (hob : ob) (hin : off + n ≤ els.length)
    (hcell : ∀ el ∈ ys.take n, ∀ x ∈ el, cellish x = true) (hpos : 0 < k)
    (h : AWpL P E Q gs (St.putO { s with rg := s.rg.set r (.arr e sz (overEls els off (ys.take n))) } dst (.val (.int .i64 (min ys.length n : Nat))))) : AWpL P E Q (⟨dst, none, .copy sz x y⟩ :: gs) s := fun ops l hl a w hrel => by
  obtain ⟨o, l', rfl, h1, h2⟩ := gops_cons hl
  obtain ⟨ρ, ok, hr⟩ := hrel
  obtain ⟨hcp, hdst, hgd⟩ := gop_guard h1
  rcases hgd with ⟨hg0, _⟩ | ⟨_, _, _, _, _, hgd⟩
  case inr => cases hgd
  unfold wpList
  rw [if_pos (wanted_none hg0 _)]
  left
  obtain ⟨tx, ty, e1, e', i, hux, huy, hi, rfl, hrun⟩ := copy_inv (a := a) (w := w) hcp
  have hvx := hr.ev x
  rw [hx] at hvx
  obtain ⟨news, hnew, hnl, hyl⟩ := src_ok hr (hr.ev y) hs hsz hob
  have hnew' := hnew
  obtain ⟨B, c', hB, hnl2, hB0, hBs⟩ := hnew'
  have hml : min ys.length n ≤ ys.length := Nat.min_le_left _ _
  have hmm := Nat.mul_le_mul_right i.size hml
  have hf : (Builtin.firstCells i.size (min ys.length n) (y.cv a)).run P w = .ok (news.take (min ys.length n * i.size)).toArray w := by
    rw [hB]
    have := run_first (P := P) (w := w) (w' := w) (sz := i.size) (n := min ys.length n) (v := .slice B (min ys.length n) c') (news := news.take (min ys.length n * i.size))
      ⟨B, c', rfl, by rw [List.length_take, hnl2]; omega, fun hn => by rw [hB0 hn]; simp, fun ad had j u hj => hBs ad had j u (by
        rw [List.getElem?_take] at hj
        split at hj
        · exact hj
        · cases hj)⟩ (fun _ _ _ h => h)
    cases B <;> exact this
  have htk : news.take (min ys.length n * i.size) = news.take (n * i.size) := by
    rcases Nat.le_total ys.length n with h0 | h0
    · rw [Nat.min_eq_left h0, ← hnl2, List.take_length, List.take_of_length_le]
      rw [hnl2]; exact Nat.mul_le_mul_right _ h0
    · rw [Nat.min_eq_right h0]
  rw [htk] at hf
  have hsub : RcList w ok (ys.take n).flatten (news.take (n * i.size)) := by rw [take_flatten n hyl]; exact RcList_take _ hnl
  unfold R at hvx
  rcases hvx with ⟨p, cc, ad, h7, hv, h8, h9, h10, h11, h12⟩ | ⟨_, _, _, _, h00⟩
  · have hps : p.sz = i.size := by
      rcases hr.mem.reg r _ (reg_some hg (by simp)) with ⟨b, d, C, pre, vs, rest, g1, _⟩ | ⟨_, g2⟩
      · rw [g1] at h7; obtain rfl := by simpa using h7
        rfl
      · rw [g2] at h7; injection h7 with h7; cases h7
    have had : ad = ⟨p.b, p.d + off * p.sz, none⟩ := by
      rcases h8 with h8 | h8
      · omega
      · exact h8
    subst had
    obtain ⟨w', h13, h14⟩ := hr.over (P := P) (i := off) (ys := ys.take n) h7 hg (by rw [List.length_take]; omega) hsub (fun el hm => hyl el (List.mem_of_mem_take hm)) hcell
    have hrun' : (Builtin.copy_ #[tx, ty] o.type #[x.cv a, y.cv a]).run P w = .ok (.int .i64 (min ys.length n : Nat)) w' := by
      rw [hv, hps]
      have hmin : Nat.min ys.length n = min ys.length n := rfl
      rw [hB] at hf ⊢
      simp [Builtin.copy_, run_underlying hux, run_sizeOf hi, Builtin.lenOf, hmin, hf, h13, goInt]
    unfold Oper.wp
    rw [hrun _ w' hrun', Oper.upon_value]
    refine h ops l' h2 _ _ ⟨ρ, ok, ?_⟩
    rw [← hdst]
    refine h14.putO hd ?_
    unfold R; rfl
  · omega

/-! ### Capacities that become known -/
theorem RcList_any : ∀ (n : Nat) {vs : List Value}, vs.length = n → RcList w ok (List.replicate n .any) vs
  | 0, vs, h => by obtain rfl := List.eq_nil_of_length_eq_zero h; simp [RcList]
  | n + 1, [], h => by simp at h
  | n + 1, v :: vs, h => by
    rw [List.replicate_succ]
    unfold RcList
    exact ⟨v, vs, rfl, by unfold Rc; trivial, RcList_any n (by simpa using h)⟩
theorem any_rows (m sz : Nat) : (List.replicate m (List.replicate sz AV.any)).flatten = List.replicate (m * sz) .any := by
  induction m with
  | zero => simp
  | succ m ih => rw [List.replicate_succ, List.flatten_cons, ih, List.replicate_append_replicate, Nat.succ_mul, Nat.add_comm]
/-- A slice whose capacity becomes known: c. -/
def revealS (s : St) (t r off n c : Nat) (e : TypeId) (sz : Nat) (els : List (List AV)) : St :=
  ⟨(t, .hnd r off n c true) :: s.tm, s.rg.set r (.arr e sz (els ++ List.replicate (off + c - els.length) (List.replicate sz .any)))⟩
theorem Rel.reveal {t r off n k sz : Nat} {ex : Bool} {e : TypeId} {els : List (List AV)} (ht : look s.tm t = .hnd r off n k ex) (hg : s.reg r = .arr e sz els) (h : Rel E s a w) :
    ∃ c, k ≤ c ∧ (ex = true → c = k) ∧ Rel E (revealS s t r off n c e sz els) a w := by
  obtain ⟨ρ, ok, hr⟩ := h
  have hv := hr.tm t
  rw [ht] at hv
  have hgs := reg_some hg (by simp)
  have hrlt := (List.getElem?_eq_some_iff.1 hgs).1
  have fin : ∀ {c : Nat} {els' : List (List AV)}, R w ok ρ (.hnd r off n c true) (a.tmps.getD t undef) → RegOk w ok ρ r (.arr e sz els') → RelM E ⟨(t, .hnd r off n c true) :: s.tm, s.rg.set r (.arr e sz els')⟩ a w ρ ok := fun hx hg' => by
    refine ⟨⟨hr.mem.okl, hr.mem.inj, hr.mem.own, fun k g hk => ?_, fun k hk => hr.mem.out k (by simpa using hk)⟩, fun m => ?_, hr.siz, hr.dfr, hr.kps, hr.bas, hr.ownr, hr.okr, hr.pin⟩
    · by_cases e1 : k = r
      · subst e1
        rw [List.getElem?_set] at hk
        simp only [if_true, hrlt] at hk
        obtain rfl := Option.some.inj hk
        exact hg'
      · rw [List.getElem?_set_ne (Ne.symm e1)] at hk
        exact hr.mem.reg k g hk
    · show R w ok ρ (look ((t, _) :: s.tm) m) _
      rw [look_cons]
      cases hi : (t == m)
      · exact hr.tm m
      · obtain rfl : t = m := by simpa using hi
        exact hx
  rcases hr.mem.reg r _ hgs with ⟨b, d, C, pre, vs, rest, h1, h2, h3, h4, h5, h6⟩ | ⟨h1, h2⟩
  · unfold R at hv
    rcases hv with ⟨p, cc, ad, h7, hv, h8, h9, h10, h11, h12⟩ | ⟨h7, _⟩
    · rw [h1] at h7
      obtain rfl := by simpa using h7
      refine ⟨cc, h10, h12, ρ, ok, show RelM E ⟨(t, .hnd r off n cc true) :: s.tm, s.rg.set r (.arr e sz (els ++ List.replicate (off + cc - els.length) (List.replicate sz .any)))⟩ a w ρ ok from fin (els' := els ++ List.replicate (off + cc - els.length) (List.replicate sz .any)) ?_ ?_⟩
      · unfold R; exact .inl ⟨_, cc, ad, h1, hv, h8, by omega, Nat.le_refl _, h11, fun _ => rfl⟩
      · have hvl : vs.length = els.length * sz := by rw [RcList_length h6, flatten_length h5]
        have hCs : C.size = d + (vs.length + rest.length) := by
          have := congrArg List.length h3
          simp [h4] at this; omega
        dsimp only at h11
        refine .inl ⟨b, d, C, pre, vs ++ rest.take ((off + cc - els.length) * sz), rest.drop ((off + cc - els.length) * sz), h1, h2, by rw [h3]; simp, h4, fun el hm => ?_, ?_⟩
        · rcases List.mem_append.1 hm with hm | hm
          · exact h5 el hm
          · rw [List.eq_of_mem_replicate hm]; simp
        · rw [List.flatten_append, any_rows]
          refine RcList_append h6 (RcList_any _ ?_)
          rw [List.length_take, Nat.min_eq_left]
          rw [Nat.sub_mul]; omega
    · rw [h1] at h7; injection h7 with h7; cases h7
  · unfold R at hv
    rcases hv with ⟨p, cc, ad, h7, _⟩ | ⟨h7, hv, h8, h9, h10⟩
    · rw [h2] at h7; injection h7 with h7; cases h7
    · subst h8 h9 h10
      refine ⟨0, Nat.le_refl _, fun _ => rfl, ρ, ok, show RelM E ⟨(t, .hnd r 0 0 0 true) :: s.tm, s.rg.set r (.arr e sz (els ++ List.replicate (0 + 0 - els.length) (List.replicate sz .any)))⟩ a w ρ ok from fin (els' := els ++ List.replicate (0 + 0 - els.length) (List.replicate sz .any)) ?_ ?_⟩
      · unfold R; exact .inr ⟨h2, hv, rfl, rfl, rfl⟩
      · subst h1; exact .inr ⟨rfl, h2⟩
theorem AWp.reveal {t r off n k sz : Nat} {ex : Bool} {e : TypeId} {els : List (List AV)} {c : ACode} (ht : look s.tm t = .hnd r off n k ex) (hg : s.reg r = .arr e sz els)
    (h : ∀ cc, k ≤ cc → (ex = true → cc = k) → AWp P E Q c (revealS s t r off n cc e sz els)) : AWp P E Q c s := fun code hc a w hr => by
  obtain ⟨cc, h1, h2, h3⟩ := Rel.reveal ht hg hr
  exact h cc h1 h2 code hc a w h3
theorem AWpL.reveal {t r off n k sz : Nat} {ex : Bool} {e : TypeId} {els : List (List AV)} {gs : List GOp} (ht : look s.tm t = .hnd r off n k ex) (hg : s.reg r = .arr e sz els)
    (h : ∀ cc, k ≤ cc → (ex = true → cc = k) → AWpL P E Q gs (revealS s t r off n cc e sz els)) : AWpL P E Q gs s := fun ops l hl a w hr => by
  obtain ⟨cc, h1, h2, h3⟩ := Rel.reveal ht hg hr
  exact h cc h1 h2 ops l hl a w h3
/-- The elements of a region behind the m-th are forgotten. -/
theorem weak_cut (r m : Nat) {e : TypeId} {sz : Nat} {els : List (List AV)} (hg : s.reg r = .arr e sz els) : Weak E s ⟨s.tm, s.rg.set r (.arr e sz (els.take m))⟩ := fun a w ⟨ρ, ok, hr⟩ => by
  have hgs := reg_some hg (by simp)
  have hrlt := (List.getElem?_eq_some_iff.1 hgs).1
  refine ⟨ρ, ok, ⟨hr.mem.okl, hr.mem.inj, hr.mem.own, fun k g hk => ?_, fun k hk => hr.mem.out k (by simpa using hk)⟩, hr.tm, hr.siz, hr.dfr, hr.kps, hr.bas, hr.ownr, hr.okr, hr.pin⟩
  by_cases e1 : k = r
  · subst e1
    rw [List.getElem?_set] at hk
    simp only [if_true, hrlt] at hk
    obtain rfl := Option.some.inj hk
    rcases hr.mem.reg k _ hgs with ⟨b, d, C, pre, vs, rest, h1, h2, h3, h4, h5, h6⟩ | ⟨h1, h2⟩
    · refine .inl ⟨b, d, C, pre, vs.take (m * sz), vs.drop (m * sz) ++ rest, h1, h2, by rw [h3, ← List.append_assoc (vs.take _), List.take_append_drop], h4, fun el hm => h5 el (List.mem_of_mem_take hm), ?_⟩
      rw [take_flatten m h5]
      exact RcList_take _ h6
    · subst h1; exact .inr ⟨by simp, h2⟩
  · rw [List.getElem?_set_ne (Ne.symm e1)] at hk
    exact hr.mem.reg k g hk
/-- Of a slice only its elements are known. -/
theorem weak_hnd (t : Nat) {r off n k : Nat} {ex : Bool} (ht : look s.tm t = .hnd r off n k ex) : Weak E s (s.put t (.hnd r off n n false)) := fun a w ⟨ρ, ok, hr⟩ => by
  refine ⟨ρ, ok, hr.mem, fun m => ?_, hr.siz, hr.dfr, hr.kps, hr.bas, hr.ownr, hr.okr, hr.pin⟩
  show R w ok ρ (look (putTm s.tm t _) m) _
  rw [look_put]
  by_cases e : m = t
  · subst e
    rw [if_pos rfl]
    have := hr.tm m
    rw [ht] at this
    unfold R at this ⊢
    rcases this with ⟨p, cc, ad, h7, hv, h8, h9, h10, h11, h12⟩ | ⟨h7, hv, h8, h9, h10⟩
    · exact .inl ⟨p, cc, ad, h7, hv, h8, Nat.le_refl _, by omega, h11, fun h => by cases h⟩
    · exact .inr ⟨h7, hv, h8, h9, h9⟩
  · rw [if_neg e]; exact hr.tm m
end
end Go.Proofs.Ytmkodhpbjedfkaa.Aw
