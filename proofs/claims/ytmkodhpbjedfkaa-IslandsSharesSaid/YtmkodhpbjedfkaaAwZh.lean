/- A logic of abstract states for walks: a new array behind an empty slice, up to the greatest size that an array may have. -/
import Derived.Test.YtmkodhpbjedfkaaAwZg
set_option linter.unusedVariables false
set_option linter.unusedSimpArgs false
namespace Go.Proofs.Ytmkodhpbjedfkaa.Aw
open Go.RowKit

section
variable {P : Program} {E : Env} {Q : Exit → St → Prop} {s s' : St} {a : Act} {w : World} {ρ : Nat → Option (Option Place)} {ok : Nat → Prop}
theorem run_appz0 {tx ty ty' e : TypeId} {i : TypeInfo} {z : Value} {kk : IntKind} (hx : P.underlying tx = some (.slice e)) (hy : P.underlying ty = some (.int .i64)) (hi : P.info? e = some i) (hz : i.zero = some z) (hpos : 0 < i.size)
    {A : Option Addr} {n k : Nat} {olds : List Value} (hold : Src w i.size n (.slice A n 0) olds) (hk : 0 < k) (hbytes : (n + k) * i.bytes ≤ 281474976710656) (h63 : n + k ≤ 9223372036854775807) :
    (Builtin.append_ #[tx, ty] ty' #[.slice A n 0, .int kk k]).run P w = .ok (.slice (some ⟨w.heap.size, 0, none⟩) (n + k) (grownCap w (n + k) 0 e))
      (w.drew.alloc (.cells (olds.toArray ++ Builtin.zeroCells z.cells k ++ Builtin.zeroCells z.cells (grownCap w (n + k) 0 e - (n + k))) e)) := by
  have hfo : (Builtin.firstCells i.size n (.slice A n 0)).run P w.drew = .ok olds.toArray w.drew := run_first hold (fun _ _ _ h => h)
  have hroom : ¬ (n + k ≤ 0) := by omega
  have hsz : k * i.size ≠ 0 := Nat.mul_ne_zero (by omega) (by omega)
  have hwrap : IntKind.i64.wrap (k : Int) = k := by rw [IntKind.wrap_i64]; omega
  have hb1 := Nat.mul_le_mul_right i.bytes (show k ≤ n + k by omega)
  have hb2 : ¬ (281474976710656 < (k : Int) * (i.bytes : Int)) := by rw [← Int.natCast_mul]; omega
  have hb3 : ¬ (281474976710656 < Builtin.nextslicecap (n + k) 0 * i.bytes) := by rw [nextslicecap_zero (by omega)]; omega
  have hb4 : ¬ (9223372036854775807 < ((n : Int) + (k : Int))) := by omega
  have hneg : ¬ ((k : Int) < 0) := by omega
  have hk0 : k ≠ 0 := by omega
  simp [Builtin.append_, run_underlying hx, run_underlying hy, sizeOf, typeInfo, zeroValue, hi, hz, asInt, asIntOf, hwrap, hroom, hneg, hsz, hk0, hb2, hb3, hb4, Question.forced, hfo, newRow, grownCap]
  try omega
/-- append of zeros to a slice of capacity 0. -/
theorem AWpL.appzZero {e : TypeId} {sz bytes : Nat} {z : Value} {x y : Opd} {dst : Option Nat} {gs : List GOp} {kk : IntKind} {m : Int} {els : List (List AV)} {ob' : Prop}
    (hx : srcEls s (s.ev x) = some (els, ob')) (hxs : srcSz s (s.ev x) sz = true) (hob' : ob') (hc : exactCap (s.ev x) = some 0) (hy : s.ev y = .val (.int kk m)) (hd : dstOk E.n dst = true) (hm : 0 < m)
    (hbytes : (els.length + m.toNat) * bytes ≤ 281474976710656) (h63 : els.length + m.toNat ≤ 9223372036854775807)
    (h : AWpL P E Q gs (St.putO { s with rg := s.rg ++ [.arr e sz (els ++ List.replicate m.toNat (z.cells.toList.map .val))] } dst (.hnd s.rg.length 0 (els.length + m.toNat) (els.length + m.toNat) false))) : AWpL P E Q (⟨dst, none, .appz e sz bytes z x y⟩ :: gs) s := fun ops l hl a w hrel => by
  obtain ⟨o, l', rfl, h1, h2⟩ := gops_cons hl
  obtain ⟨ρ, ok, hr⟩ := hrel
  obtain ⟨hcp, hdst, hgd⟩ := gop_guard h1
  rcases hgd with ⟨hg0, _⟩ | ⟨_, _, _, _, _, hgd⟩
  case inr => cases hgd
  unfold wpList
  rw [if_pos (wanted_none hg0 _)]
  left
  obtain ⟨tx, ty, i, hux, huy, hi, hz, hzs, rfl, rfl, hsz0, hrun⟩ := appz_inv (a := a) (w := w) hcp
  have hvx := hr.ev x
  obtain ⟨olds, hold, hol, hll⟩ := src_ok hr hvx hx hxs hob'
  have hvy := hr.ev y
  rw [hy] at hvy
  have hvy' := R_val hvy
  obtain ⟨A, n0, hv0⟩ := exactCap_ok hvx hc
  have hold' := hold
  obtain ⟨A', c', hv, hol', _⟩ := hold'
  rw [hv0] at hv
  injection hv with hA hn hcc
  subst hA hn hcc
  rw [hv0] at hold
  obtain ⟨k, rfl⟩ : ∃ k : Nat, m = (k : Int) := ⟨m.toNat, by omega⟩
  simp only [Int.toNat_natCast] at *
  have hrun' := run_appz0 (P := P) (ty' := o.type) (kk := kk) hux huy hi hz (by omega) hold (k := k) (by omega) hbytes h63
  have hge := grownCap_ge w (els.length + k) 0 e
  have hzl := zero_rows z.cells k
  have hol2 : olds.length = els.length * i.size := by rw [RcList_length hol, flatten_length hll]
  generalize hcap : grownCap w (els.length + k) 0 e = cap at hrun' hge
  have hext : Ext w (w.drew.alloc (.cells (olds.toArray ++ Builtin.zeroCells z.cells k ++ Builtin.zeroCells z.cells (cap - (els.length + k))) e)) := (Ext.drawn w (w.drawn + 1)).trans (Ext.push w.drew _)
  have hls : ∀ el ∈ els ++ List.replicate k (z.cells.toList.map .val), el.length = i.size := fun el hm => by
    rcases List.mem_append.1 hm with hm | hm
    · exact hll el hm
    · rw [List.eq_of_mem_replicate hm]; simp [hzs]
  obtain ⟨ρ', h8, h9⟩ := newarr_ok hr e i.size (els ++ List.replicate k (z.cells.toList.map .val)) (olds.toArray ++ Builtin.zeroCells z.cells k ++ Builtin.zeroCells z.cells (cap - (els.length + k)))
    (olds ++ (List.replicate k z.cells.toList).flatten) (Builtin.zeroCells z.cells (cap - (els.length + k))).toList hext (heap_push w.drew _) (by simp [hzl]) hls
    (by rw [List.flatten_append]; exact RcList_append hol (rep_ok _ _))
  unfold Oper.wp
  rw [hrun _ _ (by rw [hv0, hvy']; exact hrun'), Oper.upon_value]
  refine h ops l' h2 _ _ ⟨ρ', ok, ?_⟩
  rw [← hdst]
  refine h8.putO hd ?_
  unfold R
  refine .inl ⟨_, cap, _, h9, rfl, .inr (by simp), Nat.le_refl _, hge, ?_, fun h => by cases h⟩
  simp only [Array.size_append, List.size_toArray, hol2, size_zeroCells, hzs]
  rw [← Nat.add_mul, ← Nat.add_mul, Nat.zero_add, Nat.zero_add]
  exact Nat.mul_le_mul_right _ (by omega)
/-- copy onto nothing. -/
theorem AWpL.copy0 {sz : Nat} {x y : Opd} {dst : Option Nat} {gs : List GOp} {r off k : Nat} {ex : Bool} {ys : List (List AV)} {ob : Prop}
    (hx : s.ev x = .hnd r off 0 k ex) (hs : srcEls s (s.ev y) = some (ys, ob)) (hsz : srcSz s (s.ev y) sz = true) (hd : dstOk E.n dst = true) (hob : ob)
    (h : AWpL P E Q gs (St.putO s dst (.val (.int .i64 0)))) : AWpL P E Q (⟨dst, none, .copy sz x y⟩ :: gs) s := fun ops l hl a w hrel => by
  obtain ⟨o, l', rfl, h1, h2⟩ := gops_cons hl
  obtain ⟨ρ, ok, hr⟩ := hrel
  obtain ⟨hcp, hdst, hgd⟩ := gop_guard h1
  rcases hgd with ⟨hg0, _⟩ | ⟨_, _, _, _, _, hgd⟩
  case inr => cases hgd
  unfold wpList
  rw [if_pos (wanted_none hg0 _)]
  left
  obtain ⟨tx, ty, e1, e', i, hux, huy, hi, rfl, hrun⟩ := copy_inv (a := a) (w := w) hcp
  have hvx := hr.ev x
  rw [hx] at hvx
  obtain ⟨news, hnew, hnl, hyl⟩ := src_ok hr (hr.ev y) hs hsz hob
  obtain ⟨B, c', hB, hnl2, hB0, hBs⟩ := hnew
  have hv : ∃ A c, x.cv a = .slice A 0 c := by
    unfold R at hvx
    rcases hvx with ⟨p, cc, ad, h7, hv, _⟩ | ⟨_, hv, _⟩
    · exact ⟨_, _, hv⟩
    · exact ⟨_, _, hv⟩
  obtain ⟨A, c, hv⟩ := hv
  have hf : (Builtin.firstCells i.size 0 (y.cv a)).run P w = .ok #[] w := by
    rw [hB]
    have := run_first (P := P) (w := w) (w' := w) (sz := i.size) (n := 0) (v := .slice B 0 c') (news := [])
      ⟨B, c', rfl, by simp, fun hn => rfl, fun ad had j u hj => by simp at hj⟩ (fun _ _ _ h => h)
    cases B <;> exact this
  have hrun' : (Builtin.copy_ #[tx, ty] o.type #[x.cv a, y.cv a]).run P w = .ok (.int .i64 0) w := by
    rw [hv]
    rw [hB] at hf ⊢
    have h0 : Nat.min ys.length 0 = 0 := Nat.min_zero _
    cases A <;> simp [Builtin.copy_, run_underlying hux, run_sizeOf hi, Builtin.lenOf, h0, hf, goInt, storeCells]
  unfold Oper.wp
  rw [hrun _ w hrun', Oper.upon_value]
  refine h ops l' h2 _ _ ⟨ρ, ok, ?_⟩
  rw [← hdst]
  refine hr.putO hd ?_
  unfold R; rfl
end
end Go.Proofs.Ytmkodhpbjedfkaa.Aw
