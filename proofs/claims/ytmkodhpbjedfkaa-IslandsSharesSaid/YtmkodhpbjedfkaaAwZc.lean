/- A logic of abstract states for walks: arrays written over, copied, cleared; new arrays for slices without room. -/
import Derived.Test.YtmkodhpbjedfkaaAwZb
set_option linter.unusedVariables false
set_option linter.unusedSimpArgs false
namespace Go.Proofs.Ytmkodhpbjedfkaa.Aw
open Go.RowKit

/-- Elements written over elements. -/
def overEls (els : List (List AV)) (i : Nat) (ys : List (List AV)) : List (List AV) := els.take i ++ (ys ++ els.drop (i + ys.length))
theorem overEls_length {els : List (List AV)} {i : Nat} {ys : List (List AV)} (h : i + ys.length ≤ els.length) : (overEls els i ys).length = els.length := by
  unfold overEls; simp; omega
section
variable {P : Program} {E : Env} {Q : Exit → St → Prop} {s s' : St} {a : Act} {w : World} {ρ : Nat → Option (Option Place)} {ok : Nat → Prop}

theorem RcList_take {xs : List AV} {vs : List Value} (n : Nat) (h : RcList w ok xs vs) : RcList w ok (xs.take n) (vs.take n) := by
  have h1 : RcList w ok (xs.take n ++ xs.drop n) vs := by rw [List.take_append_drop]; exact h
  obtain ⟨us, ts, rfl, h2, h3⟩ := RcList_split h1
  have hl := RcList_length h2
  rcases Nat.le_total n xs.length with hn | hn
  · have : us.length = n := by rw [hl, List.length_take]; omega
    rw [← this, List.take_left]
    rw [this]; exact h2
  · have h4 : xs.drop n = [] := List.drop_of_length_le hn
    rw [h4] at h3
    unfold RcList at h3
    subst h3
    have h6 : xs.take n = xs := List.take_of_length_le hn
    rw [h6] at hl h2 ⊢
    rw [List.append_nil, List.take_of_length_le (by omega)]
    exact h2
theorem take_flatten {sz : Nat} : ∀ {els : List (List AV)} (n : Nat), (∀ el ∈ els, el.length = sz) → (els.take n).flatten = els.flatten.take (n * sz)
  | [], n, _ => by simp
  | e :: els, 0, _ => by simp
  | e :: els, n + 1, h => by
    have he := h e List.mem_cons_self
    rw [List.take_succ_cons, List.flatten_cons, List.flatten_cons, take_flatten n fun el hm => h el (List.mem_cons_of_mem _ hm), List.take_append, he, Nat.succ_mul, Nat.add_sub_cancel, show List.take (n * sz + sz) e = e from List.take_of_length_le (by omega)]
theorem drop_flatten {sz : Nat} : ∀ {els : List (List AV)} (n : Nat), (∀ el ∈ els, el.length = sz) → (els.drop n).flatten = els.flatten.drop (n * sz)
  | [], n, _ => by simp
  | e :: els, 0, _ => by simp
  | e :: els, n + 1, h => by
    have he := h e List.mem_cons_self
    rw [List.drop_succ_cons, List.flatten_cons, drop_flatten n fun el hm => h el (List.mem_cons_of_mem _ hm), List.drop_append, he, Nat.succ_mul, Nat.add_sub_cancel, show List.drop (n * sz + sz) e = [] from List.drop_of_length_le (by omega), List.nil_append]

/-- The block of a region is written over with elements. -/
theorem RelM.over (hr : RelM E s a w ρ ok) {r i sz : Nat} {e : TypeId} {els ys : List (List AV)} {p : Place} (hρ : ρ r = some (some p)) (hg : s.reg r = .arr e sz els) (hi : i + ys.length ≤ els.length) {news : List Value}
    (hnews : RcList w ok ys.flatten news) (hyl : ∀ el ∈ ys, el.length = sz) (hcell : ∀ el ∈ ys, ∀ x ∈ el, cellish x = true) :
    ∃ w', (storeCells ⟨p.b, p.d + i * sz, none⟩ news).run P w = .ok () w' ∧ RelM E { s with rg := s.rg.set r (.arr e sz (overEls els i ys)) } a w' ρ ok := by
  rcases hr.mem.reg r _ (reg_some hg (by simp)) with ⟨b, d, C, pre, vs, rest, h1, h2, h3, h4, h5, h6⟩ | ⟨h1, h2⟩
  · rw [hρ] at h1
    obtain rfl := by simpa using h1
    have hvl : vs.length = els.length * sz := by rw [RcList_length h6, flatten_length h5]
    have hnl : news.length = ys.length * sz := by rw [RcList_length hnews, flatten_length hyl]
    have hCs : C.size = d + (vs.length + rest.length) := by
      have := congrArg List.length h3
      simp [h4] at this; omega
    have hm := Nat.mul_le_mul_right sz hi
    rw [Nat.add_mul] at hm
    obtain ⟨w', C', h13, h14, h15, h16, h17, h18, h19, h20⟩ := run_storeCells (P := P) (b := b) (o := d + i * sz) news 0 w C h2 (by omega) (cellish_all (fun x hx => by
      obtain ⟨el, he, hx⟩ := List.mem_flatten.1 hx
      exact hcell el he x hx) hnews)
    have hC's : C'.size = C.size := by
      have h21 := congrArg List.length h15
      have e1 : C.toList.length = C.size := by simp
      have e2 : C'.toList.length = C'.size := by simp
      rw [List.length_append, List.length_append, List.length_take, List.length_drop, e1, e2, Nat.min_eq_left (by omega)] at h21
      omega
    have hrd : Reads ok w w' := Reads.of_same fun b' hb' => h16 b' fun e => (hr.mem.own r _ hρ).2 (e ▸ hb')
    refine ⟨w', h13, hr.write hρ h17 h18 h19 h20 h16 (.inl ⟨b, d, C', pre, vs.take (i * sz) ++ (news ++ vs.drop (i * sz + news.length)), rest, by rw [hC's]; exact hρ, h14, ?_, h4, fun el hm => ?_, ?_⟩)⟩
    · rw [h15, h3, Nat.add_zero, ← h4, List.take_length_add_append, List.take_append, show i * sz - vs.length = 0 by omega, List.take_zero, List.append_nil, Nat.add_assoc, List.drop_length_add_append, List.drop_append,
        show i * sz + news.length - vs.length = 0 by omega, List.drop_zero]
      simp
    · unfold overEls at hm
      rcases List.mem_append.1 hm with hm | hm
      · exact h5 el (List.mem_of_mem_take hm)
      · rcases List.mem_append.1 hm with hm | hm
        · exact hyl el hm
        · exact h5 el (List.mem_of_mem_drop hm)
    · unfold overEls
      rw [List.flatten_append, List.flatten_append, take_flatten i h5, drop_flatten _ h5]
      refine RcList_frame hrd (fun _ x => x) _ _ (RcList_append (RcList_take _ h6) (RcList_append hnews ?_))
      rw [hnl, ← Nat.add_mul]
      exact RcList_drop _ h6
  · rw [hρ] at h2; injection h2 with h2; cases h2

theorem run_app_room {tx ty ty' e : TypeId} {i : TypeInfo} (hx : P.underlying tx = some (.slice e)) {e' : TypeId} (hy : P.underlying ty = some (.slice e')) (hi : P.info? e = some i) {ad : Addr} {n c m : Nat} {news : List Value} {y : Value} (hnew : Src w i.size m y news) (hroom : n + m ≤ c) {w' : World}
    (hst : (storeCells (ad.add (n * i.size)) news).run P w = .ok () w') : (Builtin.append_ #[tx, ty] ty' #[.slice (some ad) n c, y]).run P w = .ok (.slice (some ad) (n + m) c) w' := by
  have hf := run_first (P := P) hnew (w' := w) (fun _ _ _ h => h)
  obtain ⟨B, c', rfl, _⟩ := hnew
  simp [Builtin.append_, run_underlying hx, run_underlying hy, run_sizeOf hi, Builtin.lenOf, hroom, hf, hst]

/-- append where there is room in the elements that are known: they are written over. -/
theorem AWpL.appIn {e : TypeId} {sz bytes : Nat} {z : Value} {x y : Opd} {dst : Option Nat} {gs : List GOp} {r off n k : Nat} {ex : Bool} {els ys : List (List AV)} {ob : Prop}
    (hx : s.ev x = .hnd r off n k ex) (hg : s.reg r = .arr e sz els) (hs : srcEls s (s.ev y) = some (ys, ob)) (hsz : srcSz s (s.ev y) sz = true) (hd : dstOk E.n dst = true) (hob : ob)
    (hcell : ∀ el ∈ ys, ∀ x ∈ el, cellish x = true) (hk : n + ys.length ≤ k) (hin : off + n + ys.length ≤ els.length) (hpos : 0 < k)
    (h : AWpL P E Q gs (St.putO { s with rg := s.rg.set r (.arr e sz (overEls els (off + n) ys)) } dst (.hnd r off (n + ys.length) k ex))) : AWpL P E Q (⟨dst, none, .app e sz bytes z x y⟩ :: gs) s := fun ops l hl a w hrel => by
  obtain ⟨o, l', rfl, h1, h2⟩ := gops_cons hl
  obtain ⟨ρ, ok, hr⟩ := hrel
  obtain ⟨hc, hdst, hgd⟩ := gop_guard h1
  rcases hgd with ⟨hg0, _⟩ | ⟨_, _, _, _, _, hgd⟩
  case inr => cases hgd
  unfold wpList
  rw [if_pos (wanted_none hg0 _)]
  left
  obtain ⟨tx, ty, e', i, hux, huy, hi, hz, hzs, rfl, rfl, hsz0, hrun⟩ := app_inv (a := a) (w := w) hc
  have hvx := hr.ev x
  rw [hx] at hvx
  obtain ⟨news, hsrc, hnews, hyl⟩ := src_ok hr (hr.ev y) hs hsz hob
  unfold R at hvx
  rcases hvx with ⟨p, cc, ad, h7, hv, h8, h9, h10, h11, h12⟩ | ⟨h7, hv, _, _, h0⟩
  · have hps : p.sz = i.size := by
      rcases hr.mem.reg r _ (reg_some hg (by simp)) with ⟨b, d, C, pre, vs, rest, g1, _⟩ | ⟨_, g2⟩
      · rw [g1] at h7; obtain rfl := by simpa using h7
        rfl
      · rw [g2] at h7; injection h7 with h7; cases h7
    have had : ad = ⟨p.b, p.d + off * p.sz, none⟩ := by
      rcases h8 with h8 | h8
      · omega
      · exact h8
    subst had
    obtain ⟨w', h13, h14⟩ := hr.over h7 hg (by omega) hnews hyl hcell
    have hrun' := run_app_room (P := P) (ty' := o.type) (ad := ⟨p.b, p.d + off * p.sz, none⟩) (n := n) (c := cc) hux huy hi hsrc (by omega) (w' := w') (by
      rw [add_plain, ← h13]; congr 2; rw [hps, Nat.add_mul]; congr 1; omega)
    unfold Oper.wp
    rw [hrun _ w' (by rw [hv]; exact hrun'), Oper.upon_value]
    refine h ops l' h2 _ _ ⟨ρ, ok, ?_⟩
    rw [← hdst]
    refine h14.putO hd ?_
    unfold R
    exact .inl ⟨p, cc, _, h7, rfl, .inr rfl, by omega, h10, h11, h12⟩
  · omega
/-- append of nothing. -/
theorem AWpL.appNil {e : TypeId} {sz bytes : Nat} {z : Value} {x y : Opd} {dst : Option Nat} {gs : List GOp} {ob ob' : Prop} {els : List (List AV)}
    (hx : srcEls s (s.ev x) = some (els, ob')) (hxs : srcSz s (s.ev x) sz = true) (hob' : ob') (hs : srcEls s (s.ev y) = some ([], ob)) (hsz : srcSz s (s.ev y) sz = true) (hd : dstOk E.n dst = true) (hob : ob)
    (h : AWpL P E Q gs (s.putO dst (s.ev x))) : AWpL P E Q (⟨dst, none, .app e sz bytes z x y⟩ :: gs) s := fun ops l hl a w hrel => by
  obtain ⟨o, l', rfl, h1, h2⟩ := gops_cons hl
  obtain ⟨ρ, ok, hr⟩ := hrel
  obtain ⟨hc, hdst, hgd⟩ := gop_guard h1
  rcases hgd with ⟨hg0, _⟩ | ⟨_, _, _, _, _, hgd⟩
  case inr => cases hgd
  unfold wpList
  rw [if_pos (wanted_none hg0 _)]
  left
  obtain ⟨tx, ty, e', i, hux, huy, hi, hz, hzs, rfl, rfl, hsz0, hrun⟩ := app_inv (a := a) (w := w) hc
  have hvx := hr.ev x
  have hcap : ∃ A n c, x.cv a = .slice A n c ∧ n ≤ c := by
    unfold srcEls at hx
    split at hx <;> first | (cases hx; done) | skip
    · rename_i hb; rw [hb] at hvx; unfold R Rc at hvx; obtain ⟨A, c, h3, h4, _⟩ := hvx; exact ⟨A, _, c, h3, h4⟩
    · rename_i hb; rw [hb] at hvx; unfold R at hvx
      rcases hvx with ⟨p, cc, ad, _, h3, _, h4, h5, _⟩ | ⟨_, h3, _⟩
      · exact ⟨_, _, _, h3, by omega⟩
      · exact ⟨_, _, _, h3, Nat.le_refl _⟩
    · rename_i hb; rw [hb] at hvx; exact ⟨_, _, _, R_val hvx, Nat.le_refl _⟩
  obtain ⟨A, n, c, hv, hnc⟩ := hcap
  obtain ⟨news, hsrc, hnews, hyl⟩ := src_ok hr (hr.ev y) hs hsz hob
  have hn0 : news = [] := by unfold RcList at hnews; simpa using hnews
  subst hn0
  have hrun' : (Builtin.append_ #[tx, ty] o.type #[.slice A n c, y.cv a]).run P w = .ok (.slice A n c) w := by
    cases A with
    | some ad => exact run_app_room (P := P) hux huy hi hsrc (by simpa using hnc) (by rfl)
    | none =>
      have hf := run_first (P := P) hsrc (w' := w) (fun _ _ _ h => h)
      obtain ⟨B, c', hB, _⟩ := hsrc
      rw [hB] at hf ⊢
      simp only [List.length_nil] at hf
      simp [Builtin.append_, run_underlying hux, run_underlying huy, run_sizeOf hi, Builtin.lenOf, hnc, hf]
  unfold Oper.wp
  rw [hrun _ w (by rw [hv]; exact hrun'), Oper.upon_value]
  refine h ops l' h2 _ _ ⟨ρ, ok, ?_⟩
  rw [← hdst]
  refine hr.putO hd ?_
  rw [← hv]; exact hvx
end
end Go.Proofs.Ytmkodhpbjedfkaa.Aw
