/- A logic of abstract states for walks: several guarded operations that are not wanted. -/
import Derived.Test.YtoickofcmngdjaaAwZ
import Derived.Laws.AppendOwn
set_option linter.unusedVariables false
set_option linter.unusedSimpArgs false
namespace Go.Proofs.Ytoickofcmngdjaa.Aw
open Go.RowKit

/-- The next m operations have this guard, and none of them writes its temporary. -/
def guardedBy (n t : Nat) (want : Bool) : Nat → List GOp → Bool
  | 0, _ => true
  | m + 1, ⟨d, some (t', want'), _⟩ :: l => t' == t && want' == want && d != some t && dstOk n d && guardedBy n t want m l
  | _ + 1, _ => false
def skipS : Nat → List GOp → St → St
  | 0, _, s => s
  | m + 1, ⟨d, _, _⟩ :: l, s => skipS m l (s.putO d (.opt false .any))
  | _ + 1, [], s => s
section
variable {P : Program} {E : Env} {Q : Exit → St → Prop} {n : Nat}
theorem look_putO {s : St} {d : Option Nat} {t : Nat} (x : AV) (h : (d != some t) = true) : look (s.putO d x).tm t = look s.tm t := by
  cases d with
  | none => rfl
  | some d =>
    show look (putTm s.tm d x) t = _
    rw [look_put, if_neg fun e => by subst e; simp at h]
theorem AWpL.skips (hn : E.n = n) (t : Nat) (want : Bool) : ∀ (m : Nat) {gs : List GOp} {s : St}, gdB (look s.tm t) want = some false → guardedBy n t want m gs = true → AWpL P E Q (gs.drop m) (skipS m gs s) → AWpL P E Q gs s
  | 0, gs, s, _, _, k => k
  | m + 1, [], s, h, hg, k => by simp [guardedBy] at hg
  | m + 1, ⟨d, none, op⟩ :: l, s, h, hg, k => by simp [guardedBy] at hg
  | m + 1, ⟨d, some (t', want'), op⟩ :: l, s, h, hg, k => by
    simp only [guardedBy, Bool.and_eq_true, beq_iff_eq] at hg
    obtain ⟨⟨⟨⟨rfl, rfl⟩, h1⟩, h2⟩, h3⟩ := hg
    exact AWpL.guardF (hn ▸ h2) h (AWpL.skips hn t' want' m (by rw [look_putO _ h1]; exact h) h3 k)
theorem AWpQ.skips (hn : E.n = n) (t : Nat) (want : Bool) : ∀ (m : Nat) {gs : List GOp} {s : St}, gdB (look s.tm t) want = some false → guardedBy n t want m gs = true → AWpQ P E Q (gs.drop m) (skipS m gs s) → AWpQ P E Q gs s
  | 0, gs, s, _, _, k => k
  | m + 1, [], s, h, hg, k => by simp [guardedBy] at hg
  | m + 1, ⟨d, none, op⟩ :: l, s, h, hg, k => by simp [guardedBy] at hg
  | m + 1, ⟨d, some (t', want'), op⟩ :: l, s, h, hg, k => by
    simp only [guardedBy, Bool.and_eq_true, beq_iff_eq] at hg
    obtain ⟨⟨⟨⟨rfl, rfl⟩, h1⟩, h2⟩, h3⟩ := hg
    exact AWpQ.guardF (hn ▸ h2) h (AWpQ.skips hn t' want' m (by rw [look_putO _ h1]; exact h) h3 k)
/-- Stop ahead of operation number k. -/
theorem AWpL.upto (k : Nat) (hn : E.n = n) {gs : List GOp} {s : St} (hd : dstsOk n (gs.take k) = true) (h : wpL P E (fun e s' => e = .normal ∧ AWpL P E Q (gs.drop k) s') (gs.take k) s) : AWpL P E Q gs s := by
  have h1 := AWpL.of hn hd h
  have : AWpL P E Q (gs.take k ++ gs.drop k) s := by
    intro ops l hl a w hr
    obtain ⟨l1, l2, rfl, h2, h3⟩ : ∃ l1 l2, l = l1 ++ l2 ∧ gops P ops l1 = some (gs.take k) ∧ gops P ops l2 = some (gs.drop k) := by
      clear h h1 hr
      generalize gs.take k = x at hl
      generalize gs.drop k = y at hl
      induction x generalizing l with
      | nil => exact ⟨[], l, rfl, rfl, hl⟩
      | cons g x ih =>
        obtain ⟨o, l', rfl, h4, h5⟩ := gops_cons hl
        obtain ⟨l1, l2, rfl, h6, h7⟩ := ih _ h5
        exact ⟨o :: l1, l2, rfl, by unfold gops; rw [h4, h6], h7⟩
    have h4 := h1 ops l1 h2 a w hr
    clear hr h2 hl
    induction l1 generalizing a w with
    | nil =>
      obtain ⟨s', ⟨_, h5⟩, h6⟩ := h4
      exact h5 ops l2 h3 _ _ h6
    | cons o l1 ih =>
      show wpList P ops (conc E Q) (o :: (l1 ++ l2)) a w
      unfold wpList at h4 ⊢
      split
      · rename_i hw
        rw [if_pos hw] at h4
        rcases h4 with h4 | ⟨_, a', w', s', h5, _⟩
        · left
          have h5 := Oper.wp_mono (K' := wpList P ops (conc E Q) (l1 ++ l2)) (fun a' w' hx => ih a' w' hx) h4
          unfold Oper.wp at h5 ⊢
          generalize (execOp a.eval o).run P w = r at *
          cases r with
          | ok nx w' =>
            cases nx <;> simp only [Oper.upon] at h5 ⊢ <;> first | exact h5 | skip
            case enter f args =>
              refine Calls.mono h5 fun e w'' he => ?_
              cases e with
              | returned u => exact he
              | panicked c => obtain ⟨s', h6, _⟩ := he; cases h6.1
              | outgrown => obtain ⟨_, _, s', h6, _⟩ := he; cases h6.1
          | halt x w' =>
            cases x <;> simp only [Oper.upon] at h5 ⊢ <;> first | exact h5 | (obtain ⟨s', h6, _⟩ := h5; cases h6.1)
        · cases h5.1
      · rename_i hw
        rw [if_neg hw] at h4
        exact ih _ _ h4
  rwa [List.take_append_drop] at this
end
end Go.Proofs.Ytoickofcmngdjaa.Aw

/- A logic of abstract states for walks: calls and appends, their operands said beforehand. -/
set_option linter.unusedVariables false
set_option linter.unusedSimpArgs false
namespace Go.Proofs.Ytoickofcmngdjaa.Aw
open Go.RowKit

section
variable {P : Program} {E : Env} {Q : Exit → St → Prop} {s : St}
/-- A call whose result is this value; the arguments as they are lent. -/
theorem AWpL.calleA {f : FuncId} {xs : List Opd} {dst : Option Nat} {gs : List GOp} {args : List AV} {y : AV} (hs : Spec P f [] args (Gives (· = y))) (ha : (xs.map fun x => borA 4 s (s.ev x)) = args)
    (hy : plainA y = true) (hd : dstOk E.n dst = true) (hb : allOb (borOb 4 s) (xs.map s.ev)) (h : AWpL P E Q gs (s.putO dst y)) : AWpL P E Q (⟨dst, none, .call f xs⟩ :: gs) s := by
  subst ha
  exact AWpL.calle hs hy hd hb h
theorem AWpL.callgA {f : FuncId} {xs : List Opd} {dst : Option Nat} {gs : List GOp} {args : List AV} {p : AV → Prop} (hs : Spec P f [] args (Gives p)) (ha : (xs.map fun x => borA 4 s (s.ev x)) = args)
    (hd : dstOk E.n dst = true) (hb : allOb (borOb 4 s) (xs.map s.ev)) (h : ∀ x, p x → NI x ∧ AWpL P E Q gs (s.putO dst (mapA (bkM [] s.rg.length) x))) : AWpL P E Q (⟨dst, none, .call f xs⟩ :: gs) s := by
  subst ha
  exact AWpL.callg hs hd hb h
/-- A call, the callee getting the regions of π; what is handed over said beforehand. -/
theorem AWpL.callA (π : List Nat) {f : FuncId} {xs : List Opd} {dst : Option Nat} {gs : List GOp} {rg0 : List Reg} {args : List AV} {Post : List Reg → AV → Prop} (hs : Spec P f rg0 args Post) (hl : lent s π = rg0) (ha : (xs.map fun x => renA π (s.ev x)) = args)
    (hd : dstOk E.n dst = true) (hπ : piOk s.rg.length π = true) (hpin : ∀ r ∈ π, isBox (s.reg r) = true ∨ E.pin r = none)
    (h : ∀ rg x, Post rg x → π.length ≤ rg.length ∧ AWpL P E Q gs (retS s π dst rg x)) : AWpL P E Q (⟨dst, none, .call f xs⟩ :: gs) s := by
  subst hl; subst ha
  exact AWpL.call π hs hd hπ hpin h
/-- Whatever way it goes, it comes to this state. -/
theorem AWp.cut (S0 : St) {c : ACode} (h : AWp P E (fun e s' => e = .normal ∧ Weak E s' S0) c s) (k : Q .normal S0) : AWp P E Q c s := fun code hc a w hr =>
  wp_mono (h code hc a w hr) fun e a w ⟨s', ⟨he, hw⟩, hr'⟩ => by subst he; exact ⟨S0, k, hw a w hr'⟩
theorem PinOk.none {rg0 : List Reg} {np r : Nat} (hp : PinOk E rg0) (hnp : E.np = np) (h : np ≤ r) : E.pin r = Option.none := by
  cases h1 : E.pin r with
  | none => rfl
  | some p => have := (hp r p h1).1; omega
/-- A nil slice is a slice that is only read. -/
theorem weak_nilimm (i sz : Nat) (h : look s.tm i = .val (.slice none 0 0)) : Weak E s (s.put i (.imm (some true) true sz [])) := fun a w ⟨ρ, ok, hr⟩ => by
  refine ⟨ρ, ok, hr.mem, fun m => ?_, hr.siz, hr.dfr, hr.kps, hr.bas, hr.ownr, hr.okr, hr.pin⟩
  show R w ok ρ (look (putTm s.tm i _) m) _
  rw [look_put]
  by_cases e : m = i
  · subst e
    rw [if_pos rfl]
    have := hr.tm m
    rw [h] at this
    rw [R_val this]
    unfold R Rc
    exact ⟨none, 0, rfl, Nat.le_refl _, fun q hq => Option.some.inj hq, fun _ => rfl, fun _ => rfl, fun a ha => by cases ha⟩
  · rw [if_neg e]; exact hr.tm m
end
end Go.Proofs.Ytoickofcmngdjaa.Aw

/- A logic of abstract states for walks: arrays written over, copied, cleared; new arrays for slices without room. -/
set_option linter.unusedVariables false
set_option linter.unusedSimpArgs false
namespace Go.Proofs.Ytoickofcmngdjaa.Aw
open Go.RowKit

/-- Elements written over elements. -/
def overEls (els : List (List AV)) (i : Nat) (ys : List (List AV)) : List (List AV) := els.take i ++ (ys ++ els.drop (i + ys.length))
theorem overEls_length {els : List (List AV)} {i : Nat} {ys : List (List AV)} (h : i + ys.length ≤ els.length) : (overEls els i ys).length = els.length := by
  unfold overEls; simp; omega
section
variable {P : Program} {E : Env} {Q : Exit → St → Prop} {s s' : St} {a : Act} {w : World} {ρ : Nat → Option (Option Place)} {ok : Nat → Prop}

theorem RcList_take {xs : List AV} {vs : List Value} (n : Nat) (h : RcList w ok xs vs) : RcList w ok (xs.take n) (vs.take n) := by
  have h1 : RcList w ok (xs.take n ++ xs.drop n) vs := by rw [List.take_append_drop]; exact h
  obtain ⟨us, ts, rfl, h2, h3⟩ := RcList_split h1
  have hl := RcList_length h2
  rcases Nat.le_total n xs.length with hn | hn
  · have : us.length = n := by rw [hl, List.length_take]; omega
    rw [← this, List.take_left]
    rw [this]; exact h2
  · have h4 : xs.drop n = [] := List.drop_of_length_le hn
    rw [h4] at h3
    unfold RcList at h3
    subst h3
    have h6 : xs.take n = xs := List.take_of_length_le hn
    rw [h6] at hl h2 ⊢
    rw [List.append_nil, List.take_of_length_le (by omega)]
    exact h2
theorem take_flatten {sz : Nat} : ∀ {els : List (List AV)} (n : Nat), (∀ el ∈ els, el.length = sz) → (els.take n).flatten = els.flatten.take (n * sz)
  | [], n, _ => by simp
  | e :: els, 0, _ => by simp
  | e :: els, n + 1, h => by
    have he := h e List.mem_cons_self
    rw [List.take_succ_cons, List.flatten_cons, List.flatten_cons, take_flatten n fun el hm => h el (List.mem_cons_of_mem _ hm), List.take_append, he, Nat.succ_mul, Nat.add_sub_cancel, show List.take (n * sz + sz) e = e from List.take_of_length_le (by omega)]
theorem drop_flatten {sz : Nat} : ∀ {els : List (List AV)} (n : Nat), (∀ el ∈ els, el.length = sz) → (els.drop n).flatten = els.flatten.drop (n * sz)
  | [], n, _ => by simp
  | e :: els, 0, _ => by simp
  | e :: els, n + 1, h => by
    have he := h e List.mem_cons_self
    rw [List.drop_succ_cons, List.flatten_cons, drop_flatten n fun el hm => h el (List.mem_cons_of_mem _ hm), List.drop_append, he, Nat.succ_mul, Nat.add_sub_cancel, show List.drop (n * sz + sz) e = [] from List.drop_of_length_le (by omega), List.nil_append]

/-- The block of a region is written over with elements. -/
theorem RelM.over (hr : RelM E s a w ρ ok) {r i sz : Nat} {e : TypeId} {els ys : List (List AV)} {p : Place} (hρ : ρ r = some (some p)) (hg : s.reg r = .arr e sz els) (hi : i + ys.length ≤ els.length) {news : List Value}
    (hnews : RcList w ok ys.flatten news) (hyl : ∀ el ∈ ys, el.length = sz) (hcell : ∀ el ∈ ys, ∀ x ∈ el, cellish x = true) :
    ∃ w', (storeCells ⟨p.b, p.d + i * sz, none⟩ news).run P w = .ok () w' ∧ RelM E { s with rg := s.rg.set r (.arr e sz (overEls els i ys)) } a w' ρ ok := by
  rcases hr.mem.reg r _ (reg_some hg (by simp)) with ⟨b, d, C, pre, vs, rest, h1, h2, h3, h4, h5, h6⟩ | ⟨h1, h2⟩
  · rw [hρ] at h1
    obtain rfl := by simpa using h1
    have hvl : vs.length = els.length * sz := by rw [RcList_length h6, flatten_length h5]
    have hnl : news.length = ys.length * sz := by rw [RcList_length hnews, flatten_length hyl]
    have hCs : C.size = d + (vs.length + rest.length) := by
      have := congrArg List.length h3
      simp [h4] at this; omega
    have hm := Nat.mul_le_mul_right sz hi
    rw [Nat.add_mul] at hm
    obtain ⟨w', C', h13, h14, h15, h16, h17, h18, h19, h20⟩ := run_storeCells (P := P) (b := b) (o := d + i * sz) news 0 w C h2 (by omega) (cellish_all (fun x hx => by
      obtain ⟨el, he, hx⟩ := List.mem_flatten.1 hx
      exact hcell el he x hx) hnews)
    have hC's : C'.size = C.size := by
      have h21 := congrArg List.length h15
      have e1 : C.toList.length = C.size := by simp
      have e2 : C'.toList.length = C'.size := by simp
      rw [List.length_append, List.length_append, List.length_take, List.length_drop, e1, e2, Nat.min_eq_left (by omega)] at h21
      omega
    have hrd : Reads ok w w' := Reads.of_same fun b' hb' => h16 b' fun e => (hr.mem.own r _ hρ).2 (e ▸ hb')
    refine ⟨w', h13, hr.write hρ h17 h18 h19 h20 h16 (.inl ⟨b, d, C', pre, vs.take (i * sz) ++ (news ++ vs.drop (i * sz + news.length)), rest, by rw [hC's]; exact hρ, h14, ?_, h4, fun el hm => ?_, ?_⟩)⟩
    · rw [h15, h3, Nat.add_zero, ← h4, List.take_length_add_append, List.take_append, show i * sz - vs.length = 0 by omega, List.take_zero, List.append_nil, Nat.add_assoc, List.drop_length_add_append, List.drop_append,
        show i * sz + news.length - vs.length = 0 by omega, List.drop_zero]
      simp
    · unfold overEls at hm
      rcases List.mem_append.1 hm with hm | hm
      · exact h5 el (List.mem_of_mem_take hm)
      · rcases List.mem_append.1 hm with hm | hm
        · exact hyl el hm
        · exact h5 el (List.mem_of_mem_drop hm)
    · unfold overEls
      rw [List.flatten_append, List.flatten_append, take_flatten i h5, drop_flatten _ h5]
      refine RcList_frame hrd (fun _ x => x) _ _ (RcList_append (RcList_take _ h6) (RcList_append hnews ?_))
      rw [hnl, ← Nat.add_mul]
      exact RcList_drop _ h6
  · rw [hρ] at h2; injection h2 with h2; cases h2

theorem run_app_room {tx ty ty' e : TypeId} {i : TypeInfo} (hx : P.underlying tx = some (.slice e)) {e' : TypeId} (hy : P.underlying ty = some (.slice e')) (hi : P.info? e = some i) {ad : Addr} {n c m : Nat} {news : List Value} {y : Value} (hnew : Src w i.size m y news) (hroom : n + m ≤ c) {w' : World}
    (hst : (storeCells (ad.add (n * i.size)) news).run P w = .ok () w') : (Builtin.append_ #[tx, ty] ty' #[.slice (some ad) n c, y]).run P w = .ok (.slice (some ad) (n + m) c) w' := by
  have hf := run_first (P := P) hnew (w' := w) (fun _ _ _ h => h)
  obtain ⟨B, c', rfl, _⟩ := hnew
  simp [Builtin.append_, run_underlying hx, run_underlying hy, run_sizeOf hi, Builtin.lenOf, hroom, hf, hst]

/-- append where there is room in the elements that are known: they are written over. -/
theorem AWpL.appIn {e : TypeId} {sz bytes : Nat} {z : Value} {x y : Opd} {dst : Option Nat} {gs : List GOp} {r off n k : Nat} {ex : Bool} {els ys : List (List AV)} {ob : Prop}
    (hx : s.ev x = .hnd r off n k ex) (hg : s.reg r = .arr e sz els) (hs : srcEls s (s.ev y) = some (ys, ob)) (hsz : srcSz s (s.ev y) sz = true) (hd : dstOk E.n dst = true) (hob : ob)
    (hcell : ∀ el ∈ ys, ∀ x ∈ el, cellish x = true) (hk : n + ys.length ≤ k) (hin : off + n + ys.length ≤ els.length) (hpos : 0 < k)
    (h : AWpL P E Q gs (St.putO { s with rg := s.rg.set r (.arr e sz (overEls els (off + n) ys)) } dst (.hnd r off (n + ys.length) k ex))) : AWpL P E Q (⟨dst, none, .app e sz bytes z x y⟩ :: gs) s := fun ops l hl a w hrel => by
  obtain ⟨o, l', rfl, h1, h2⟩ := gops_cons hl
  obtain ⟨ρ, ok, hr⟩ := hrel
  obtain ⟨hc, hdst, hgd⟩ := gop_guard h1
  rcases hgd with ⟨hg0, _⟩ | ⟨_, _, _, _, _, hgd⟩
  case inr => cases hgd
  unfold wpList
  rw [if_pos (wanted_none hg0 _)]
  left
  obtain ⟨tx, ty, e', i, hux, huy, hi, hz, hzs, rfl, rfl, hsz0, hrun⟩ := app_inv (a := a) (w := w) hc
  have hvx := hr.ev x
  rw [hx] at hvx
  obtain ⟨news, hsrc, hnews, hyl⟩ := src_ok hr (hr.ev y) hs hsz hob
  unfold R at hvx
  rcases hvx with ⟨p, cc, ad, h7, hv, h8, h9, h10, h11, h12⟩ | ⟨h7, hv, _, _, h0⟩
  · have hps : p.sz = i.size := by
      rcases hr.mem.reg r _ (reg_some hg (by simp)) with ⟨b, d, C, pre, vs, rest, g1, _⟩ | ⟨_, g2⟩
      · rw [g1] at h7; obtain rfl := by simpa using h7
        rfl
      · rw [g2] at h7; injection h7 with h7; cases h7
    have had : ad = ⟨p.b, p.d + off * p.sz, none⟩ := by
      rcases h8 with h8 | h8
      · omega
      · exact h8
    subst had
    obtain ⟨w', h13, h14⟩ := hr.over h7 hg (by omega) hnews hyl hcell
    have hrun' := run_app_room (P := P) (ty' := o.type) (ad := ⟨p.b, p.d + off * p.sz, none⟩) (n := n) (c := cc) hux huy hi hsrc (by omega) (w' := w') (by
      rw [add_plain, ← h13]; congr 2; rw [hps, Nat.add_mul]; congr 1; omega)
    unfold Oper.wp
    rw [hrun _ w' (by rw [hv]; exact hrun'), Oper.upon_value]
    refine h ops l' h2 _ _ ⟨ρ, ok, ?_⟩
    rw [← hdst]
    refine h14.putO hd ?_
    unfold R
    exact .inl ⟨p, cc, _, h7, rfl, .inr rfl, by omega, h10, h11, h12⟩
  · omega
/-- append of nothing. -/
theorem AWpL.appNil {e : TypeId} {sz bytes : Nat} {z : Value} {x y : Opd} {dst : Option Nat} {gs : List GOp} {ob ob' : Prop} {els : List (List AV)}
    (hx : srcEls s (s.ev x) = some (els, ob')) (hxs : srcSz s (s.ev x) sz = true) (hob' : ob') (hs : srcEls s (s.ev y) = some ([], ob)) (hsz : srcSz s (s.ev y) sz = true) (hd : dstOk E.n dst = true) (hob : ob)
    (h : AWpL P E Q gs (s.putO dst (s.ev x))) : AWpL P E Q (⟨dst, none, .app e sz bytes z x y⟩ :: gs) s := fun ops l hl a w hrel => by
  obtain ⟨o, l', rfl, h1, h2⟩ := gops_cons hl
  obtain ⟨ρ, ok, hr⟩ := hrel
  obtain ⟨hc, hdst, hgd⟩ := gop_guard h1
  rcases hgd with ⟨hg0, _⟩ | ⟨_, _, _, _, _, hgd⟩
  case inr => cases hgd
  unfold wpList
  rw [if_pos (wanted_none hg0 _)]
  left
  obtain ⟨tx, ty, e', i, hux, huy, hi, hz, hzs, rfl, rfl, hsz0, hrun⟩ := app_inv (a := a) (w := w) hc
  have hvx := hr.ev x
  have hcap : ∃ A n c, x.cv a = .slice A n c ∧ n ≤ c := by
    unfold srcEls at hx
    split at hx <;> first | (cases hx; done) | skip
    · rename_i hb; rw [hb] at hvx; unfold R Rc at hvx; obtain ⟨A, c, h3, h4, _⟩ := hvx; exact ⟨A, _, c, h3, h4⟩
    · rename_i hb; rw [hb] at hvx; unfold R at hvx
      rcases hvx with ⟨p, cc, ad, _, h3, _, h4, h5, _⟩ | ⟨_, h3, _⟩
      · exact ⟨_, _, _, h3, by omega⟩
      · exact ⟨_, _, _, h3, Nat.le_refl _⟩
    · rename_i hb; rw [hb] at hvx; exact ⟨_, _, _, R_val hvx, Nat.le_refl _⟩
  obtain ⟨A, n, c, hv, hnc⟩ := hcap
  obtain ⟨news, hsrc, hnews, hyl⟩ := src_ok hr (hr.ev y) hs hsz hob
  have hn0 : news = [] := by unfold RcList at hnews; simpa using hnews
  subst hn0
  have hrun' : (Builtin.append_ #[tx, ty] o.type #[.slice A n c, y.cv a]).run P w = .ok (.slice A n c) w := by
    cases A with
    | some ad => exact run_app_room (P := P) hux huy hi hsrc (by simpa using hnc) (by rfl)
    | none =>
      have hf := run_first (P := P) hsrc (w' := w) (fun _ _ _ h => h)
      obtain ⟨B, c', hB, _⟩ := hsrc
      rw [hB] at hf ⊢
      simp only [List.length_nil] at hf
      simp [Builtin.append_, run_underlying hux, run_underlying huy, run_sizeOf hi, Builtin.lenOf, hnc, hf]
  unfold Oper.wp
  rw [hrun _ w (by rw [hv]; exact hrun'), Oper.upon_value]
  refine h ops l' h2 _ _ ⟨ρ, ok, ?_⟩
  rw [← hdst]
  refine hr.putO hd ?_
  rw [← hv]; exact hvx
end
end Go.Proofs.Ytoickofcmngdjaa.Aw

/- A logic of abstract states for walks: new arrays for slices without room, append of zeros, clear, copy, capacities. -/
set_option linter.unusedVariables false
set_option linter.unusedSimpArgs false
namespace Go.Proofs.Ytoickofcmngdjaa.Aw
open Go.RowKit

/-- The capacity, where it is known. -/
def exactCap : AV → Option Nat
  | .imm _ true _ els => some els.length
  | .hnd _ _ _ k true => some k
  | .val (.slice none 0 0) => some 0
  | _ => none
section
variable {P : Program} {E : Env} {Q : Exit → St → Prop} {s s' : St} {a : Act} {w : World} {ρ : Nat → Option (Option Place)} {ok : Nat → Prop}
theorem exactCap_ok {x : AV} {v : Value} {c : Nat} (h : R w ok ρ x v) (hc : exactCap x = some c) : ∃ A n, v = .slice A n c := by
  unfold exactCap at hc
  split at hc <;> first | (cases hc; done) | skip
  · obtain rfl := Option.some.inj hc
    unfold R Rc at h
    obtain ⟨A, c, h2, _, _, _, h3, _⟩ := h
    exact ⟨A, _, by rw [h2, h3 rfl]⟩
  · obtain rfl := Option.some.inj hc
    unfold R at h
    rcases h with ⟨p, cc, ad, _, h2, _, _, _, _, h3⟩ | ⟨_, h2, _, _, h3⟩
    · exact ⟨_, _, by rw [h2, h3 rfl]⟩
    · exact ⟨_, _, by rw [h2, h3]⟩
  · obtain rfl := Option.some.inj hc
    exact ⟨_, _, R_val h⟩
/-- append to a slice whose capacity is known and too small: a new array. -/
theorem AWpL.appFresh {e : TypeId} {sz bytes : Nat} {z : Value} {x y : Opd} {dst : Option Nat} {gs : List GOp} {c : Nat} {els ys : List (List AV)} {ob ob' : Prop}
    (hx : srcEls s (s.ev x) = some (els, ob')) (hxs : srcSz s (s.ev x) sz = true) (hob' : ob') (hc : exactCap (s.ev x) = some c) (hs : srcEls s (s.ev y) = some (ys, ob)) (hsz : srcSz s (s.ev y) sz = true) (hd : dstOk E.n dst = true) (hob : ob) (hlt : c < els.length + ys.length)
    (hbytes : (els.length + ys.length) * bytes ≤ 140737488355328) (h63 : els.length + ys.length ≤ 9223372036854775807)
    (h : AWpL P E Q gs (St.putO { s with rg := s.rg ++ [.arr e sz (els ++ ys)] } dst (.hnd s.rg.length 0 (els.length + ys.length) (els.length + ys.length) false))) : AWpL P E Q (⟨dst, none, .app e sz bytes z x y⟩ :: gs) s := fun ops l hl a w hrel => by
  obtain ⟨o, l', rfl, h1, h2⟩ := gops_cons hl
  obtain ⟨ρ, ok, hr⟩ := hrel
  obtain ⟨hcp, hdst, hgd⟩ := gop_guard h1
  rcases hgd with ⟨hg0, _⟩ | ⟨_, _, _, _, _, hgd⟩
  case inr => cases hgd
  unfold wpList
  rw [if_pos (wanted_none hg0 _)]
  left
  obtain ⟨tx, ty, e', i, hux, huy, hi, hz, hzs, rfl, rfl, hsz0, hrun⟩ := app_inv (a := a) (w := w) hcp
  have hvx := hr.ev x
  obtain ⟨olds, hold, hol, hll⟩ := src_ok hr hvx hx hxs hob'
  obtain ⟨news, hnew, hnl, hyl⟩ := src_ok hr (hr.ev y) hs hsz hob
  obtain ⟨A, n0, hv0⟩ := exactCap_ok hvx hc
  have hold' := hold
  obtain ⟨A', c', hv, _⟩ := hold'
  rw [hv0] at hv
  injection hv with hA hn hcc
  subst hA hn hcc
  rw [hv0] at hold
  rcases run_app (ty' := o.type) hux huy hi hz hzs hold hnew hbytes h63 with ⟨hroom, _⟩ | ⟨hfull, w', C', cap, rest', hrun', hext, hblk, hC', hcs, hcap⟩
  · omega
  · have hrd : Reads ok w w' := hext.reads hr.mem.okl
    obtain ⟨ρ', h8, h9⟩ := newarr_ok hr e i.size (els ++ ys) C' (olds ++ news) rest' hext hblk (by simp [hC']) (fun el hm => by
      rcases List.mem_append.1 hm with hm | hm
      · exact hll el hm
      · exact hyl el hm) (by rw [List.flatten_append]; exact RcList_append hol hnl)
    unfold Oper.wp
    rw [hrun _ w' (by rw [hv0]; exact hrun'), Oper.upon_value]
    refine h ops l' h2 _ _ ⟨ρ', ok, ?_⟩
    rw [← hdst]
    refine h8.putO hd ?_
    unfold R
    exact .inl ⟨_, cap, _, h9, rfl, .inr (by simp), Nat.le_refl _, hcap, by simp [hcs], fun h => by cases h⟩

set_option maxHeartbeats 1000000 in
theorem builtin_inv {b : Builtin} {o : Oper} {ao : AOp} (hc : comp P o = some ao) (hb : (∃ e sz by' z x y, ao = .appz e sz by' z x y ∧ b = .append) ∨ (∃ sz z x, ao = .clr sz z x ∧ b = .clear) ∨ (∃ sz x y, ao = .copy sz x y ∧ b = .copy)) :
    ∃ (c : Call), o.op = .call c ∧ c.callee = .builtin b := by
  have hne : ∀ f xs, ao ≠ .bad f xs := by intro f xs; rcases hb with ⟨_, _, _, _, _, _, rfl, _⟩ | ⟨_, _, _, rfl, _⟩ | ⟨_, _, _, rfl, _⟩ <;> simp
  replace hc := comp0_of hc hne
  obtain ⟨dst, op, type, ps, after, guard⟩ := o
  rcases hb with ⟨_, _, _, _, _, _, rfl, rfl⟩ | ⟨_, _, _, rfl, rfl⟩ | ⟨_, _, _, rfl, rfl⟩ <;>
  · cases op <;> simp only [comp0, Option.some.injEq, reduceCtorEq] at hc
    case call c =>
      obtain ⟨callee, args, argTypes⟩ := c
      dsimp only at hc
      cases callee with
      | invoke r m => simp only [reduceCtorEq] at hc
      | builtin b =>
        cases b <;> (try simp only [reduceCtorEq] at hc) <;> first | exact ⟨_, rfl, rfl⟩ | ((repeat' (split at hc)) <;> simp only [Option.some.injEq, reduceCtorEq] at hc)
      | value g =>
        cases g <;> simp only [Option.some.injEq, reduceCtorEq] at hc
        split at hc <;> first | (cases hc; done) | skip
        split at hc <;> simp only [Option.some.injEq, reduceCtorEq] at hc
    case makeFunc fn first caps =>
      cases fn <;> simp only [reduceCtorEq] at hc
      split at hc <;> simp only [Option.some.injEq, reduceCtorEq] at hc
    all_goals (repeat' (split at hc)) <;> first | (simp only [Option.some.injEq, reduceCtorEq] at hc; done) | (simp only [Option.map_eq_some_iff, reduceCtorEq, and_false, exists_false] at hc; done) | skip

theorem appz_inv {o : Oper} {e : TypeId} {sz bytes : Nat} {z : Value} {x y : Opd} (hc : comp P o = some (.appz e sz bytes z x y)) :
    ∃ tx ty i, P.underlying tx = some (.slice e) ∧ P.underlying ty = some (.int .i64) ∧ P.info? e = some i ∧ i.zero = some z ∧ z.cells.size = i.size ∧ i.size = sz ∧ i.bytes = bytes ∧ sz ≠ 0 ∧
      ∀ v w', (Builtin.append_ #[tx, ty] o.type #[x.cv a, y.cv a]).run P w = .ok v w' → (execOp a.eval o).run P w = .ok (.value v) w' := by
  obtain ⟨c, h1, h2⟩ := builtin_inv (b := .append) hc (.inl ⟨_, _, _, _, _, _, rfl, rfl⟩)
  replace hc := comp0_of hc (by simp)
  obtain ⟨dst, op, type, ps, after, guard⟩ := o
  simp only at h1
  subst h1
  obtain ⟨callee, args, argTypes⟩ := c
  simp only at h2
  subst h2
  simp only [comp0] at hc
  split at hc <;> first | (cases hc; done) | skip
  rename_i x1 y1 tx ty ha ht
  split at hc <;> first | (cases hc; done) | skip
  case h_1 => (repeat' (split at hc)) <;> simp only [Option.some.injEq, reduceCtorEq] at hc
  rename_i e1 hx hy
  split at hc <;> first | (cases hc; done) | skip
  rename_i i hi
  split at hc <;> first | (cases hc; done) | skip
  rename_i z1 hz
  split at hc <;> first | (cases hc; done) | skip
  rename_i hcond
  simp only [Option.some.injEq, AOp.appz.injEq] at hc
  obtain ⟨rfl, rfl, rfl, rfl, rfl, rfl⟩ := hc
  obtain ⟨args⟩ := args
  obtain ⟨argTypes⟩ := argTypes
  simp only at ha ht
  subst ha ht
  refine ⟨tx, ty, i, hx, hy, hi, hz, hcond.1, rfl, rfl, hcond.2.1, fun v w' hrun => ?_⟩
  rw [Opd.cv_of, Opd.cv_of] at hrun
  simp only [execOp, resolve, Sem.run_bind, Sem.run_pure, Result.andThen_ok, invoke, builtin]
  have : (#[x1, y1] : Array Operand).map a.eval = #[a.eval x1, a.eval y1] := by simp
  rw [this]
  simp [hrun]
theorem clr_inv {o : Oper} {sz : Nat} {z : Value} {x : Opd} (hc : comp P o = some (.clr sz z x)) :
    ∃ tx e i, P.underlying tx = some (.slice e) ∧ P.info? e = some i ∧ i.zero = some z ∧ z.cells.size = i.size ∧ i.size = sz ∧
      ∀ v w', (Builtin.clear_ #[tx] o.type #[x.cv a]).run P w = .ok v w' → (execOp a.eval o).run P w = .ok (.value v) w' := by
  obtain ⟨c, h1, h2⟩ := builtin_inv (b := .clear) hc (.inr (.inl ⟨_, _, _, rfl, rfl⟩))
  replace hc := comp0_of hc (by simp)
  obtain ⟨dst, op, type, ps, after, guard⟩ := o
  simp only at h1
  subst h1
  obtain ⟨callee, args, argTypes⟩ := c
  simp only at h2
  subst h2
  simp only [comp0] at hc
  split at hc <;> first | (cases hc; done) | skip
  rename_i x1 tx ha ht
  split at hc <;> first | (cases hc; done) | skip
  rename_i e1 hx
  split at hc <;> first | (cases hc; done) | skip
  rename_i i hi
  split at hc <;> first | (cases hc; done) | skip
  rename_i z1 hz
  split at hc <;> first | (cases hc; done) | skip
  rename_i hcond
  simp only [Option.some.injEq, AOp.clr.injEq] at hc
  obtain ⟨rfl, rfl, rfl⟩ := hc
  obtain ⟨args⟩ := args
  obtain ⟨argTypes⟩ := argTypes
  simp only at ha ht
  subst ha ht
  refine ⟨tx, e1, i, hx, hi, hz, hcond, rfl, fun v w' hrun => ?_⟩
  rw [Opd.cv_of] at hrun
  simp only [execOp, resolve, Sem.run_bind, Sem.run_pure, Result.andThen_ok, invoke, builtin]
  have : (#[x1] : Array Operand).map a.eval = #[a.eval x1] := by simp
  rw [this]
  simp [hrun]
theorem copy_inv {o : Oper} {sz : Nat} {x y : Opd} (hc : comp P o = some (.copy sz x y)) :
    ∃ tx ty e e' i, P.underlying tx = some (.slice e) ∧ P.underlying ty = some (.slice e') ∧ P.info? e = some i ∧ i.size = sz ∧
      ∀ v w', (Builtin.copy_ #[tx, ty] o.type #[x.cv a, y.cv a]).run P w = .ok v w' → (execOp a.eval o).run P w = .ok (.value v) w' := by
  obtain ⟨c, h1, h2⟩ := builtin_inv (b := .copy) hc (.inr (.inr ⟨_, _, _, rfl, rfl⟩))
  replace hc := comp0_of hc (by simp)
  obtain ⟨dst, op, type, ps, after, guard⟩ := o
  simp only at h1
  subst h1
  obtain ⟨callee, args, argTypes⟩ := c
  simp only at h2
  subst h2
  simp only [comp0] at hc
  split at hc <;> first | (cases hc; done) | skip
  rename_i x1 y1 tx ty ha ht
  split at hc <;> first | (cases hc; done) | skip
  rename_i e1 e' hx hy
  split at hc <;> first | (cases hc; done) | skip
  rename_i i hi
  simp only [Option.some.injEq, AOp.copy.injEq] at hc
  obtain ⟨rfl, rfl, rfl⟩ := hc
  obtain ⟨args⟩ := args
  obtain ⟨argTypes⟩ := argTypes
  simp only at ha ht
  subst ha ht
  refine ⟨tx, ty, e1, e', i, hx, hy, hi, rfl, fun v w' hrun => ?_⟩
  rw [Opd.cv_of, Opd.cv_of] at hrun
  simp only [execOp, resolve, Sem.run_bind, Sem.run_pure, Result.andThen_ok, invoke, builtin]
  have : (#[x1, y1] : Array Operand).map a.eval = #[a.eval x1, a.eval y1] := by simp
  rw [this]
  simp [hrun]

theorem zero_rows (zl : Array Value) (n : Nat) : (Builtin.zeroCells zl n).toList = (List.replicate n zl.toList).flatten := made_rows zl zl.size rfl n

/-- What append does with a number of zeros where there is no room. -/
theorem run_appz {tx ty ty' e : TypeId} {i : TypeInfo} {z : Value} {kk : IntKind} (hx : P.underlying tx = some (.slice e)) (hy : P.underlying ty = some (.int .i64)) (hi : P.info? e = some i) (hz : i.zero = some z) (hpos : 0 < i.size)
    {A : Option Addr} {n c k : Nat} {olds : List Value} (hold : Src w i.size n (.slice A n c) olds) (hk : 0 < k) (hfull : c < n + k) (hbytes : (n + k) * i.bytes ≤ 140737488355328) (h63 : n + k ≤ 9223372036854775807) :
    (Builtin.append_ #[tx, ty] ty' #[.slice A n c, .int kk k]).run P w = .ok (.slice (some ⟨w.heap.size, 0, none⟩) (n + k) (grownCap w (n + k) c e))
      (w.drew.alloc (.cells (olds.toArray ++ Builtin.zeroCells z.cells k ++ Builtin.zeroCells z.cells (grownCap w (n + k) c e - (n + k))) e)) := by
  have hfo : (Builtin.firstCells i.size n (.slice A n c)).run P w.drew = .ok olds.toArray w.drew := run_first hold (fun _ _ _ h => h)
  have hroom : ¬ (n + k ≤ c) := by omega
  have hsz : k * i.size ≠ 0 := Nat.mul_ne_zero (by omega) (by omega)
  have hwrap : IntKind.i64.wrap (k : Int) = k := by rw [IntKind.wrap_i64]; omega
  have hb1 := Nat.mul_le_mul_right i.bytes (show k ≤ n + k by omega)
  have hb2 : ¬ (281474976710656 < (k : Int) * (i.bytes : Int)) := by rw [← Int.natCast_mul]; omega
  have hb3 : ¬ (281474976710656 < Builtin.nextslicecap (n + k) c * i.bytes) := by have := growslice_fits (old := c) (need := n + k) (by omega) hbytes; omega
  have hb4 : ¬ (9223372036854775807 < ((n : Int) + (k : Int))) := by omega
  have hneg : ¬ ((k : Int) < 0) := by omega
  have hk0 : k ≠ 0 := by omega
  simp [Builtin.append_, run_underlying hx, run_underlying hy, sizeOf, typeInfo, zeroValue, hi, hz, asInt, asIntOf, hwrap, hroom, hneg, hsz, hk0, hb2, hb3, hb4, Question.forced, hfo, newRow, grownCap]
  try omega
/-- append of zeros to a slice whose capacity is known and too small. -/
theorem AWpL.appzFresh {e : TypeId} {sz bytes : Nat} {z : Value} {x y : Opd} {dst : Option Nat} {gs : List GOp} {c : Nat} {kk : IntKind} {m : Int} {els : List (List AV)} {ob' : Prop}
    (hx : srcEls s (s.ev x) = some (els, ob')) (hxs : srcSz s (s.ev x) sz = true) (hob' : ob') (hc : exactCap (s.ev x) = some c) (hy : s.ev y = .val (.int kk m)) (hd : dstOk E.n dst = true) (hm : 0 < m) (hlt : c < els.length + m.toNat)
    (hbytes : (els.length + m.toNat) * bytes ≤ 140737488355328) (h63 : els.length + m.toNat ≤ 9223372036854775807)
    (h : AWpL P E Q gs (St.putO { s with rg := s.rg ++ [.arr e sz (els ++ List.replicate m.toNat (z.cells.toList.map .val))] } dst (.hnd s.rg.length 0 (els.length + m.toNat) (els.length + m.toNat) false))) : AWpL P E Q (⟨dst, none, .appz e sz bytes z x y⟩ :: gs) s := fun ops l hl a w hrel => by
  obtain ⟨o, l', rfl, h1, h2⟩ := gops_cons hl
  obtain ⟨ρ, ok, hr⟩ := hrel
  obtain ⟨hcp, hdst, hgd⟩ := gop_guard h1
  rcases hgd with ⟨hg0, _⟩ | ⟨_, _, _, _, _, hgd⟩
  case inr => cases hgd
  unfold wpList
  rw [if_pos (wanted_none hg0 _)]
  left
  obtain ⟨tx, ty, i, hux, huy, hi, hz, hzs, rfl, rfl, hsz0, hrun⟩ := appz_inv (a := a) (w := w) hcp
  have hvx := hr.ev x
  obtain ⟨olds, hold, hol, hll⟩ := src_ok hr hvx hx hxs hob'
  have hvy := hr.ev y
  rw [hy] at hvy
  have hvy' := R_val hvy
  obtain ⟨A, n0, hv0⟩ := exactCap_ok hvx hc
  have hold' := hold
  obtain ⟨A', c', hv, hol', _⟩ := hold'
  rw [hv0] at hv
  injection hv with hA hn hcc
  subst hA hn hcc
  rw [hv0] at hold
  obtain ⟨k, rfl⟩ : ∃ k : Nat, m = (k : Int) := ⟨m.toNat, by omega⟩
  simp only [Int.toNat_natCast] at *
  have hrun' := run_appz (P := P) (ty' := o.type) (kk := kk) hux huy hi hz (by omega) hold (k := k) (by omega) hlt hbytes h63
  have hge := grownCap_ge w (els.length + k) c e
  have hzl := zero_rows z.cells k
  have hol2 : olds.length = els.length * i.size := by rw [RcList_length hol, flatten_length hll]
  generalize hcap : grownCap w (els.length + k) c e = cap at hrun' hge
  have hext : Ext w (w.drew.alloc (.cells (olds.toArray ++ Builtin.zeroCells z.cells k ++ Builtin.zeroCells z.cells (cap - (els.length + k))) e)) := (Ext.drawn w (w.drawn + 1)).trans (Ext.push w.drew _)
  have hls : ∀ el ∈ els ++ List.replicate k (z.cells.toList.map .val), el.length = i.size := fun el hm => by
    rcases List.mem_append.1 hm with hm | hm
    · exact hll el hm
    · rw [List.eq_of_mem_replicate hm]; simp [hzs]
  obtain ⟨ρ', h8, h9⟩ := newarr_ok hr e i.size (els ++ List.replicate k (z.cells.toList.map .val)) (olds.toArray ++ Builtin.zeroCells z.cells k ++ Builtin.zeroCells z.cells (cap - (els.length + k)))
    (olds ++ (List.replicate k z.cells.toList).flatten) (Builtin.zeroCells z.cells (cap - (els.length + k))).toList hext (heap_push w.drew _) (by simp [hzl]) hls
    (by rw [List.flatten_append]; exact RcList_append hol (rep_ok _ _))
  unfold Oper.wp
  rw [hrun _ _ (by rw [hv0, hvy']; exact hrun'), Oper.upon_value]
  refine h ops l' h2 _ _ ⟨ρ', ok, ?_⟩
  rw [← hdst]
  refine h8.putO hd ?_
  unfold R
  refine .inl ⟨_, cap, _, h9, rfl, .inr (by simp), Nat.le_refl _, hge, ?_, fun h => by cases h⟩
  simp only [Array.size_append, List.size_toArray, hol2, size_zeroCells, hzs]
  rw [← Nat.add_mul, ← Nat.add_mul, Nat.zero_add, Nat.zero_add]
  exact Nat.mul_le_mul_right _ (by omega)

/-- clear of elements that are known. -/
theorem AWpL.clr {sz : Nat} {z : Value} {x : Opd} {dst : Option Nat} {gs : List GOp} {r off n k : Nat} {ex : Bool} {e : TypeId} {els : List (List AV)}
    (hx : s.ev x = .hnd r off n k ex) (hg : s.reg r = .arr e sz els) (hd : dstOk E.n dst = true) (hin : off + n ≤ els.length) (hz : ∀ v ∈ z.cells.toList, cellish (.val v) = true) (hpos : 0 < k ∨ n = 0)
    (h : AWpL P E Q gs (St.putO { s with rg := s.rg.set r (.arr e sz (overEls els off (List.replicate n (z.cells.toList.map .val)))) } dst (.val (.tuple #[])))) : AWpL P E Q (⟨dst, none, .clr sz z x⟩ :: gs) s := fun ops l hl a w hrel => by
  obtain ⟨o, l', rfl, h1, h2⟩ := gops_cons hl
  obtain ⟨ρ, ok, hr⟩ := hrel
  obtain ⟨hcp, hdst, hgd⟩ := gop_guard h1
  rcases hgd with ⟨hg0, _⟩ | ⟨_, _, _, _, _, hgd⟩
  case inr => cases hgd
  unfold wpList
  rw [if_pos (wanted_none hg0 _)]
  left
  obtain ⟨tx, e1, i, hux, hi, hzz, hzs, rfl, hrun⟩ := clr_inv (a := a) (w := w) hcp
  have hvx := hr.ev x
  rw [hx] at hvx
  rcases Nat.eq_zero_or_pos n with h0 | h0
  · subst h0
    have hsame : { s with rg := s.rg.set r (.arr e i.size (overEls els off (List.replicate 0 (z.cells.toList.map .val)))) } = s := by
      have e1 : overEls els off (List.replicate 0 (z.cells.toList.map .val)) = els := by unfold overEls; simp
      rw [e1]
      have := reg_some hg (by simp)
      obtain ⟨tm, rg⟩ := s
      congr 1
      obtain ⟨hlt, e2⟩ := List.getElem?_eq_some_iff.1 this
      rw [← e2]; exact List.set_getElem_self hlt
    rw [hsame] at h
    have hrun' : (Builtin.clear_ #[tx] o.type #[x.cv a]).run P w = .ok (.tuple #[]) w := by
      unfold R at hvx
      rcases hvx with ⟨p, cc, ad, _, hv, _⟩ | ⟨_, hv, _⟩
      · rw [hv]; simp [Builtin.clear_, run_underlying hux]
      · rw [hv]; simp [Builtin.clear_, run_underlying hux]
    unfold Oper.wp
    rw [hrun _ w hrun', Oper.upon_value]
    refine h ops l' h2 _ _ ⟨ρ, ok, ?_⟩
    rw [← hdst]
    refine hr.putO hd ?_
    unfold R; rfl
  · unfold R at hvx
    rcases hvx with ⟨p, cc, ad, h7, hv, h8, h9, h10, h11, h12⟩ | ⟨_, _, _, h00, _⟩
    · have hps : p.sz = i.size := by
        rcases hr.mem.reg r _ (reg_some hg (by simp)) with ⟨b, d, C, pre, vs, rest, g1, _⟩ | ⟨_, g2⟩
        · rw [g1] at h7; obtain rfl := by simpa using h7
          rfl
        · rw [g2] at h7; injection h7 with h7; cases h7
      have had : ad = ⟨p.b, p.d + off * p.sz, none⟩ := by
        rcases h8 with h8 | h8
        · omega
        · exact h8
      subst had
      obtain ⟨w', h13, h14⟩ := hr.over (P := P) (i := off) (ys := List.replicate n (z.cells.toList.map .val)) (news := (List.replicate n z.cells.toList).flatten) h7 hg (by simpa using hin) (rep_ok _ _) (fun el hm => by
        rw [List.eq_of_mem_replicate hm]; simp [hzs]) (fun el hm v hv => by
        rw [List.eq_of_mem_replicate hm] at hv
        obtain ⟨u, hu, rfl⟩ := List.mem_map.1 hv
        exact hz u hu)
      have hrun' : (Builtin.clear_ #[tx] o.type #[x.cv a]).run P w = .ok (.tuple #[]) w' := by
        rw [hv, hps]
        obtain ⟨n, rfl⟩ : ∃ m, n = m + 1 := ⟨n - 1, by omega⟩
        rw [← zero_rows] at h13
        simp [Builtin.clear_, run_underlying hux, zeroValue, typeInfo, hi, hzz, h13]
      unfold Oper.wp
      rw [hrun _ w' hrun', Oper.upon_value]
      refine h ops l' h2 _ _ ⟨ρ, ok, ?_⟩
      rw [← hdst]
      refine h14.putO hd ?_
      unfold R; rfl
    · omega

/-- copy onto elements that are known. -/
theorem AWpL.copy {sz : Nat} {x y : Opd} {dst : Option Nat} {gs : List GOp} {r off n k : Nat} {ex : Bool} {e : TypeId} {els ys : List (List AV)} {ob : Prop}
    (hx : s.ev x = .hnd r off n k ex) (hg : s.reg r = .arr e sz els) (hs : srcEls s (s.ev y) = some (ys, ob)) (hsz : srcSz s (s.ev y) sz = true) (hd : dstOk E.n dst = true) (hob : ob) (hin : off + n ≤ els.length)
    (hcell : ∀ el ∈ ys.take n, ∀ x ∈ el, cellish x = true) (hpos : 0 < k)
    (h : AWpL P E Q gs (St.putO { s with rg := s.rg.set r (.arr e sz (overEls els off (ys.take n))) } dst (.val (.int .i64 (min ys.length n : Nat))))) : AWpL P E Q (⟨dst, none, .copy sz x y⟩ :: gs) s := fun ops l hl a w hrel => by
  obtain ⟨o, l', rfl, h1, h2⟩ := gops_cons hl
  obtain ⟨ρ, ok, hr⟩ := hrel
  obtain ⟨hcp, hdst, hgd⟩ := gop_guard h1
  rcases hgd with ⟨hg0, _⟩ | ⟨_, _, _, _, _, hgd⟩
  case inr => cases hgd
  unfold wpList
  rw [if_pos (wanted_none hg0 _)]
  left
  obtain ⟨tx, ty, e1, e', i, hux, huy, hi, rfl, hrun⟩ := copy_inv (a := a) (w := w) hcp
  have hvx := hr.ev x
  rw [hx] at hvx
  obtain ⟨news, hnew, hnl, hyl⟩ := src_ok hr (hr.ev y) hs hsz hob
  have hnew' := hnew
  obtain ⟨B, c', hB, hnl2, hB0, hBs⟩ := hnew'
  have hml : min ys.length n ≤ ys.length := Nat.min_le_left _ _
  have hmm := Nat.mul_le_mul_right i.size hml
  have hf : (Builtin.firstCells i.size (min ys.length n) (y.cv a)).run P w = .ok (news.take (min ys.length n * i.size)).toArray w := by
    rw [hB]
    have := run_first (P := P) (w := w) (w' := w) (sz := i.size) (n := min ys.length n) (v := .slice B (min ys.length n) c') (news := news.take (min ys.length n * i.size))
      ⟨B, c', rfl, by rw [List.length_take, hnl2]; omega, fun hn => by rw [hB0 hn]; simp, fun ad had j u hj => hBs ad had j u (by
        rw [List.getElem?_take] at hj
        split at hj
        · exact hj
        · cases hj)⟩ (fun _ _ _ h => h)
    cases B <;> exact this
  have htk : news.take (min ys.length n * i.size) = news.take (n * i.size) := by
    rcases Nat.le_total ys.length n with h0 | h0
    · rw [Nat.min_eq_left h0, ← hnl2, List.take_length, List.take_of_length_le]
      rw [hnl2]; exact Nat.mul_le_mul_right _ h0
    · rw [Nat.min_eq_right h0]
  rw [htk] at hf
  have hsub : RcList w ok (ys.take n).flatten (news.take (n * i.size)) := by rw [take_flatten n hyl]; exact RcList_take _ hnl
  unfold R at hvx
  rcases hvx with ⟨p, cc, ad, h7, hv, h8, h9, h10, h11, h12⟩ | ⟨_, _, _, _, h00⟩
  · have hps : p.sz = i.size := by
      rcases hr.mem.reg r _ (reg_some hg (by simp)) with ⟨b, d, C, pre, vs, rest, g1, _⟩ | ⟨_, g2⟩
      · rw [g1] at h7; obtain rfl := by simpa using h7
        rfl
      · rw [g2] at h7; injection h7 with h7; cases h7
    have had : ad = ⟨p.b, p.d + off * p.sz, none⟩ := by
      rcases h8 with h8 | h8
      · omega
      · exact h8
    subst had
    obtain ⟨w', h13, h14⟩ := hr.over (P := P) (i := off) (ys := ys.take n) h7 hg (by rw [List.length_take]; omega) hsub (fun el hm => hyl el (List.mem_of_mem_take hm)) hcell
    have hrun' : (Builtin.copy_ #[tx, ty] o.type #[x.cv a, y.cv a]).run P w = .ok (.int .i64 (min ys.length n : Nat)) w' := by
      rw [hv, hps]
      have hmin : Nat.min ys.length n = min ys.length n := rfl
      rw [hB] at hf ⊢
      simp [Builtin.copy_, run_underlying hux, run_sizeOf hi, Builtin.lenOf, hmin, hf, h13, goInt]
    unfold Oper.wp
    rw [hrun _ w' hrun', Oper.upon_value]
    refine h ops l' h2 _ _ ⟨ρ, ok, ?_⟩
    rw [← hdst]
    refine h14.putO hd ?_
    unfold R; rfl
  · omega

/-! ### Capacities that become known -/
theorem RcList_any : ∀ (n : Nat) {vs : List Value}, vs.length = n → RcList w ok (List.replicate n .any) vs
  | 0, vs, h => by obtain rfl := List.eq_nil_of_length_eq_zero h; simp [RcList]
  | n + 1, [], h => by simp at h
  | n + 1, v :: vs, h => by
    rw [List.replicate_succ]
    unfold RcList
    exact ⟨v, vs, rfl, by unfold Rc; trivial, RcList_any n (by simpa using h)⟩
theorem any_rows (m sz : Nat) : (List.replicate m (List.replicate sz AV.any)).flatten = List.replicate (m * sz) .any := by
  induction m with
  | zero => simp
  | succ m ih => rw [List.replicate_succ, List.flatten_cons, ih, List.replicate_append_replicate, Nat.succ_mul, Nat.add_comm]
/-- A slice whose capacity becomes known: c. -/
def revealS (s : St) (t r off n c : Nat) (e : TypeId) (sz : Nat) (els : List (List AV)) : St :=
  ⟨(t, .hnd r off n c true) :: s.tm, s.rg.set r (.arr e sz (els ++ List.replicate (off + c - els.length) (List.replicate sz .any)))⟩
theorem Rel.reveal {t r off n k sz : Nat} {ex : Bool} {e : TypeId} {els : List (List AV)} (ht : look s.tm t = .hnd r off n k ex) (hg : s.reg r = .arr e sz els) (h : Rel E s a w) :
    ∃ c, k ≤ c ∧ (ex = true → c = k) ∧ Rel E (revealS s t r off n c e sz els) a w := by
  obtain ⟨ρ, ok, hr⟩ := h
  have hv := hr.tm t
  rw [ht] at hv
  have hgs := reg_some hg (by simp)
  have hrlt := (List.getElem?_eq_some_iff.1 hgs).1
  have fin : ∀ {c : Nat} {els' : List (List AV)}, R w ok ρ (.hnd r off n c true) (a.tmps.getD t undef) → RegOk w ok ρ r (.arr e sz els') → RelM E ⟨(t, .hnd r off n c true) :: s.tm, s.rg.set r (.arr e sz els')⟩ a w ρ ok := fun hx hg' => by
    refine ⟨⟨hr.mem.okl, hr.mem.inj, hr.mem.own, fun k g hk => ?_, fun k hk => hr.mem.out k (by simpa using hk)⟩, fun m => ?_, hr.siz, hr.dfr, hr.kps, hr.bas, hr.ownr, hr.okr, hr.pin⟩
    · by_cases e1 : k = r
      · subst e1
        rw [List.getElem?_set] at hk
        simp only [if_true, hrlt] at hk
        obtain rfl := Option.some.inj hk
        exact hg'
      · rw [List.getElem?_set_ne (Ne.symm e1)] at hk
        exact hr.mem.reg k g hk
    · show R w ok ρ (look ((t, _) :: s.tm) m) _
      rw [look_cons]
      cases hi : (t == m)
      · exact hr.tm m
      · obtain rfl : t = m := by simpa using hi
        exact hx
  rcases hr.mem.reg r _ hgs with ⟨b, d, C, pre, vs, rest, h1, h2, h3, h4, h5, h6⟩ | ⟨h1, h2⟩
  · unfold R at hv
    rcases hv with ⟨p, cc, ad, h7, hv, h8, h9, h10, h11, h12⟩ | ⟨h7, _⟩
    · rw [h1] at h7
      obtain rfl := by simpa using h7
      refine ⟨cc, h10, h12, ρ, ok, show RelM E ⟨(t, .hnd r off n cc true) :: s.tm, s.rg.set r (.arr e sz (els ++ List.replicate (off + cc - els.length) (List.replicate sz .any)))⟩ a w ρ ok from fin (els' := els ++ List.replicate (off + cc - els.length) (List.replicate sz .any)) ?_ ?_⟩
      · unfold R; exact .inl ⟨_, cc, ad, h1, hv, h8, by omega, Nat.le_refl _, h11, fun _ => rfl⟩
      · have hvl : vs.length = els.length * sz := by rw [RcList_length h6, flatten_length h5]
        have hCs : C.size = d + (vs.length + rest.length) := by
          have := congrArg List.length h3
          simp [h4] at this; omega
        dsimp only at h11
        refine .inl ⟨b, d, C, pre, vs ++ rest.take ((off + cc - els.length) * sz), rest.drop ((off + cc - els.length) * sz), h1, h2, by rw [h3]; simp, h4, fun el hm => ?_, ?_⟩
        · rcases List.mem_append.1 hm with hm | hm
          · exact h5 el hm
          · rw [List.eq_of_mem_replicate hm]; simp
        · rw [List.flatten_append, any_rows]
          refine RcList_append h6 (RcList_any _ ?_)
          rw [List.length_take, Nat.min_eq_left]
          rw [Nat.sub_mul]; omega
    · rw [h1] at h7; injection h7 with h7; cases h7
  · unfold R at hv
    rcases hv with ⟨p, cc, ad, h7, _⟩ | ⟨h7, hv, h8, h9, h10⟩
    · rw [h2] at h7; injection h7 with h7; cases h7
    · subst h8 h9 h10
      refine ⟨0, Nat.le_refl _, fun _ => rfl, ρ, ok, show RelM E ⟨(t, .hnd r 0 0 0 true) :: s.tm, s.rg.set r (.arr e sz (els ++ List.replicate (0 + 0 - els.length) (List.replicate sz .any)))⟩ a w ρ ok from fin (els' := els ++ List.replicate (0 + 0 - els.length) (List.replicate sz .any)) ?_ ?_⟩
      · unfold R; exact .inr ⟨h2, hv, rfl, rfl, rfl⟩
      · subst h1; exact .inr ⟨rfl, h2⟩
theorem AWp.reveal {t r off n k sz : Nat} {ex : Bool} {e : TypeId} {els : List (List AV)} {c : ACode} (ht : look s.tm t = .hnd r off n k ex) (hg : s.reg r = .arr e sz els)
    (h : ∀ cc, k ≤ cc → (ex = true → cc = k) → AWp P E Q c (revealS s t r off n cc e sz els)) : AWp P E Q c s := fun code hc a w hr => by
  obtain ⟨cc, h1, h2, h3⟩ := Rel.reveal ht hg hr
  exact h cc h1 h2 code hc a w h3
theorem AWpL.reveal {t r off n k sz : Nat} {ex : Bool} {e : TypeId} {els : List (List AV)} {gs : List GOp} (ht : look s.tm t = .hnd r off n k ex) (hg : s.reg r = .arr e sz els)
    (h : ∀ cc, k ≤ cc → (ex = true → cc = k) → AWpL P E Q gs (revealS s t r off n cc e sz els)) : AWpL P E Q gs s := fun ops l hl a w hr => by
  obtain ⟨cc, h1, h2, h3⟩ := Rel.reveal ht hg hr
  exact h cc h1 h2 ops l hl a w h3
/-- The elements of a region behind the m-th are forgotten. -/
theorem weak_cut (r m : Nat) {e : TypeId} {sz : Nat} {els : List (List AV)} (hg : s.reg r = .arr e sz els) : Weak E s ⟨s.tm, s.rg.set r (.arr e sz (els.take m))⟩ := fun a w ⟨ρ, ok, hr⟩ => by
  have hgs := reg_some hg (by simp)
  have hrlt := (List.getElem?_eq_some_iff.1 hgs).1
  refine ⟨ρ, ok, ⟨hr.mem.okl, hr.mem.inj, hr.mem.own, fun k g hk => ?_, fun k hk => hr.mem.out k (by simpa using hk)⟩, hr.tm, hr.siz, hr.dfr, hr.kps, hr.bas, hr.ownr, hr.okr, hr.pin⟩
  by_cases e1 : k = r
  · subst e1
    rw [List.getElem?_set] at hk
    simp only [if_true, hrlt] at hk
    obtain rfl := Option.some.inj hk
    rcases hr.mem.reg k _ hgs with ⟨b, d, C, pre, vs, rest, h1, h2, h3, h4, h5, h6⟩ | ⟨h1, h2⟩
    · refine .inl ⟨b, d, C, pre, vs.take (m * sz), vs.drop (m * sz) ++ rest, h1, h2, by rw [h3, ← List.append_assoc (vs.take _), List.take_append_drop], h4, fun el hm => h5 el (List.mem_of_mem_take hm), ?_⟩
      rw [take_flatten m h5]
      exact RcList_take _ h6
    · subst h1; exact .inr ⟨by simp, h2⟩
  · rw [List.getElem?_set_ne (Ne.symm e1)] at hk
    exact hr.mem.reg k g hk
/-- Of a slice only its elements are known. -/
theorem weak_hnd (t : Nat) {r off n k : Nat} {ex : Bool} (ht : look s.tm t = .hnd r off n k ex) : Weak E s (s.put t (.hnd r off n n false)) := fun a w ⟨ρ, ok, hr⟩ => by
  refine ⟨ρ, ok, hr.mem, fun m => ?_, hr.siz, hr.dfr, hr.kps, hr.bas, hr.ownr, hr.okr, hr.pin⟩
  show R w ok ρ (look (putTm s.tm t _) m) _
  rw [look_put]
  by_cases e : m = t
  · subst e
    rw [if_pos rfl]
    have := hr.tm m
    rw [ht] at this
    unfold R at this ⊢
    rcases this with ⟨p, cc, ad, h7, hv, h8, h9, h10, h11, h12⟩ | ⟨h7, hv, h8, h9, h10⟩
    · exact .inl ⟨p, cc, ad, h7, hv, h8, Nat.le_refl _, by omega, h11, fun h => by cases h⟩
    · exact .inr ⟨h7, hv, h8, h9, h9⟩
  · rw [if_neg e]; exact hr.tm m
end
end Go.Proofs.Ytoickofcmngdjaa.Aw

/- A logic of abstract states for walks: values that say less. -/
set_option linter.unusedVariables false
set_option linter.unusedSimpArgs false
namespace Go.Proofs.Ytoickofcmngdjaa.Aw
open Go.RowKit

/-- What x stands for, y stands for. -/
def Ent (x y : AV) : Prop := ∀ w ok ρ v, R w ok ρ x v → R w ok ρ y v
def EntL : List AV → List AV → Prop
  | [], [] => True
  | x :: xs, y :: ys => Ent x y ∧ EntL xs ys
  | _, _ => False
theorem Ent.refl (x : AV) : Ent x x := fun _ _ _ _ h => h
theorem EntL.refl : ∀ xs, EntL xs xs
  | [] => trivial
  | x :: xs => ⟨Ent.refl x, EntL.refl xs⟩
theorem EntL.ok {w : World} {ok : Nat → Prop} {ρ : Nat → Option (Option Place)} : ∀ {xs ys : List AV} {vs : List Value}, EntL xs ys → RList w ok ρ xs vs → RList w ok ρ ys vs
  | [], [], vs, _, h => h
  | x :: xs, y :: ys, vs, he, h => by
    unfold RList at h ⊢
    obtain ⟨v, vs', e, h1, h2⟩ := h
    exact ⟨v, vs', e, he.1 _ _ _ _ h1, EntL.ok he.2 h2⟩
  | [], _ :: _, vs, he, h => he.elim
  | _ :: _, [], vs, he, h => he.elim
/-- A slice that is only read: less is said of it. -/
theorem Ent.plain (nl fl sz els) : Ent (.imm nl fl sz els) (.imm none false sz els) := fun w ok ρ v h => by
  unfold R Rc at h ⊢
  obtain ⟨A, c, h1, h2, h3, h4, h5, h6⟩ := h
  exact ⟨A, c, h1, h2, fun q hq => (by cases hq), h4, fun hq => (by cases hq), h6⟩
theorem Ent.room (nl fl sz els) : Ent (.imm nl fl sz els) (.imm nl false sz els) := fun w ok ρ v h => by
  unfold R Rc at h ⊢
  obtain ⟨A, c, h1, h2, h3, h4, h5, h6⟩ := h
  exact ⟨A, c, h1, h2, h3, h4, fun hq => (by cases hq), h6⟩
/-- With elements it is not nil. -/
theorem Ent.nonnil (nl fl sz) {els : List (List AV)} (hne : els ≠ []) : Ent (.imm nl fl sz els) (.imm (some false) fl sz els) := fun w ok ρ v h => by
  unfold R Rc at h ⊢
  obtain ⟨A, c, h1, h2, h3, h4, h5, h6⟩ := h
  refine ⟨A, c, h1, h2, fun q hq => ?_, h4, h5, h6⟩
  obtain rfl := Option.some.inj hq
  cases A with
  | none => exact absurd (List.eq_nil_of_length_eq_zero (by have := h4 rfl; omega)) hne
  | some a => rfl
theorem Ent.ofnil (fl : Bool) (sz : Nat) : Ent (.val (.slice none 0 0)) (.imm (some true) fl sz []) := fun w ok ρ v h => by
  rw [R_val h]
  unfold R Rc
  exact ⟨none, 0, rfl, Nat.le_refl _, fun q hq => Option.some.inj hq, fun _ => rfl, fun _ => rfl, fun a ha => by cases ha⟩
theorem Ent.ofnil0 (sz : Nat) : Ent (.val (.slice none 0 0)) (.imm none false sz []) := fun w ok ρ v h => Ent.plain _ _ _ _ w ok ρ v (Ent.ofnil true sz w ok ρ v h)
theorem Ent.agg {xs ys : List AV} (h : EntL xs ys) : Ent (.agg xs) (.agg ys) := fun w ok ρ v hr => by
  unfold R at hr ⊢
  obtain ⟨vs, h1, h2⟩ := hr
  exact ⟨vs, h1, h.ok h2⟩
theorem Ent.trans {x y z : AV} (h : Ent x y) (k : Ent y z) : Ent x z := fun w ok ρ v hr => k w ok ρ v (h w ok ρ v hr)
/-- A handle says how many elements it has. -/
theorem Ent.cap (r off n k ex) : Ent (.hnd r off n k ex) (.hnd r off n n false) := fun w ok ρ v h => by
  unfold R at h ⊢
  rcases h with ⟨p, cc, ad, h7, hv, h8, h9, h10, h11, h12⟩ | ⟨h7, hv, h8, h9, h10⟩
  · exact .inl ⟨p, cc, ad, h7, hv, h8, Nat.le_refl _, by omega, h11, fun h => by cases h⟩
  · exact .inr ⟨h7, hv, h8, h9, h9⟩
section
variable {P : Program} {E : Env} {s : St}
theorem weak_ent (t : Nat) {x y : AV} (h : look s.tm t = x) (he : Ent x y) : Weak E s (s.put t y) := fun a w ⟨ρ, ok, hr⟩ => by
  refine ⟨ρ, ok, hr.mem, fun m => ?_, hr.siz, hr.dfr, hr.kps, hr.bas, hr.ownr, hr.okr, hr.pin⟩
  show R w ok ρ (look (putTm s.tm t y) m) _
  rw [look_put]
  by_cases e : m = t
  · subst e
    rw [if_pos rfl]
    have := hr.tm m
    rw [h] at this
    exact he _ _ _ _ this
  · rw [if_neg e]; exact hr.tm m
theorem Spec.args {f : FuncId} {rg0 : List Reg} {args args' : List AV} {Post : List Reg → AV → Prop} (h : Spec P f rg0 args Post) (he : EntL args' args) : Spec P f rg0 args' Post :=
  fun w ρ ok vals hm ha => h w ρ ok vals hm (he.ok ha)
end
theorem imm_nil {w : World} {ok : Nat → Prop} {ρ : Nat → Option (Option Place)} {nl : Option Bool} {fl : Bool} {sz : Nat} {els : List (List AV)} {v : Value} (h : R w ok ρ (.imm nl fl sz els) v) :
    ∃ b, (∀ q, nl = some q → q = b) ∧ (b = true → els = []) ∧ R w ok ρ (.imm (some b) fl sz els) v := by
  unfold R Rc at h
  obtain ⟨A, c, h1, h2, h3, h4, h5, h6⟩ := h
  refine ⟨A.isNone, fun q hq => (h3 q hq).symm, fun hb => ?_, ?_⟩
  · cases A with
    | none => exact List.eq_nil_of_length_eq_zero (by have := h4 rfl; omega)
    | some a => cases hb
  · unfold R Rc
    exact ⟨A, c, h1, h2, fun q hq => Option.some.inj hq, h4, h5, h6⟩
/-- Whether a slice is nil: both cases. -/
theorem Spec.nil1 {P : Program} {f : FuncId} {rg0 : List Reg} {nl : Option Bool} {fl : Bool} {sz : Nat} {els : List (List AV)} {rest : List AV} {Post : List Reg → AV → Prop}
    (h : ∀ b, (∀ q, nl = some q → q = b) → (b = true → els = []) → Spec P f rg0 (.imm (some b) fl sz els :: rest) Post) : Spec P f rg0 (.imm nl fl sz els :: rest) Post := fun w ρ ok vals hm ha => by
  unfold RList at ha
  obtain ⟨v, vs', h1, h2, h3⟩ := ha
  obtain ⟨b, h4, h5, h6⟩ := imm_nil h2
  exact h b h4 h5 w ρ ok vals hm (by unfold RList; exact ⟨v, vs', h1, h6, h3⟩)
section
variable {P : Program} {E : Env} {Q : Exit → St → Prop} {s : St}
theorem Rel.nil1 (t : Nat) {nl : Option Bool} {fl : Bool} {sz : Nat} {els : List (List AV)} {a : Act} {w : World} (ht : look s.tm t = .imm nl fl sz els) (h : Rel E s a w) :
    ∃ b, (∀ q, nl = some q → q = b) ∧ (b = true → els = []) ∧ Rel E (s.put t (.imm (some b) fl sz els)) a w := by
  obtain ⟨ρ, ok, hr⟩ := h
  have h1 := hr.tm t
  rw [ht] at h1
  obtain ⟨b, h4, h5, h6⟩ := imm_nil h1
  refine ⟨b, h4, h5, ρ, ok, hr.mem, fun m => ?_, hr.siz, hr.dfr, hr.kps, hr.bas, hr.ownr, hr.okr, hr.pin⟩
  show R w ok ρ (look (putTm s.tm t _) m) _
  rw [look_put]
  by_cases e : m = t
  · subst e; rw [if_pos rfl]; exact h6
  · rw [if_neg e]; exact hr.tm m
theorem AWp.nil1 (t : Nat) {nl : Option Bool} {fl : Bool} {sz : Nat} {els : List (List AV)} {c : ACode} (ht : look s.tm t = .imm nl fl sz els)
    (h : ∀ b, (∀ q, nl = some q → q = b) → (b = true → els = []) → AWp P E Q c (s.put t (.imm (some b) fl sz els))) : AWp P E Q c s := fun code hc a w hr => by
  obtain ⟨b, h1, h2, h3⟩ := Rel.nil1 t ht hr
  exact h b h1 h2 code hc a w h3
theorem AWpL.nil1 (t : Nat) {nl : Option Bool} {fl : Bool} {sz : Nat} {els : List (List AV)} {gs : List GOp} (ht : look s.tm t = .imm nl fl sz els)
    (h : ∀ b, (∀ q, nl = some q → q = b) → (b = true → els = []) → AWpL P E Q gs (s.put t (.imm (some b) fl sz els))) : AWpL P E Q gs s := fun ops l hl a w hr => by
  obtain ⟨b, h1, h2, h3⟩ := Rel.nil1 t ht hr
  exact h b h1 h2 ops l hl a w h3
end
theorem retRg_new (s : St) (rg : List Reg) : ∀ (l : List Reg) (r : Nat), retRg s [] rg r l = l ++ rg.map (mapR (bkM [] s.rg.length))
  | [], r => rfl
  | g :: l, r => by
    unfold retRg
    rw [retRg_new s rg l, show pos [] r = none from rfl]
    simp only
    rw [mapR_some (kpM_nil s)]; rfl
/-- Behind a call that was lent nothing and leaves new regions. -/
theorem retS_new (s : St) (dst : Option Nat) (rg : List Reg) (x : AV) : retS s [] dst rg x = St.putO ⟨s.tm, s.rg ++ rg.map (mapR (bkM [] s.rg.length))⟩ dst (mapA (bkM [] s.rg.length) x) := by
  unfold retS
  rw [retRg_new, mapT_some (kpM_nil s)]
/-- Regions that are arrays are not pinned. -/
theorem PinOk.arr {E : Env} {rg0 : List Reg} (hp : PinOk E rg0) (r : Nat) (h : isBox (rg0.getD r .dead) = false) : E.pin r = Option.none := by
  cases h1 : E.pin r with
  | none => rfl
  | some p => have := (hp r p h1).2; rw [h] at this; cases this
/-- A cell of a struct says less. -/
theorem weak_box {E : Env} {s : St} (r i : Nat) {e : TypeId} {cs : List AV} {x y : AV} (hg : s.reg r = .box e cs) (hx : cs[i]? = some x) (he : Ent x y) : Weak E s ⟨s.tm, s.rg.set r (.box e (cs.set i y))⟩ := fun a w ⟨ρ, ok, hr⟩ => by
  have hgs := reg_some hg (by simp)
  have hrlt := (List.getElem?_eq_some_iff.1 hgs).1
  refine ⟨ρ, ok, ⟨hr.mem.okl, hr.mem.inj, hr.mem.own, fun k g hk => ?_, fun k hk => hr.mem.out k (by simpa using hk)⟩, hr.tm, hr.siz, hr.dfr, hr.kps, hr.bas, hr.ownr, hr.okr, hr.pin⟩
  by_cases e1 : k = r
  · subst e1
    rw [List.getElem?_set] at hk
    simp only [if_true, hrlt] at hk
    obtain rfl := Option.some.inj hk
    obtain ⟨b, C, h1, h2, h3⟩ := hr.mem.reg k _ hgs
    refine ⟨b, C, by rw [List.length_set]; exact h1, h2, RList_set h3 fun v hv => ?_⟩
    obtain ⟨u, hu, hxu⟩ := RList_get h3 i x hx
    rw [hv] at hu
    obtain rfl := Option.some.inj hu
    exact he _ _ _ _ hxu
  · rw [List.getElem?_set_ne (Ne.symm e1)] at hk
    exact hr.mem.reg k g hk
end Go.Proofs.Ytoickofcmngdjaa.Aw
