/- A logic of abstract states for walks: a text appended to bytes. -/
import Derived.Test.YtocghkacngoblaaDoorAwZn
set_option linter.unusedVariables false
set_option linter.unusedSimpArgs false
namespace Go.Proofs.YtocghkacngoblaaDoor.Aw
open Go.RowKit
section
variable {P : Program} {E : Env} {Q : Exit → St → Prop} {s s' : St} {a : Act} {w : World} {ρ : Nat → Option (Option Place)} {ok : Nat → Prop}
theorem bad_comp {o : Oper} {f : Option FuncId} {xs : List Opd} (hc : comp P o = some (.bad f xs)) : badOf P o = .bad f xs := by
  unfold comp at hc
  cases h0 : comp0 P o with
  | some z =>
    rw [h0] at hc
    simp only [Option.getD_some, Option.some.injEq] at hc
    subst hc
    exfalso
    obtain ⟨dst, op, type, ps, after, guard⟩ := o
    cases op <;> simp only [comp0, Option.some.injEq, reduceCtorEq] at h0
    case call c =>
      obtain ⟨callee, args, argTypes⟩ := c
      dsimp only at h0
      cases callee with
      | invoke r m => simp only [reduceCtorEq] at h0
      | builtin b =>
        cases b <;> simp only [reduceCtorEq] at h0
        all_goals (repeat' (split at h0)) <;> simp only [Option.some.injEq, reduceCtorEq] at h0
      | value g =>
        cases g <;> simp only [Option.some.injEq, reduceCtorEq] at h0
        (repeat' (split at h0)) <;> simp only [Option.some.injEq, reduceCtorEq] at h0
    case makeFunc fn first caps =>
      cases fn <;> simp only [reduceCtorEq] at h0
      split at h0 <;> simp only [Option.some.injEq, reduceCtorEq] at h0
    all_goals (repeat' (split at h0)) <;> first | (simp only [Option.some.injEq, reduceCtorEq] at h0; done) | (simp only [Option.map_eq_some_iff, reduceCtorEq, and_false, exists_false] at h0; done) | skip
  | none =>
    rw [h0] at hc
    simpa only [Option.getD_none, Option.some.injEq] using hc
theorem apsOf_inv {l : List Operand} {tys : List TypeId} {e : TypeId} {x y : Opd} (h : apsOf P l tys = [x, y, .v (.int .i64 (e : Int))]) :
    ∃ x1 y1 tx ty, l = [x1, y1] ∧ tys = [tx, ty] ∧ x = .of x1 ∧ y = .of y1 ∧ P.underlying tx = some (.slice e) ∧ P.underlying ty = some .string := by
  unfold apsOf at h
  split at h
  · split at h
    · rename_i x1 y1 tx ty e' h1 h2
      injection h with e1 h
      injection h with e2 h
      injection h with e3 _
      have e3 : (e' : Int) = (e : Int) := by
        injection e3 with e3
        injection e3
      have : e' = e := Int.ofNat.inj e3
      subst this
      exact ⟨_, _, _, _, rfl, rfl, e1.symm, e2.symm, h1, h2⟩
    · cases h
  · cases h
theorem apps_inv {o : Oper} {e : TypeId} {x y : Opd} (hc : comp P o = some (.bad none [x, y, .v (.int .i64 (e : Int))])) :
    ∃ tx ty, P.underlying tx = some (.slice e) ∧ P.underlying ty = some .string ∧
      ∀ v w', (Builtin.append_ #[tx, ty] o.type #[x.cv a, y.cv a]).run P w = .ok v w' → (execOp a.eval o).run P w = .ok (.value v) w' := by
  replace hc := bad_comp hc
  unfold badOf at hc
  obtain ⟨dst, op, type, ps, after, guard⟩ := o
  cases op <;> simp only [AOp.bad.injEq, reduceCtorEq, true_and, List.nil_eq, List.cons_ne_nil] at hc
  case call c =>
    obtain ⟨callee, args, argTypes⟩ := c
    dsimp only at hc
    cases callee with
    | invoke r m => simp only [AOp.bad.injEq, reduceCtorEq, and_false] at hc
    | value g =>
      cases g <;> simp only [AOp.bad.injEq, reduceCtorEq, and_false] at hc
      (repeat' (split at hc)) <;> simp only [AOp.bad.injEq, reduceCtorEq, and_false, false_and] at hc
    | builtin b =>
      cases b <;> simp only [AOp.bad.injEq, reduceCtorEq, and_false, true_and] at hc
      obtain ⟨x1, y1, tx, ty, ha, ht, rfl, rfl, hx, hy⟩ := apsOf_inv hc
      obtain ⟨args⟩ := args
      obtain ⟨argTypes⟩ := argTypes
      simp only at ha ht
      subst ha ht
      refine ⟨tx, ty, hx, hy, fun v w' hrun => ?_⟩
      rw [Opd.cv_of, Opd.cv_of] at hrun
      simp only [execOp, resolve, Sem.run_bind, Sem.run_pure, Result.andThen_ok, invoke, builtin]
      have : (#[x1, y1] : Array Operand).map a.eval = #[a.eval x1, a.eval y1] := by simp
      rw [this]
      simp [hrun]
/-- What append does: it writes behind the elements, or makes a new row. -/
theorem run_apps {tx ty ty' e : TypeId} {i : TypeInfo} {z : Value} (hx : P.underlying tx = some (.slice e)) (hy : P.underlying ty = some .string) (hi : P.info? e = some i) (hz : i.zero = some z) (hzs : z.cells.size = i.size)
    {A : Option Addr} {n c m : Nat} {olds news : List Value} {b : ByteArray} (hm : m = b.size) (hnw : news = b.data.toList.map fun x => Value.int .u8 x.toNat) (hs1 : i.size = 1) (hold : Src w i.size n (.slice A n c) olds) (hbytes : (n + m) * i.bytes ≤ 140737488355328) (h63 : n + m ≤ 9223372036854775807) :
    (n + m ≤ c ∧ (Builtin.append_ #[tx, ty] ty' #[.slice A n c, .string b]).run P w = (match A with
      | some ad => (storeCells (ad.add (n * i.size)) news).run P w
      | none => .ok () w).andThen fun _ w' => .ok (.slice A (n + m) c) w') ∨
    (c < n + m ∧ ∃ w' C, ∃ cap rest, (Builtin.append_ #[tx, ty] ty' #[.slice A n c, .string b]).run P w = .ok (.slice (some ⟨w.heap.size, 0, none⟩) (n + m) cap) w' ∧ Ext w w' ∧ w'.heap[w.heap.size]? = some (.cells C e (0, 0)) ∧ C.toList = olds ++ (news ++ rest) ∧ C.size = cap * i.size ∧ n + m ≤ cap) := by
  subst hm
  have hfs : ∀ w' : World, (Builtin.firstCells i.size b.size (.string b)).run P w' = .ok news.toArray w' := fun w' => by
    subst hnw
    simp only [Builtin.firstCells, Sem.run_pure]
    congr 1
    apply Array.ext'
    simp
  have hnl : news.length = b.size * i.size := by subst hnw; rw [hs1, List.length_map, Array.length_toList, Nat.mul_one]; rfl
  by_cases hroom : n + b.size ≤ c
  · left
    refine ⟨hroom, ?_⟩
    have hf := hfs w
    cases A with
    | none => simp [Builtin.append_, run_underlying hx, run_underlying hy, run_sizeOf hi, Builtin.lenOf, hroom, hf]
    | some ad => simp [Builtin.append_, run_underlying hx, run_underlying hy, run_sizeOf hi, Builtin.lenOf, hroom, hf]
  · right
    refine ⟨by omega, ?_⟩
    have hfit := growslice_fits (old := c) (need := n + b.size) (by omega) hbytes
    have hno : ¬ ((n + b.size : Nat) : Int) > IntKind.i64.max := by
      have : IntKind.i64.max = 9223372036854775807 := by decide
      omega
    have hno' : ¬ (Builtin.nextslicecap (n + b.size) c * i.bytes > 2 ^ 48) := by omega
    generalize hcap : (Question.appendCap (n + b.size) c e).cut (w.tape w.drawn (.appendCap (n + b.size) c e)) = cap
    have hle : n + b.size ≤ cap := by rw [← hcap]; exact Nat.le_add_right _ _
    have hfn := hfs { w with drawn := w.drawn + 1 }
    have hfo := run_first (P := P) hold (w' := { w with drawn := w.drawn + 1 }) (fun _ _ _ h => h)
    obtain ⟨_, _, _, hol, _⟩ := hold
    refine ⟨{ w with drawn := w.drawn + 1, heap := w.heap.push (.cells (olds.toArray ++ news.toArray ++ Builtin.zeroCells z.cells (cap - (n + b.size))) e) }, olds.toArray ++ news.toArray ++ Builtin.zeroCells z.cells (cap - (n + b.size)), cap, (Builtin.zeroCells z.cells (cap - (n + b.size))).toList, ?_, ⟨rfl, rfl, rfl, by simp, fun k hk => by simp [Array.getElem?_push]; omega⟩, by simp, by simp, ?_, hle⟩
    · simp only [Builtin.append_, Sem.run_bind, run_underlying hx, run_underlying hy, run_sizeOf hi, Builtin.lenOf, Sem.run_pure, Result.andThen_ok]
      simp only [List.getElem?_toArray, List.getElem?_cons_zero, List.getElem?_cons_succ, Sem.run_bind, run_underlying hx, run_underlying hy, run_sizeOf hi, Sem.run_pure, Result.andThen_ok, typeInfo, run_program, hi]
      simp only [Bool.false_eq_true, if_false, hroom, hno, hno', false_and, Sem.run_bind, Sem.run_pure, Result.andThen_ok, run_choose, Question.forced, hcap, run_askRoom, hfo, hfn, zeroValue, typeInfo, run_program, hi, hz, newRow, run_newObj]
      have hfn' : (Builtin.firstCells i.size b.size (.string b)).run P w.drew = .ok news.toArray w.drew := hfn
      have hfo' : (Builtin.firstCells i.size n (.slice A n c)).run P w.drew = .ok olds.toArray w.drew := hfo
      simp [run_underlying hx, run_underlying hy, run_sizeOf hi, Builtin.lenOf, hroom, hno, hno', hcap, hfo', hfn', hz, hi, zeroValue, typeInfo, newRow, Question.forced]
      simp only [World.alloc, World.drew, Result.ok.injEq, true_and, World.mk.injEq, and_true]
      congr 2
      apply Array.ext'
      simp
    · simp only [Array.size_append, List.size_toArray, hol, hnl, Builtin.zeroCells, Array.size_map, Array.size_range, hzs]
      rw [← Nat.add_mul, ← Nat.add_mul]
      congr 1; omega

theorem snd_apps (hr : RelM E s a w ρ ok) {tx ty ty' e : TypeId} {i : TypeInfo} {zv : Value} (hx : P.underlying tx = some (.slice e)) (hy : P.underlying ty = some .string) (hi : P.info? e = some i) (hz : i.zero = some zv) (hzs : zv.cells.size = i.size)
    {r n k : Nat} {ex : Bool} {vx : Value} {b0 : ByteArray} (hvx : R w ok ρ (.hnd r 0 n k ex) vx) {e'' : TypeId} {els ys : List (List AV)} (hg : s.reg r = .arr e'' i.size els) (he : e'' = e) (hn : n = els.length) (hnp : E.pin r = none)
    (hs1 : i.size = 1) (hys : ys = b0.data.toList.map fun c => [AV.val (.int .u8 c.toNat)])
    (hbytes : (n + ys.length) * i.bytes ≤ 140737488355328) (h63 : n + ys.length ≤ 9223372036854775807) :
    ∃ v w' ρ', (Builtin.append_ #[tx, ty] ty' #[vx, .string b0]).run P w = .ok v w' ∧ RelM E (killS s r (.arr e i.size (els ++ ys))) a w' ρ' ok ∧ R w' ok ρ' (.hnd r 0 (n + ys.length) (n + ys.length) false) v := by
  subst he hn
  obtain ⟨news, hnw⟩ : ∃ news : List Value, news = b0.data.toList.map fun x => Value.int .u8 x.toNat := ⟨_, rfl⟩
  have hym : ys.length = b0.size := by rw [hys, List.length_map, Array.length_toList]; rfl
  have hfl : ys.flatten = news.map AV.val := by
    rw [hys, hnw]
    generalize b0.data.toList = l
    induction l with
    | nil => rfl
    | cons c l ih => simp only [List.map_cons, List.flatten_cons, ih]; rfl
  have hnews : RcList w ok ys.flatten news := by rw [hfl]; exact rc_vals news
  have hyl : ∀ el ∈ ys, el.length = i.size := fun el hm => by
    rw [hys] at hm
    obtain ⟨c, _, rfl⟩ := List.mem_map.1 hm
    rw [hs1]; rfl
  have hcell : ∀ el ∈ ys, ∀ x ∈ el, cellish x = true := fun el hm x hx => by
    rw [hys] at hm
    obtain ⟨c, _, rfl⟩ := List.mem_map.1 hm
    rw [List.mem_singleton.1 hx]; rfl
  have hnl : news.length = ys.length * i.size := by rw [RcList_length hnews, flatten_length hyl]
  have hall : ∀ el ∈ els ++ ys, el.length = i.size → el.length = i.size := fun _ _ h => h
  unfold R at hvx
  rcases hr.mem.reg r _ (reg_some hg (by simp)) with ⟨b, d, C, pre, vs, rest, h1, h2, h3, h4, h5, h6⟩ | ⟨h1, h2⟩
  · rcases hvx with ⟨p, cc, ad, h7, rfl, h8, h9, h10, h11, h12⟩ | ⟨h7, _⟩
    · rw [h1] at h7
      obtain rfl := by simpa using h7
      dsimp only at h8 h11
      have hvl : vs.length = els.length * i.size := by rw [RcList_length h6, flatten_length h5]
      have hold : Src w i.size els.length (.slice (some ad) els.length cc) vs := by
        refine ⟨some ad, cc, rfl, hvl, fun h => (by cases h), fun ad' had j u hj => ?_⟩
        injection had with had
        subst had
        have hjl := (List.getElem?_eq_some_iff.1 hj).1
        have hn0 : els.length ≠ 0 := fun e => by rw [hvl, e] at hjl; simp at hjl
        rcases h8 with h8 | rfl
        · omega
        rw [add_plain, cell_of h2, ← Array.getElem?_toList, h3, Nat.zero_mul, Nat.add_zero, List.getElem?_append_right (by omega), h4, show d + j - d = j by omega, List.getElem?_append_left hjl]
        exact hj
      have hls : ∀ el ∈ els ++ ys, el.length = i.size := fun el hm => by
        rcases List.mem_append.1 hm with hm | hm
        · exact h5 el hm
        · exact hyl el hm
      rcases run_apps (ty' := ty') hx hy hi hz hzs hym hnw hs1 hold hbytes h63 with ⟨hroom, hrun⟩ | ⟨hfull, w', C', cap, rest', hrun, hext, hblk, hC', hcs, hcap⟩
      · -- there is room
        have hadr : (els.length + ys.length = 0) ∨ ad = ⟨b, d + 0 * i.size, none⟩ := by
          rcases h8 with h8 | h8
          · left; omega
          · exact .inr h8
        rcases hadr with h0 | hadr
        · -- nothing at all
          have e1 : els = [] := List.eq_nil_of_length_eq_zero (by omega)
          have e2 : ys = [] := List.eq_nil_of_length_eq_zero (by omega)
          subst e1 e2
          have e3 : news = [] := List.eq_nil_of_length_eq_zero (by simpa using hnl)
          subst e3
          refine ⟨.slice (some ad) 0 cc, w, (fun k => if k = r then some (some ⟨b, d, i.size, C.size⟩) else ρ k), ?_, ?_, ?_⟩
          · rw [hrun]; simp [storeCells]
          · refine hr.move h1 hnp (Nat.le_refl _) rfl rfl rfl (hr.mem.own r _ h1).1 (.inl rfl) (fun _ _ _ => rfl) (.inl ⟨b, d, C, pre, vs, rest, by simp, h2, h3, h4, by simp, by simpa using h6⟩)
          · unfold R; exact .inl ⟨⟨b, d, i.size, C.size⟩, cc, ad, if_pos rfl, rfl, h8, Nat.le_refl _, Nat.zero_le _, h11, fun h => by cases h⟩
        · subst hadr
          rw [Nat.zero_mul, Nat.add_zero] at hrun h8
          have hCs : C.size = d + (vs.length + rest.length) := by
            have := congrArg List.length h3
            simp [h4] at this; omega
          have hfits : d + els.length * i.size + news.length ≤ C.size := by
            rw [hnl]
            have := Nat.mul_le_mul_right i.size hroom
            rw [Nat.add_mul] at this
            rw [Nat.zero_add] at h11
            omega
          obtain ⟨w', C', h13, h14, h15, h16, h17, h18, h19, h20⟩ := run_storeCells (P := P) (b := b) (o := d + els.length * i.size) news 0 w C h2 (by rw [Nat.add_zero]; exact hfits) (cellish_all (fun x hx => by
            obtain ⟨el, he, hx⟩ := List.mem_flatten.1 hx
            exact hcell el he x hx) hnews)
          have hC's : C'.size = C.size := by
            have h21 := congrArg List.length h15
            have e1 : C.toList.length = C.size := by simp
            have e2 : C'.toList.length = C'.size := by simp
            rw [List.length_append, List.length_append, List.length_take, List.length_drop, e1, e2, Nat.min_eq_left (by omega)] at h21
            omega
          have hrd : Reads ok w w' := Reads.of_same fun b' hb' => h16 b' fun e => (hr.mem.own r _ h1).2 (e ▸ hb')
          refine ⟨.slice (some ⟨b, d, none⟩) (els.length + ys.length) cc, w', (fun k => if k = r then some (some ⟨b, d, i.size, C.size⟩) else ρ k), ?_, ?_, ?_⟩
          · rw [show d + 0 * i.size = d by omega, hrun]
            simp only [add_plain]
            rw [h13]; rfl
          · refine hr.move h1 hnp (by rw [h17]; exact Nat.le_refl _) h18 h19 h20 (by rw [h17]; exact (hr.mem.own r _ h1).1) (.inl rfl) (fun k hk hne => h16 k fun e => hne _ rfl e.symm) (.inl ⟨b, d, C', pre, vs ++ news, rest.drop news.length, by simp [hC's], h14, ?_, h4, hls, ?_⟩)
            · rw [h15, h3, Nat.add_zero, show d + els.length * i.size = pre.length + vs.length by omega, List.take_length_add_append, Nat.add_assoc, List.drop_length_add_append, List.take_left, List.drop_length_add_append]
              simp
            · rw [List.flatten_append]
              exact RcList_append (RcList_frame hrd (fun _ x => x) _ _ h6) (RcList_frame hrd (fun _ x => x) _ _ hnews)
          · unfold R; exact .inl ⟨⟨b, d, i.size, C.size⟩, cc, _, if_pos rfl, rfl, .inr (by simp), Nat.le_refl _, hroom, h11, fun h => by cases h⟩
      · -- a new row
        have hrd : Reads ok w w' := hext.reads hr.mem.okl
        refine ⟨_, w', (fun k => if k = r then some (some ⟨w.heap.size, 0, i.size, C'.size⟩) else ρ k), hrun, ?_, ?_⟩
        · refine hr.move h1 hnp hext.size hext.os hext.tape hext.output (Array.getElem?_eq_some_iff.1 hblk).1 (.inr (Nat.le_refl _)) (fun k hk _ => hext.block k hk) (.inl ⟨w.heap.size, 0, C', [], vs ++ news, rest', by simp, hpB_of hblk, by simp [hC'], rfl, hls, ?_⟩)
          rw [List.flatten_append]
          exact RcList_append (RcList_frame hrd (fun _ x => x) _ _ h6) (RcList_frame hrd (fun _ x => x) _ _ hnews)
        · unfold R; exact .inl ⟨⟨w.heap.size, 0, i.size, C'.size⟩, cap, _, if_pos rfl, rfl, .inr (by simp), Nat.le_refl _, hcap, by simp [hcs], fun h => by cases h⟩
    · rw [h1] at h7; injection h7 with h7; cases h7
  · rcases hvx with ⟨p, cc, ad, h7, _⟩ | ⟨h7, rfl, h8, h9, h10⟩
    · rw [h2] at h7; injection h7 with h7; cases h7
    · subst h1
      have hold : Src w i.size 0 (.slice none 0 0) [] := ⟨none, 0, rfl, by simp, fun _ => rfl, fun ad h => by cases h⟩
      rcases run_apps (ty' := ty') hx hy hi hz hzs hym hnw hs1 hold (by simpa using hbytes) (by simpa using h63) with ⟨hroom, hrun⟩ | ⟨hfull, w', C', cap, rest', hrun, hext, hblk, hC', hcs, hcap⟩
      · have e2 : ys = [] := List.eq_nil_of_length_eq_zero (by omega)
        subst e2
        refine ⟨.slice none 0 0, w, ρ, ?_, ?_, ?_⟩
        · rw [hrun]; rfl
        · -- nothing has happened
          have hkill : ∀ k j, killM r k = some j → ρ j = ρ k := fun k j hk => by rw [(killM_ne hk).1]
          have hrlt : r < s.rg.length := (List.getElem?_eq_some_iff.1 (reg_some hg (by simp))).1
          refine ⟨⟨hr.mem.okl, hr.mem.inj, hr.mem.own, fun k g hk => ?_, fun k hk => hr.mem.out k (by simpa [killS] using hk)⟩, fun n => ?_, hr.siz, hr.dfr, hr.kps, hr.bas, hr.ownr, hr.okr, hr.pin⟩
          · by_cases e1 : k = r
            · subst e1
              rw [killS, List.getElem?_set] at hk
              simp only [if_true, List.length_map, hrlt] at hk
              obtain rfl := Option.some.inj hk
              exact .inr ⟨rfl, h2⟩
            · rw [killS, List.getElem?_set_ne (Ne.symm e1), List.getElem?_map, Option.map_eq_some_iff] at hk
              obtain ⟨g0, hg0, rfl⟩ := hk
              exact RegOk_map (fun _ x => x) hkill rfl (hr.mem.reg k g0 hg0)
          · show R w ok ρ (look (mapT (killM r) s.tm) n) _
            rw [look_map]; exact R_map hkill _ _ (hr.tm n)
        · unfold R; exact .inr ⟨h2, rfl, rfl, rfl, rfl⟩
      · have hrd : Reads ok w w' := hext.reads hr.mem.okl
        refine ⟨_, w', (fun k => if k = r then some (some ⟨w.heap.size, 0, i.size, C'.size⟩) else ρ k), hrun, ?_, ?_⟩
        · refine hr.move h2 hnp hext.size hext.os hext.tape hext.output (Array.getElem?_eq_some_iff.1 hblk).1 (.inr (Nat.le_refl _)) (fun k hk _ => hext.block k hk) (.inl ⟨w.heap.size, 0, C', [], news, rest', by simp, hpB_of hblk, by simpa using hC', rfl, by simpa using hyl, ?_⟩)
          simpa using RcList_frame hrd (fun _ x => x) _ _ hnews
        · unfold R; exact .inl ⟨⟨w.heap.size, 0, i.size, C'.size⟩, cap, ⟨w.heap.size, 0, none⟩, if_pos rfl, rfl, .inr (by simp), Nat.le_refl _, hcap, by simp [hcs], fun h => by cases h⟩
/-- A text appended to bytes of the call's own. -/
theorem AWpL.apps {e : TypeId} {x y : Opd} {dst : Option Nat} {gs : List GOp} {r n k : Nat} {ex : Bool} {els : List (List AV)} {b : ByteArray}
    (hi9 : (P.info? e).map (fun i => (i.zero, i.size, i.bytes)) = some (some (.int .u8 0), 1, 1))
    (hx : s.ev x = .hnd r 0 n k ex) (hg : s.reg r = .arr e 1 els) (hy : s.ev y = .val (.string b)) (hd : dstOk E.n dst = true) (hn : n = els.length) (hnp : E.pin r = none)
    (hbytes : n + b.size ≤ 140737488355328)
    (h : AWpL P E Q gs ((killS s r (.arr e 1 (els ++ b.data.toList.map fun c => [AV.val (.int .u8 c.toNat)]))).putO dst (.hnd r 0 (n + b.size) (n + b.size) false))) : AWpL P E Q (⟨dst, none, .bad none [x, y, .v (.int .i64 (e : Int))]⟩ :: gs) s := fun ops l hl a w hrel => by
  obtain ⟨o, l', rfl, h1, h2⟩ := gops_cons hl
  obtain ⟨ρ, ok, hr⟩ := hrel
  obtain ⟨hc, hdst, hgd⟩ := gop_guard h1
  rcases hgd with ⟨hg0, _⟩ | ⟨_, _, _, _, _, hgd⟩
  case inr => cases hgd
  unfold wpList
  rw [if_pos (wanted_none hg0 _)]
  left
  obtain ⟨tx, ty, hux, huy, hrun⟩ := apps_inv (a := a) (w := w) hc
  obtain ⟨i, hi, hie⟩ := Option.map_eq_some_iff.1 hi9
  injection hie with hz hie
  injection hie with hs1 hbt
  have hvx := hr.ev x
  rw [hx] at hvx
  have hvy := hr.ev y
  rw [hy] at hvy
  have hyl : (b.data.toList.map fun c => [AV.val (.int .u8 c.toNat)]).length = b.size := by rw [List.length_map, Array.length_toList]; rfl
  obtain ⟨v, w', ρ', h3, h4, h5⟩ := snd_apps (P := P) (ty' := o.type) (b0 := b) (ys := b.data.toList.map fun c => [AV.val (.int .u8 c.toNat)]) hr hux huy hi hz (by rw [hs1]; rfl) hvx (by rw [hs1]; exact hg) rfl hn hnp hs1 rfl (by rw [hyl, hbt]; omega) (by rw [hyl]; omega)
  unfold Oper.wp
  rw [R_val hvy] at hrun
  rw [hrun v w' h3, Oper.upon_value]
  rw [hyl, hs1] at *
  exact h ops l' h2 _ _ ⟨ρ', ok, by rw [← hdst]; exact h4.putO hd h5⟩
end
end Go.Proofs.YtocghkacngoblaaDoor.Aw
