/- strings.Builder: String. -/
import Derived.Test.YtocghkacngoblaaDoorAwZo
import Derived.Test.YtocghkacngoblaaDoorBldB
set_option linter.unusedVariables false
set_option linter.unusedSimpArgs false
namespace Go.Proofs.YtocghkacngoblaaDoor.Bls
open Go.Shelf Go.RowKit Go.Lib
section
variable {P : Program} {ρ : Ren}
theorem lies_off {e : TypeId} (hc : P.cellsOf e = 1) (count d n : Nat) (hn : d + n ≤ count) : liesAt P P.depth e count d e n = true := by
  have hd : P.depth = (2 * (P.types.size + Made.depth) + 1) + 1 := rfl
  rw [hd]
  simp only [liesAt, Bool.or_eq_true]
  left
  rw [hd]
  simp [rowAt, hc, hn, sameLayout, Nat.mod_one]
theorem string_off (w : World) (pt it ty e : TypeId) (hp : P.underlying pt = some (.pointer e)) (hc : P.cellsOf e = 1) (g d cells : Nat) (hsh : w.shape? g = some (e, cells)) (l : List UInt8) (h0 : l ≠ []) (hn : d + l.length ≤ cells) (h63 : l.length ≤ 9223372036854775807)
    (hcell : ∀ j x, l[j]? = some x → w.cell? ((⟨g, d, none⟩ : Addr).add j) = some (.int .u8 x.toNat)) :
    (Builtin.unsafeString_ #[pt, it] ty #[.pointer (some ⟨g, d, none⟩), .int .i64 l.length]).run P w = .ok (.string ⟨l.toArray⟩) (w.freeze ⟨g, d, none⟩ l.length) := by
  have hl : l.length ≠ 0 := by simpa using h0
  have hlb := run_loadBytes (P := P) w l ⟨g, d, none⟩ .empty hcell
  have hlies := lies_off (P := P) hc (cells / P.cellsOf e) d l.length (by rw [hc]; simpa using hn)
  have h63' : ¬ (9223372036854775807 : Int) < (l.length : Int) := by omega
  have hmax : IntKind.i64.max = 9223372036854775807 := rfl
  have hneg : ¬ (l.length : Int) < 0 := by omega
  have hdef : Builtin.unsafeString_ #[pt, it] ty #[.pointer (some ⟨g, d, none⟩), .int .i64 l.length] =
      (do
        let n ← asInt (.int .i64 l.length)
        if n < 0 then runtimePanic (.error "unsafe.String: len out of range")
        if n > IntKind.i64.max then unsupported (.unsafePointer "String: a length above the largest int")
        if n = 0 then pure (.string .empty)
        else if ← variablesAt ⟨g, d, none⟩ (← elemOf pt) n.toNat then do
          let s ← loadBytes ⟨g, d, none⟩ .empty n.toNat
          freeze ⟨g, d, none⟩ n.toNat
          pure (.string s)
        else unsupported (.unsafePointer "String: not so many bytes at ptr")) := rfl
  rw [hdef]
  simp [asInt, asIntOf, hmax, h63', hneg, hl, variablesAt, hsh, elemOf, run_underlying hp, hlies, hlb]
set_option maxHeartbeats 1000000 in
set_option maxRecDepth 100000 in
theorem string_run (L : Lays.n169 P ρ) (hc : P.cellsOf (ρ.t 5) = 1) (b g d cap cells : Nat) (l : List UInt8) (p : Value) (w : World) (hbk : w.heap[b]? = some (.cells #[p, .slice (some ⟨g, d, none⟩) l.length cap] (ρ.t 72) (0, 0)))
    (hsh : w.shape? g = some (ρ.t 5, cells)) (hn : d + l.length ≤ cells) (h0 : l ≠ []) (hcap : l.length ≤ cap) (h63 : l.length ≤ 9223372036854775807)
    (hcell : ∀ j x, l[j]? = some x → w.cell? ((⟨g, d, none⟩ : Addr).add j) = some (.int .u8 x.toNat)) :
    Calls P (ρ.f 169) #[.pointer (some ⟨b, 0, none⟩)] w fun e w' => e = .returned (.string ⟨l.toArray⟩) ∧ w' = w.drew.freeze ⟨g, d, none⟩ l.length := by
  have hl0 : l.length ≠ 0 := by simpa using h0
  have c1 : w.drew.cell? ⟨b, 1, none⟩ = some (.slice (some ⟨g, d, none⟩) l.length cap) := by
    have : w.drew.heap[b]? = some (.cells #[p, .slice (some ⟨g, d, none⟩) l.length cap] (ρ.t 72) (0, 0)) := hbk
    rw [Lib.cell_of_heap this]; rfl
  have hSD : (Builtin.unsafeSliceData_ #[(ρ.t 37)] (ρ.t 127) #[.slice (some ⟨g, d, none⟩) l.length cap]).run P w.drew = .ok (.pointer (some ⟨g, d, none⟩)) w.drew :=
    Lib.run_unsafeSliceData_row _ _ _ _ _ _ (by omega)
  have hUS : (Builtin.unsafeString_ #[(ρ.t 127), (ρ.t 3)] (ρ.t 9) #[.pointer (some ⟨g, d, none⟩), .int .i64 l.length]).run P w.drew = .ok (.string ⟨l.toArray⟩) (w.drew.freeze ⟨g, d, none⟩ l.length) :=
    string_off w.drew (ρ.t 127) (ρ.t 3) (ρ.t 9) (ρ.t 5) L.t127 hc g d cells hsh l h0 hn h63 hcell
  have mixed := L.mixed
  have t72 := L.t72; have a72 := L.a72; have z72 := L.z72; have v72 := L.v72; have u72 := run_underlying L.t72
  have t70 := L.t70; have a70 := L.a70; have z70 := L.z70; have v70 := L.v70; have u70 := run_underlying L.t70
  have t37 := L.t37; have a37 := L.a37; have z37 := L.z37; have v37 := L.v37; have u37 := run_underlying L.t37
  have t127 := L.t127; have a127 := L.a127; have z127 := L.z127; have v127 := L.v127; have u127 := run_underlying L.t127
  have t3 := L.t3; have a3 := L.a3; have z3 := L.z3; have v3 := L.v3; have u3 := run_underlying L.t3
  have t9 := L.t9; have a9 := L.a9; have z9 := L.z9; have v9 := L.v9; have u9 := run_underlying L.t9
  go_enter L.f169, Body.n169_ntmps ρ
  go_wp2
  go_region_o
  all_goals (go_wp2; go_ret; exact ⟨rfl, rfl⟩)
end
end Go.Proofs.YtocghkacngoblaaDoor.Bls
namespace Go.Proofs.YtocghkacngoblaaDoor
open Go.Proofs.YtocghkacngoblaaDoor.Aw
attribute [local go_sem] Int.natCast_zero Int.natCast_one bne_self_eq_false beq_self_eq_true Bool.not_true Bool.not_false Option.isSome_none Option.isSome_some Aw.bkM_nil Option.getD_some Option.getD_none Nat.sub_zero Int.toNat_zero Aw.frzS Aw.frzT Aw.frzA Aw.frzL Aw.frzR Aw.frzO Aw.frzOL Aw.frzOT Aw.frzOR Aw.killS Aw.mapT Aw.mapR Aw.killM Aw.resAVs Aw.resAV Aw.quietOps Aw.wpP Aw.wpT Aw.wpS Aw.AOp.mild List.getElem?_cons_zero List.getElem?_cons_succ Bool.and_false Bool.and_self Bool.false_and Aw.opOb Aw.gdB Aw.Rnd Aw.subTm List.length_map Int.toNat_natCast and_self Aw.SeqC Aw.stops Aw.Ends Aw.looks Aw.renA Aw.renL Aw.renT Aw.renS Aw.wpO Aw.aop Aw.putTm Aw.St.ev Aw.St.put Aw.St.putO Aw.binAV Aw.intBin Aw.strBin Aw.pickAV Aw.optInt Aw.AV.strip Aw.AV.guard Aw.AV.cells Aw.gdOb Aw.AOp.opds Aw.AOp.still Aw.ptrCells Aw.St.reg Aw.fillAV Aw.fillOb Aw.elsOb Aw.splice Aw.firm Aw.cellish Aw.AV.shut Aw.shutAll Aw.Seq Aw.Blk Aw.retS_nil Aw.mapA Aw.mapL Aw.borA Aw.borOb Aw.allOb Aw.tupOf Aw.params Aw.Opd.of Array.toList Value.cells List.map_cons List.map_nil List.getD_cons_zero List.getD_cons_succ List.getD_nil List.length_cons List.length_nil List.take_succ_cons List.take_zero List.take_nil List.drop_zero List.drop_succ_cons List.drop_nil List.set_cons_zero List.set_cons_succ List.append_nil List.nil_append List.cons_append List.all_cons List.all_nil cond_false cond_true if_true if_false true_and and_true Bool.and_true Bool.true_and Option.map_some Option.map_none false_implies forall_const implies_true forall_eq imp_self Bool.cond_false_right Bool.cond_true_left beq_true beq_false Bool.not_eq_true' Bool.false_eq_true Nat.zero_add Nat.add_zero Aw.eqCells Aw.stopDraw Aw.skipS Aw.exactCap Aw.revealS Aw.srcEls Aw.srcSz
attribute [local go_sem ↓] Aw.look_nil Aw.look_ite Aw.wpL_nil Aw.wpL_op Aw.wpL_gd Aw.wpQ_nil Aw.wpQ_op Aw.wpQ_gd Aw.wpC_draw Aw.wpC_reg Aw.wpC_skip Aw.wpC_ret Aw.wpC_exit Aw.wpC_seq Aw.wpC_block Aw.wpC_loop Aw.wpC_cond Aw.stopAt_nil Aw.stopAt_cons Aw.wpD_skip Aw.wpD_ret Aw.wpD_exit Aw.wpD_region Aw.wpD_draw Aw.wpM_nil Aw.wpM_op Aw.wpM_gd Aw.wpD_seq Aw.wpD_block Aw.wpD_loop Aw.wpD_cond
theorem rc_inv {w : World} {ok : Nat → Prop} : ∀ (vs xs : List Value), RcList w ok (vs.map AV.val) xs → xs = vs
  | [], [], _ => rfl
  | [], x :: xs, h => by simp [RcList] at h
  | a :: vs, [], h => by simp [RcList] at h
  | a :: vs, x :: xs, h => by
    simp only [List.map_cons, RcList, Rc] at h
    obtain ⟨y, ys, h1, h2, h3⟩ := h
    injection h1 with h4 h5
    subst h4 h5 h2
    rw [rc_inv vs _ h3]
set_option maxRecDepth 100000 in
theorem bExtra : Go.Proofs.Builder.Extra Tryd.prog renB := by
  refine ⟨x72, ?_, ?_, ?_, ?_, ?_, ?_, ?_, ?_⟩
  all_goals first
    | kernel_rfl
    | (intro w; exact Go.RowKit.run_isAgg_plain (by kernel_rfl) rfl)
    | (intro w; rfl)
    | decide
theorem str_none : Aw.Spec Tryd.prog 28 bldN [.ptr 0 0 0] (fun rg v => rg = bldN ∧ v = S ⟨#[]⟩) := by
  intro w ρ ok vals hm hr
  obtain ⟨b, C, h1, h2, h3⟩ := hm.reg 0 _ rfl
  obtain ⟨C⟩ := C
  unfold RList at h3
  obtain ⟨v0, vs', h4, h5, h6⟩ := h3
  unfold RList at h6
  obtain ⟨v1, vs2, h7, h8, h9⟩ := h6
  unfold RList at h9
  simp only at h4
  subst h9 h7 h4
  unfold R at h5 h8
  subst h5 h8
  have hvals : vals = #[.pointer (some ⟨b, 0, none⟩)] := by
    unfold RList at hr
    obtain ⟨v, vs, k1, k2, k3⟩ := hr
    unfold RList at k3
    subst k3
    unfold R at k2
    obtain ⟨p', k4, k5⟩ := k2
    rw [h1] at k4
    injection k4 with k4
    injection k4 with k4
    subst k4
    cases vals; simp only at k1; subst k1 k5; rfl
  subst hvals
  obtain ⟨fr, h10, h11⟩ := hpB_inv h2
  rcases h11 with rfl | ⟨h11, _⟩
  · refine (Go.Proofs.Any.Builder_String_nil lays169 bExtra w.heap.size b _ w h10).mono fun e w' he => ?_
    obtain ⟨rfl, hw⟩ := he
    have hx : Ext w w' := ⟨hw.os, hw.tape, hw.output, hw.size, hw.block⟩
    refine ⟨_, _, _, ρ, ok, rfl, ⟨rfl, rfl⟩, hm.ext hx, ?_, fun b hb => .inl hb, fun r p hp => .inr ⟨r, p, hp, rfl⟩, ⟨hx.os, hx.tape, hx.output, hx.size, fun k hk _ => hx.block k hk⟩, fun _ _ _ _ => rfl⟩
    unfold R; rfl
  · exact absurd h11 (by decide)
theorem str_used (t : ByteArray) (h0 : 0 < t.size) (h63 : t.size ≤ 140737488355328) : Aw.Spec Tryd.prog 28 (bldB (.ptr 0 0 0) t) [.ptr 0 0 0] (fun rg v => rg = [.box 64 [.ptr 0 0 0, .any], .dead] ∧ v = S t) := by
  intro w ρ ok vals hm hr
  obtain ⟨b, v0, v1, h1, h2, rfl, h3, h4⟩ := bld_inv hm hr
  have hlen : t.data.toList.length = t.size := by rw [Array.length_toList]; rfl
  have hne : t.data.toList ≠ [] := fun e => by rw [e] at hlen; simp at hlen; omega
  rcases hm.reg 1 _ rfl with ⟨g, d, C, pre, vs, rest, g1, g2, g3, g4, g5, g6⟩ | ⟨he, _⟩
  · have hfl : (byC t).flatten = (t.data.toList.map fun c => Value.int .u8 c.toNat).map AV.val := by
      unfold byC
      generalize t.data.toList = l
      induction l with
      | nil => rfl
      | cons c l ih => simp only [List.map_cons, List.flatten_cons, ih]; rfl
    rw [hfl] at g6
    have hvs := rc_inv _ _ g6
    unfold R at h4
    rcases h4 with ⟨p, cc, ad, k1, k2, k3, k4, k5, k6, k7⟩ | ⟨k1, _⟩
    · rw [g1] at k1
      injection k1 with k1
      injection k1 with k1
      subst k1
      have hbg : b ≠ g := fun e => by
        have := hm.inj 0 1 _ _ h1 g1 e
        cases this
      have had : ad = ⟨g, d, none⟩ := by
        rcases k3 with k3 | k3
        · omega
        · rw [k3]; simp
      subst had
      obtain ⟨fr, g7, g8⟩ := hpB_inv g2
      have hCl : C.size = d + (t.size + rest.length) := by
        have := congrArg List.length g3
        rw [List.length_append, List.length_append, g4, hvs, List.length_map, hlen, Array.length_toList] at this
        exact this
      have hsh : w.shape? g = some (5, C.size) := by
        unfold World.shape?
        rw [g7]
      rw [k2] at h2
      rw [← hlen] at h2
      have hcell : ∀ j x, t.data.toList[j]? = some x → w.cell? ((⟨g, d, none⟩ : Addr).add j) = some (.int .u8 x.toNat) := fun j x hj => by
        have hjl := (List.getElem?_eq_some_iff.1 hj).1
        rw [add_plain]
        unfold World.cell?
        rw [g7]
        dsimp only
        rw [← Array.getElem?_toList, g3, List.getElem?_append_right (by omega), g4, Nat.add_sub_cancel_left, hvs, List.getElem?_append_left (by rw [List.length_map]; exact hjl), List.getElem?_map, hj]
        rfl
      refine (Bls.string_run lays169 (by kernel_rfl) b g d cc C.size t.data.toList v0 w h2 hsh (by rw [hlen]; omega) hne (by rw [hlen]; exact k5) (by rw [hlen]; omega) hcell).mono fun e w' he => ?_
      obtain ⟨rfl, rfl⟩ := he
      have hsz : (w.drew.freeze ⟨g, d, none⟩ t.data.toList.length).heap.size = w.heap.size := by
        unfold World.freeze
        split
        · rfl
        · exact Array.size_modify ..
      have hoth : ∀ k, k ≠ g → (w.drew.freeze ⟨g, d, none⟩ t.data.toList.length).heap[k]? = w.heap[k]? := fun k hk => by
        unfold World.freeze
        split
        · rfl
        · refine (Array.getElem?_modify ..).trans ?_
          rw [if_neg (fun e => hk e.symm)]
          rfl
      have hos : (w.drew.freeze ⟨g, d, none⟩ t.data.toList.length).os = w.os ∧ (w.drew.freeze ⟨g, d, none⟩ t.data.toList.length).tape = w.tape ∧ (w.drew.freeze ⟨g, d, none⟩ t.data.toList.length).output = w.output := by
        unfold World.freeze
        split <;> exact ⟨rfl, rfl, rfl⟩
      refine ⟨_, _, _, fun r => if r = 0 then ρ 0 else none, ok, rfl, ⟨rfl, rfl⟩, ⟨fun k hk => by rw [hsz]; exact hm.okl k hk, fun r r' p p' hp hp' _ => ?_, fun r p hp => ?_, fun r q hq => ?_, fun r hr => ?_⟩, ?_, fun b hb => .inl hb, fun r p hp => ?_, ⟨hos.1, hos.2.1, hos.2.2, by rw [hsz]; exact Nat.le_refl _, fun k _ hk => hoth k fun e => hk ⟨1, _, g1, e.symm⟩⟩, fun r e cs hr => ?_⟩
      · split at hp
        · split at hp'
          · omega
          · cases hp'
        · cases hp
      · split at hp
        · rw [hsz]; exact hm.own 0 p hp
        · cases hp
      · match r, hq with
        | 0, hq =>
          injection hq with hq
          subst hq
          refine ⟨b, _, by simp [h1], by rw [hpB_same (hoth b hbg)]; exact hpB_of h2, ?_⟩
          unfold RList
          refine ⟨_, _, rfl, ?_, ?_⟩
          · unfold R at h3 ⊢
            obtain ⟨p, q1, q2⟩ := h3
            exact ⟨p, by simpa using q1, q2⟩
          · unfold RList
            exact ⟨_, _, rfl, by unfold R; trivial, by unfold RList; rfl⟩
        | 1, hq =>
          injection hq with hq
          subst hq
          rfl
      · have hr : 2 ≤ r := hr
        show (if r = 0 then ρ 0 else none) = none
        rw [if_neg (by omega)]
      · unfold R
        rfl
      · have hp : (if r = 0 then ρ 0 else none) = some (some p) := hp
        split at hp
        · exact .inr ⟨0, p, hp, rfl⟩
        · cases hp
      · match r, hr with
        | 0, _ => rfl
        | 1, hr => injection hr with hr; cases hr
    · rw [g1] at k1; injection k1 with k1; cases k1
  · have := congrArg List.length he
    rw [byC_len, List.length_nil] at this
    omega
end Go.Proofs.YtocghkacngoblaaDoor
