/- Archives: those of a list of events. -/
import Derived.Test.YtemgclhenkbikaaDoorAwZl
import Derived.Test.YtemgclhenkbikaaDoorArF
set_option linter.unusedVariables false
set_option linter.unusedSimpArgs false
namespace Go.Proofs.YtemgclhenkbikaaDoor
open Go.Proofs.YtemgclhenkbikaaDoor.Aw
attribute [local go_sem] Int.natCast_zero Int.natCast_one bne_self_eq_false beq_self_eq_true Bool.not_true Bool.not_false Option.isSome_none Option.isSome_some Aw.bkM_nil Option.getD_some Option.getD_none Nat.sub_zero Int.toNat_zero Aw.frzS Aw.frzT Aw.frzA Aw.frzL Aw.frzR Aw.frzO Aw.frzOL Aw.frzOT Aw.frzOR Aw.killS Aw.mapT Aw.mapR Aw.killM Aw.resAVs Aw.resAV Aw.quietOps Aw.wpP Aw.wpT Aw.wpS Aw.AOp.mild List.getElem?_cons_zero List.getElem?_cons_succ Bool.and_false Bool.and_self Bool.false_and Aw.opOb Aw.gdB Aw.Rnd Aw.subTm List.length_map Int.toNat_natCast and_self Aw.SeqC Aw.stops Aw.Ends Aw.looks Aw.renA Aw.renL Aw.renT Aw.renS Aw.wpO Aw.aop Aw.putTm Aw.St.ev Aw.St.put Aw.St.putO Aw.binAV Aw.intBin Aw.strBin Aw.pickAV Aw.optInt Aw.AV.strip Aw.AV.guard Aw.AV.cells Aw.gdOb Aw.AOp.opds Aw.AOp.still Aw.ptrCells Aw.St.reg Aw.fillAV Aw.fillOb Aw.elsOb Aw.splice Aw.firm Aw.cellish Aw.AV.shut Aw.shutAll Aw.Seq Aw.Blk Aw.retS_nil Aw.mapA Aw.mapL Aw.borA Aw.borOb Aw.allOb Aw.tupOf Aw.params Aw.Opd.of Array.toList Value.cells List.map_cons List.map_nil List.getD_cons_zero List.getD_cons_succ List.getD_nil List.length_cons List.length_nil List.take_succ_cons List.take_zero List.take_nil List.drop_zero List.drop_succ_cons List.drop_nil List.set_cons_zero List.set_cons_succ List.append_nil List.nil_append List.cons_append List.all_cons List.all_nil cond_false cond_true if_true if_false true_and and_true Bool.and_true Bool.true_and Option.map_some Option.map_none false_implies forall_const implies_true forall_eq imp_self Bool.cond_false_right Bool.cond_true_left beq_true beq_false Bool.not_eq_true' Bool.false_eq_true Nat.zero_add Nat.add_zero Aw.eqCells Aw.stopDraw Aw.skipS Aw.exactCap Aw.revealS Aw.srcEls Aw.srcSz
attribute [local go_sem ↓] Aw.look_nil Aw.look_ite Aw.wpL_nil Aw.wpL_op Aw.wpL_gd Aw.wpQ_nil Aw.wpQ_op Aw.wpQ_gd Aw.wpC_draw Aw.wpC_reg Aw.wpC_skip Aw.wpC_ret Aw.wpC_exit Aw.wpC_seq Aw.wpC_block Aw.wpC_loop Aw.wpC_cond Aw.stopAt_nil Aw.stopAt_cons Aw.wpD_skip Aw.wpD_ret Aw.wpD_exit Aw.wpD_region Aw.wpD_draw Aw.wpM_nil Aw.wpM_op Aw.wpM_gd Aw.wpD_seq Aw.wpD_block Aw.wpD_loop Aw.wpD_cond
/- gridhall/gridhallkeep4.archiveOf -/
def a7 : ACode :=
  (.seq (.region false [] [
     ⟨(some 2), none, (.mov (.v (.pointer none)))⟩])
  (.seq (.region false [] [
     ⟨(some 7), none, (.call 22 [])⟩,
     ⟨(some 3), none, (.mov (.t 7))⟩])
  (.seq (.seq (.region false [] [
     ⟨(some 8), none, (.mov (.t 3))⟩,
     ⟨(some 9), none, (.nilP false (.t 8))⟩])
  (.cond (.t 9)
    (.seq (.region false [] [
       ⟨(some 2), none, (.mov (.v (.pointer none)))⟩])
    .ret)
    .skip))
  (.seq (.region false [] [
     ⟨(some 4), none, (.mov (.v (.int .i64 0)))⟩])
  (.seq (.seq (.region false [] [
     ⟨(some 10), none, (.mov (.t 0))⟩,
     ⟨(some 11), none, (.mov (.t 0))⟩,
     ⟨(some 12), none, (.len (.t 11))⟩,
     ⟨(some 13), none, (.mni (.t 12) (.v (.int .i64 12)))⟩,
     ⟨(some 14), none, (.slc 4 (.t 10) none (some (.t 13)) none)⟩,
     ⟨(some 15), none, (.len (.t 14))⟩,
     ⟨(some 16), none, (.mov (.v (.int .i64 0)))⟩])
  (.block 0 (.loop (.seq (.region false [] [
       ⟨(some 17), none, (.bin .lss 3 (.t 16) (.t 15))⟩])
    (.seq (.cond (.t 17)
      .skip
      (.exit 0))
    (.seq (.block 1 (.seq (.region false [] [
        ⟨(some 18), none, (.idx 4 (.t 14) (.t 16))⟩,
        ⟨(some 19), none, (.load 4 true (.t 18))⟩,
        ⟨(some 6), none, (.alloc 30 (.agg #[(.int .i64 0), (.string ⟨#[]⟩), (.string ⟨#[]⟩), (.int .i64 0)]))⟩,
        ⟨none, none, (.store 4 (.t 6) (.t 19))⟩])
     (.seq (.region false [] [
        ⟨(some 20), none, (.mov (.t 4))⟩,
        ⟨(some 21), none, (.fld 0 (.t 6))⟩,
        ⟨(some 22), none, (.load 1 false (.t 21))⟩,
        ⟨(some 23), none, (.call 9 [(.t 22), (.v (.int .i64 0)), (.v (.int .i64 50))])⟩,
        ⟨(some 24), none, (.bin .add 3 (.t 20) (.t 23))⟩,
        ⟨(some 4), none, (.mov (.t 24))⟩])
     (.seq (.region false [] [
        ⟨(some 25), none, (.mov (.t 4))⟩,
        ⟨(some 26), none, (.fld 0 (.t 6))⟩,
        ⟨none, none, (.store 1 (.t 26) (.t 25))⟩])
     (.region false [] [
        ⟨(some 27), none, (.mov (.t 3))⟩,
        ⟨(some 28), none, (.load 4 true (.t 6))⟩,
        ⟨(some 29), none, (.call 18 [(.t 27), (.t 28)])⟩])))))
    (.region false [] [
       ⟨(some 30), none, (.bin .add 3 (.t 16) (.v (.int .i64 1)))⟩,
       ⟨(some 16), none, (.mov (.t 30))⟩])))))))
  (.seq (.region false [] [
     ⟨(some 31), none, (.mov (.t 3))⟩,
     ⟨(some 2), none, (.mov (.t 31))⟩])
  .ret))))))
theorem k7 : FnIs Tryd.prog 7 32 [.t 2] a7 := ⟨_, _, Tryd.func7, rfl, by kernel_rfl, by kernel_rfl, rfl⟩

def Ar0 : Ar := ⟨[], ⟨#[]⟩, begin0⟩
def atT (e : Ev) (t : Int) : Ev := ⟨t, e.kind, e.name, e.value⟩
/-- The archive, and the last time. -/
def stepA (x : Ar × Int) (e : Ev) : Ar × Int := (appD x.1 (atT e (x.2 + cut e.time 0 50)), x.2 + cut e.time 0 50)
def ofN (l : List Ev) (i : Nat) : Ar × Int := (l.take i).foldl stepA (Ar0, 0)
theorem ofN_succ {l : List Ev} {i : Nat} (h : i < l.length) : ofN l (i + 1) = stepA (ofN l i) l[i] := by
  unfold ofN
  rw [take_get h, List.foldl_append]; rfl
structure ArOk (i : Nat) (x : Ar × Int) : Prop where
  len : x.1.list.length ≤ i
  txt : x.1.text.size ≤ 200 * i
  dig : x.1.dig < 18446744073709551616
  t0 : 0 ≤ x.2
  t1 : x.2 ≤ 50 * i
theorem cut50 (n : Int) : 0 ≤ cut n 0 50 ∧ cut n 0 50 ≤ 50 := by
  have : cut n 0 50 = 0 + n % 51 := rfl
  omega
theorem appE_ev {a : Ar} {e : Ev} (h : appE a e = 0) : evE e = 0 := by
  unfold appE at h
  split at h
  · rename_i h1; exact absurd h h1
  · rename_i h1; simpa using h1
theorem evE_ok {e : Ev} (h : evE e = 0) : (0 ≤ e.time ∧ e.time ≤ 200000) ∧ (kindF e.kind = true ∧ nm 8 e.name = true) ∧ -1000000 ≤ e.value ∧ e.value ≤ 1000000 := by
  unfold evE at h
  have v1 : ¬(e.time < 0 ∨ e.time > 200000) := fun h1 => by rw [if_pos h1] at h; cases h
  rw [if_neg v1] at h
  have v2 : ¬(kindF e.kind = false ∨ nm 8 e.name = false) := fun h1 => by rw [if_pos h1] at h; cases h
  rw [if_neg v2] at h
  have v3 : ¬(e.value < -1000000 ∨ e.value > 1000000) := fun h1 => by rw [if_pos h1] at h; cases h
  refine ⟨by omega, ?_, by omega⟩
  cases hA : kindF e.kind <;> cases hB : nm 8 e.name <;> simp [hA, hB] at v2 ⊢
theorem kind_size {s : ByteArray} (h : kindF s = true) : s.size ≤ 8 := by
  unfold kindF at h
  simp only [Bool.and_eq_true, decide_eq_true_eq] at h
  omega
theorem nm_size {s : ByteArray} (h : nm 8 s = true) : s.size ≤ 8 := by
  unfold nm at h
  simp only [Bool.and_eq_true, decide_eq_true_eq] at h
  omega
theorem line_size {e : Ev} (h : evE e = 0) : (lineB e).size ≤ 100 := by
  obtain ⟨h1, ⟨h2, h3⟩, h4⟩ := evE_ok h
  have j1 : (itoaB e.time).size ≤ 21 := itoa_len e.time (by omega) (by omega)
  have j2 : (itoaB e.value).size ≤ 21 := itoa_len e.value (by omega) (by omega)
  have j3 : (⟨#[32]⟩ : ByteArray).size = 1 := rfl
  have k8 := kind_size h2
  have n8 := nm_size h3
  unfold lineB
  simp only [ByteArray.size_append]
  omega
theorem stepA_ok {i : Nat} {x : Ar × Int} (h : ArOk i x) (e : Ev) : ArOk (i + 1) (stepA x e) := by
  obtain ⟨h1, h2, h3, h4, h5⟩ := h
  have hc := cut50 e.time
  have hx : ∀ e' : Ev, (appD x.1 e').list.length ≤ i + 1 ∧ (appD x.1 e').text.size ≤ 200 * (i + 1) ∧ (appD x.1 e').dig < 18446744073709551616 := fun e' => by
    unfold appD
    split
    · rename_i h6
      have hl := line_size (appE_ev h6)
      have hh : (hexB (digN x.1 e')).size ≤ 16 := hexB_len _
      have j3 : (⟨#[32]⟩ : ByteArray).size = 1 := rfl
      have j4 : (⟨#[10]⟩ : ByteArray).size = 1 := rfl
      refine ⟨by rw [List.length_append, List.length_singleton]; omega, ?_, fnv_lt _ _⟩
      simp only [ByteArray.size_append]
      omega
    · exact ⟨by omega, by omega, h3⟩
  obtain ⟨g1, g2, g3⟩ := hx (atT e (x.2 + cut e.time 0 50))
  exact ⟨g1, g2, g3, by show 0 ≤ x.2 + cut e.time 0 50; omega, by show x.2 + cut e.time 0 50 ≤ 50 * ((i + 1 : Nat) : Int); omega⟩
theorem cut_map {α β : Type} (f : α → β) (l : List α) (k : Nat) : List.take (min (l.length : Int) k).toNat (l.map f) = (l.take k).map f := by
  rw [List.map_take]
  rcases Nat.lt_or_ge l.length k with h | h
  · rw [List.take_of_length_le (by rw [List.length_map]; omega), List.take_of_length_le (by rw [List.length_map]; omega)]
  · rw [show (min (l.length : Int) k).toNat = k by omega]
set_option maxRecDepth 20000 in
set_option maxHeartbeats 1000000 in
theorem s7 {Γ : List (Nat × Array Value)} (hP : powT ∈ Γ) (hD : debT ∈ Γ) (nl' fl) (l : List Ev) (hs : ∀ e ∈ l, EvW e) (hl : l.length ≤ 9223372036854775807) :
    Aw.SpecG Γ Tryd.prog 7 [] [.imm nl' fl 4 (l.map ec)] (fun rg v => rg = arR (ofN (l.take 12) (l.take 12).length).1 ∧ v = .ptr 0 0 0) := by
  refine Aw.SpecG.regsW k7 rfl rfl fun E hn hnp hp hT => ?_
  unfold a7
  have pin : ∀ r, E.pin r = none := fun r => hp.none hnp (Nat.zero_le _)
  refine AWp.ofD [999] [] hn mixed rfl ?_
  have hcut := cut_map ec l 12
  have hcut : List.take (min (l.length : Int) 12).toNat (l.map ec) = (l.take 12).map ec := hcut
  have hv12 : (l.take 12).length ≤ 12 := by rw [List.length_take]; omega
  have hsv : ∀ e ∈ l.take 12, EvW e := fun e he => hs e (List.mem_of_mem_take he)
  simp (config := { maxSteps := 2000000 }) only [go_sem, ↓reduceIte, Int.reduceToNat, Nat.reduceMul, Int.reduceBEq, Int.reduceBNe, Nat.reduceBEq, Nat.reduceAdd, Nat.reduceSub, Nat.reduceLeDiff, Nat.reduceEqDiff, Nat.reduceLT, reduceCtorEq]
  refine AWpL.callA [] s22 rfl rfl (by rw [hn]; rfl) rfl (fun r hr => .inr (pin r)) fun rg v hv => ?_
  obtain ⟨rfl, rfl⟩ := hv
  refine ⟨Nat.zero_le _, ?_⟩
  rw [retS_new]
  refine AWpL.ofM hn rfl ?_
  simp (config := { maxSteps := 2000000 }) only [go_sem, ↓reduceIte, Int.reduceToNat, Nat.reduceMul, Int.reduceBEq, Int.reduceBNe, Nat.reduceBEq, Nat.reduceAdd, Nat.reduceSub, Nat.reduceLeDiff, Nat.reduceEqDiff, Nat.reduceLT, reduceCtorEq, Aw.pos, arR, hcut]
  generalize l.take 12 = v at *
  clear hcut
  refine ⟨⟨by omega, by omega, by omega⟩, ?_⟩
  refine AWp.loop (fun k st => ∃ (i : Nat), i + k = v.length ∧ ArOk i (ofN v i) ∧
      Weak E st ⟨[(3, .ptr 0 0 0), (4, I (ofN v i).2), (14, .imm nl' false 4 (v.map ec)), (15, I v.length), (16, I i)], arR (ofN v i).1⟩) (n := v.length)
    ⟨0, by omega, ⟨Nat.le_refl 0, Nat.le_refl 0, by show begin0 < 18446744073709551616; decide, Int.le_refl 0, Int.le_refl 0⟩, weak_to [0, 1] hp hnp rfl (by simp (config := { maxSteps := 2000000 }) only [go_sem, ↓reduceIte, Int.reduceToNat, Nat.reduceMul, Int.reduceBEq, Int.reduceBNe, Nat.reduceBEq, Nat.reduceAdd, Nat.reduceSub, Nat.reduceLeDiff, Nat.reduceEqDiff, Nat.reduceLT, reduceCtorEq, Aw.pos] <;> rfl) (by simp (config := { maxSteps := 2000000 }) only [go_sem, ↓reduceIte, Int.reduceToNat, Nat.reduceMul, Int.reduceBEq, Int.reduceBNe, Nat.reduceBEq, Nat.reduceAdd, Nat.reduceSub, Nat.reduceLeDiff, Nat.reduceEqDiff, Nat.reduceLT, reduceCtorEq, Aw.renR, Aw.pos] <;> rfl)⟩ ?_
  rintro k st ⟨i, hi, hok, hw⟩
  refine AWp.weak hw (AWp.ofD [999] [] hn mixed rfl ?_)
  rcases Nat.lt_or_ge i v.length with hlt | hge
  · have d0 : decide ((i : Int) < (v.length : Int)) = true := decide_eq_true (by omega)
    have d1 := getD_map ec hlt
    have d2 : IntKind.i64.wrap ((i : Int) + 1) = ((i + 1 : Nat) : Int) := by rw [w64 (by omega) (by omega)]; rfl
    have hev := hsv v[i] (List.getElem_mem hlt)
    have hok2 := stepA_ok hok v[i]
    have hof := ofN_succ hlt
    rw [← hof] at hok2
    have hc := cut50 v[i].time
    obtain ⟨h1, h2, h3, h4, h5⟩ := hok
    have d3 : IntKind.i64.wrap ((ofN v i).2 + cut v[i].time 0 50) = (ofN v i).2 + cut v[i].time 0 50 := w64 (by omega) (by omega)
    simp (config := { maxSteps := 2000000 }) only [go_sem, ↓reduceIte, Int.reduceToNat, Nat.reduceMul, Int.reduceBEq, Int.reduceBNe, Nat.reduceBEq, Nat.reduceAdd, Nat.reduceSub, Nat.reduceLeDiff, Nat.reduceEqDiff, Nat.reduceLT, reduceCtorEq, d0, d1, arR]
    (repeat (refine And.intro (by first | omega | (refine ⟨by omega, by omega⟩) | (refine ⟨by omega, by omega, by omega⟩) | (simp only [List.length_map, List.length_range, List.length_append, List.length_cons, List.length_nil, List.length_replicate, List.length_set]; omega) | (simp; omega) | (intro hgd; cases hgd) | (intro hgd; refine ⟨hgd, ?_⟩; first | omega | (refine ⟨by omega, by omega⟩) | (simp; omega))) ?_))
    (refine AWpL.calle (s9 v[i].time 0 50 (by decide) (by decide) (by decide)) rfl (by rw [hn]; rfl) (by simp (config := { maxSteps := 2000000 }) only [go_sem, ↓reduceIte, Int.reduceToNat, Nat.reduceMul, Int.reduceBEq, Int.reduceBNe, Nat.reduceBEq, Nat.reduceAdd, Nat.reduceSub, Nat.reduceLeDiff, Nat.reduceEqDiff, Nat.reduceLT, reduceCtorEq]) (AWpL.ofM hn rfl ?_); simp (config := { maxSteps := 2000000 }) only [go_sem, ↓reduceIte, Int.reduceToNat, Nat.reduceMul, Int.reduceBEq, Int.reduceBNe, Nat.reduceBEq, Nat.reduceAdd, Nat.reduceSub, Nat.reduceLeDiff, Nat.reduceEqDiff, Nat.reduceLT, reduceCtorEq])
    simp (config := { maxSteps := 2000000 }) only [go_sem, ↓reduceIte, Int.reduceToNat, Nat.reduceMul, Int.reduceBEq, Int.reduceBNe, Nat.reduceBEq, Nat.reduceAdd, Nat.reduceSub, Nat.reduceLeDiff, Nat.reduceEqDiff, Nat.reduceLT, reduceCtorEq, d3]
    refine AWpL.callAT [0, 1] (SpecG.at (s18 hP hD (ofN v i).1 (atT v[i] ((ofN v i).2 + cut v[i].time 0 50)) ⟨hev.1, hev.2⟩ (by omega) (by omega) h3) hT) rfl rfl (by rw [hn]; rfl) rfl (fun r hr => .inr (pin r)) fun rg v' hv => ?_
    obtain ⟨rfl, rfl⟩ := hv
    have e1 : appD (ofN v i).1 (atT v[i] ((ofN v i).2 + cut v[i].time 0 50)) = (ofN v (i + 1)).1 := by rw [hof]; rfl
    have e2 : (ofN v i).2 + cut v[i].time 0 50 = (ofN v (i + 1)).2 := by rw [hof]; rfl
    rw [e1]
    refine ⟨Nat.le_refl _, AWpL.ofM hn rfl ?_⟩
    simp (config := { maxSteps := 2000000 }) only [go_sem, ↓reduceIte, Int.reduceToNat, Nat.reduceMul, Int.reduceBEq, Int.reduceBNe, Nat.reduceBEq, Nat.reduceAdd, Nat.reduceSub, Nat.reduceLeDiff, Nat.reduceEqDiff, Nat.reduceLT, reduceCtorEq, Aw.retS, Aw.retRg, Aw.kpM, Aw.bkM, Aw.pos, Aw.isBox, arR, d2]
    exact ⟨k - 1, by omega, i + 1, by omega, hok2, weak_to [0, 1] hp hnp rfl (by simp (config := { maxSteps := 2000000 }) only [go_sem, ↓reduceIte, Int.reduceToNat, Nat.reduceMul, Int.reduceBEq, Int.reduceBNe, Nat.reduceBEq, Nat.reduceAdd, Nat.reduceSub, Nat.reduceLeDiff, Nat.reduceEqDiff, Nat.reduceLT, reduceCtorEq, Aw.pos, d2, e2] <;> rfl) (by simp (config := { maxSteps := 2000000 }) only [go_sem, ↓reduceIte, Int.reduceToNat, Nat.reduceMul, Int.reduceBEq, Int.reduceBNe, Nat.reduceBEq, Nat.reduceAdd, Nat.reduceSub, Nat.reduceLeDiff, Nat.reduceEqDiff, Nat.reduceLT, reduceCtorEq, Aw.renR, Aw.pos, arR] <;> rfl)⟩
  have d0 : decide ((i : Int) < (v.length : Int)) = false := decide_eq_false (by omega)
  have hi2 : i = v.length := by omega
  subst hi2
  simp (config := { maxSteps := 2000000 }) only [go_sem, ↓reduceIte, Int.reduceToNat, Nat.reduceMul, Int.reduceBEq, Int.reduceBNe, Nat.reduceBEq, Nat.reduceAdd, Nat.reduceSub, Nat.reduceLeDiff, Nat.reduceEqDiff, Nat.reduceLT, reduceCtorEq, d0, arR]
  refine Retn.ret (π := [0, 1]) hp hnp ⟨rfl, ?_⟩
  simp (config := { maxSteps := 2000000 }) only [go_sem, ↓reduceIte, Int.reduceToNat, Nat.reduceMul, Int.reduceBEq, Int.reduceBNe, Nat.reduceBEq, Nat.reduceAdd, Nat.reduceSub, Nat.reduceLeDiff, Nat.reduceEqDiff, Nat.reduceLT, reduceCtorEq, Aw.renR, Aw.pos]
end Go.Proofs.YtemgclhenkbikaaDoor
