/- What the methods of a Shed compute, continued. -/
import Derived.Test.YtdcnllgnblgfaaaAwZf
import Derived.Test.YtdcnllgnblgfaaaShedC
set_option linter.unusedVariables false
set_option linter.unusedSimpArgs false
namespace Go.Proofs.Ytdcnllgnblgfaaa
open Go.Proofs.Ytdcnllgnblgfaaa.Aw
attribute [local go_sem] Int.natCast_zero Int.natCast_one bne_self_eq_false beq_self_eq_true Bool.not_true Bool.not_false Option.isSome_none Option.isSome_some Aw.bkM_nil Option.getD_some Option.getD_none Nat.sub_zero Int.toNat_zero Aw.frzS Aw.frzT Aw.frzA Aw.frzL Aw.frzR Aw.frzO Aw.frzOL Aw.frzOT Aw.frzOR Aw.killS Aw.mapT Aw.mapR Aw.killM Aw.resAVs Aw.resAV Aw.quietOps Aw.wpP Aw.wpT Aw.wpS Aw.AOp.mild List.getElem?_cons_zero List.getElem?_cons_succ Bool.and_false Bool.and_self Bool.false_and Aw.opOb Aw.gdB Aw.Rnd Aw.subTm List.length_map Int.toNat_natCast and_self Aw.SeqC Aw.stops Aw.Ends Aw.looks Aw.renA Aw.renL Aw.renT Aw.renS Aw.wpO Aw.aop Aw.putTm Aw.St.ev Aw.St.put Aw.St.putO Aw.binAV Aw.intBin Aw.strBin Aw.pickAV Aw.optInt Aw.AV.strip Aw.AV.guard Aw.AV.cells Aw.gdOb Aw.AOp.opds Aw.AOp.still Aw.ptrCells Aw.St.reg Aw.fillAV Aw.fillOb Aw.elsOb Aw.splice Aw.firm Aw.cellish Aw.AV.shut Aw.shutAll Aw.Seq Aw.Blk Aw.retS_nil Aw.mapA Aw.mapL Aw.borA Aw.borOb Aw.allOb Aw.tupOf Aw.params Aw.Opd.of Array.toList Value.cells List.map_cons List.map_nil List.getD_cons_zero List.getD_cons_succ List.getD_nil List.length_cons List.length_nil List.take_succ_cons List.take_zero List.take_nil List.drop_zero List.drop_succ_cons List.drop_nil List.set_cons_zero List.set_cons_succ List.append_nil List.nil_append List.cons_append List.all_cons List.all_nil cond_false cond_true if_true if_false true_and and_true Bool.and_true Bool.true_and Option.map_some Option.map_none false_implies forall_const implies_true forall_eq imp_self Bool.cond_false_right Bool.cond_true_left beq_true beq_false Bool.not_eq_true' Bool.false_eq_true Nat.zero_add Nat.add_zero Aw.eqCells Aw.exactCap Aw.overEls Aw.revealS Aw.srcEls Aw.srcSz
attribute [local go_sem ↓] Aw.look_nil Aw.look_ite Aw.wpL_nil Aw.wpL_op Aw.wpL_gd Aw.wpQ_nil Aw.wpQ_op Aw.wpQ_gd Aw.wpC_draw Aw.wpC_reg Aw.wpC_skip Aw.wpC_ret Aw.wpC_exit Aw.wpC_seq Aw.wpC_block Aw.wpC_loop Aw.wpC_cond Aw.stopAt_nil Aw.stopAt_cons Aw.wpD_skip Aw.wpD_ret Aw.wpD_exit Aw.wpD_region Aw.wpD_draw Aw.wpM_nil Aw.wpM_op Aw.wpM_gd Aw.wpD_seq Aw.wpD_block Aw.wpD_loop Aw.wpD_cond
theorem loadsOf_succ (l : List Stage) (o : List Nat) {i : Nat} (h : i < o.length) : loadsOf l (o.take (i + 1)) = loadsOf l (o.take i) ++ (nth l o[i]).loads := by
  rw [take_get h]; unfold loadsOf; rw [List.flatMap_append]; simp
set_option maxRecDepth 20000 in
theorem s9 (l : List Stage) (x : Sh) (hl : ShedOk l) (hi : ShInv l x) :
    Aw.Spec Try.prog 9 (shR l x) [.ptr 0 0 0] (fun rg v => rg = shR l x ∧ v = ss none false (loadsOf l x.ord)) := by
  refine Aw.Spec.regsD k9 mixed rfl rfl rfl fun E hn hnp hp => ?_
  unfold a9 shR
  have h8 := hl.len
  have ho8 := len_ord hl hi
  simp (config := { maxSteps := 2000000 }) only [go_sem, ↓reduceIte, Int.reduceBEq, Int.reduceBNe, Nat.reduceBEq, Nat.reduceAdd, Nat.reduceSub, Nat.reduceLeDiff, Nat.reduceEqDiff, Nat.reduceLT, reduceCtorEq]
  refine AWp.weak (weak_nil 3 9 1 rfl) ?_
  simp (config := { maxSteps := 2000000 }) only [go_sem, ↓reduceIte, Int.reduceBEq, Int.reduceBNe, Nat.reduceBEq, Nat.reduceAdd, Nat.reduceSub, Nat.reduceLeDiff, Nat.reduceEqDiff, Nat.reduceLT, reduceCtorEq]
  refine AWp.loop (fun k s => ∃ (i : Nat), i + k = x.ord.length ∧
      Weak E s ⟨[(0, .ptr 0 0 0), (3, .hnd 5 0 (loadsOf l (x.ord.take i)).length (loadsOf l (x.ord.take i)).length false), (9, .hnd 4 0 x.ord.length x.ord.length false), (10, I x.ord.length), (11, I i)], shR l x ++ [.arr 9 1 ((loadsOf l (x.ord.take i)).map sc)]⟩) (n := x.ord.length)
    ⟨0, by omega, weak_to [0, 1, 2, 3, 4, 5] hp hnp rfl (by simp (config := { maxSteps := 2000000 }) only [go_sem, ↓reduceIte, Int.reduceBEq, Int.reduceBNe, Nat.reduceBEq, Nat.reduceAdd, Nat.reduceSub, Nat.reduceLeDiff, Nat.reduceEqDiff, Nat.reduceLT, reduceCtorEq, Aw.pos, Int.natCast_zero]; rfl) (by simp (config := { maxSteps := 2000000 }) only [go_sem, ↓reduceIte, Int.reduceBEq, Int.reduceBNe, Nat.reduceBEq, Nat.reduceAdd, Nat.reduceSub, Nat.reduceLeDiff, Nat.reduceEqDiff, Nat.reduceLT, reduceCtorEq, Aw.renR, Aw.pos, shR, List.take_zero]; rfl)⟩ ?_
  rintro k s ⟨i, hik, hw⟩
  refine AWp.weak hw (AWp.ofD [] [] hn mixed rfl ?_)
  rcases Nat.lt_or_ge i x.ord.length with hlt | hge
  · have e0 : decide ((i : Int) < (x.ord.length : Int)) = true := by simp; omega
    have e1 := getD_map (fun n : Nat => [I (n : Nat)]) hlt
    have e2 : IntKind.i64.wrap ((i : Int) + 1) = ((i + 1 : Nat) : Int) := by rw [w64 (by omega) (by omega)]; omega
    have hk := hi.inr _ (List.getElem_mem hlt)
    have e3 := getD_map gs0 hk
    have en : nth l x.ord[i] = l[x.ord[i]] := by unfold nth; rw [List.getD_eq_getElem?_getD, List.getElem?_eq_getElem hk]; rfl
    have hs := loadsOf_succ l x.ord hlt
    rw [en] at hs
    have hfew := hl.few _ (List.getElem_mem hk)
    have hb := loads_bound hl (x.ord.take i) (fun k hk => hi.inr k (List.mem_of_mem_take hk)) i (by simp; omega)
    simp (config := { maxSteps := 2000000 }) only [go_sem, ↓reduceIte, Int.reduceBEq, Int.reduceBNe, Nat.reduceBEq, Nat.reduceAdd, Nat.reduceSub, Nat.reduceLeDiff, Nat.reduceEqDiff, Nat.reduceLT, reduceCtorEq, e0, e1, e3, shR]
    (repeat (refine And.intro (by first | omega | (refine ⟨by omega, by omega⟩) | (refine ⟨by omega, by omega, by omega⟩) | (simp only [List.length_map, List.length_range, List.length_append, List.length_cons, List.length_nil, List.length_replicate, List.length_set]; omega) | (simp; omega) | (intro hgd; cases hgd) | (intro hgd; refine ⟨hgd, ?_⟩; first | omega | (refine ⟨by omega, by omega⟩) | (simp; omega))) ?_))
    refine AWpL.app (r := 5) (els := (loadsOf l (x.ord.take i)).map sc) (ys := l[x.ord[i]].loads.map sc) rfl rfl rfl rfl (by rw [hn]; rfl) (by simp) (hp.none hnp (Nat.le_refl 5)) trivial (fun el hm y hy => ?_) (by simp only [List.length_map]; omega) (by simp only [List.length_map]; omega) (AWpL.ofM hn rfl ?_)
    · obtain ⟨z, _, rfl⟩ := List.mem_map.1 hm
      rw [List.mem_singleton.1 hy]; rfl
    simp (config := { maxSteps := 2000000 }) only [go_sem, ↓reduceIte, Int.reduceBEq, Int.reduceBNe, Nat.reduceBEq, Nat.reduceAdd, Nat.reduceSub, Nat.reduceLeDiff, Nat.reduceEqDiff, Nat.reduceLT, reduceCtorEq, e2]
    exact ⟨k - 1, by omega, i + 1, by omega, weak_to [0, 1, 2, 3, 4, 5] hp hnp rfl (by simp (config := { maxSteps := 2000000 }) only [go_sem, ↓reduceIte, Int.reduceBEq, Int.reduceBNe, Nat.reduceBEq, Nat.reduceAdd, Nat.reduceSub, Nat.reduceLeDiff, Nat.reduceEqDiff, Nat.reduceLT, reduceCtorEq, Aw.pos, hs, List.length_append, List.length_map]) (by simp (config := { maxSteps := 2000000 }) only [go_sem, ↓reduceIte, Int.reduceBEq, Int.reduceBNe, Nat.reduceBEq, Nat.reduceAdd, Nat.reduceSub, Nat.reduceLeDiff, Nat.reduceEqDiff, Nat.reduceLT, reduceCtorEq, Aw.renR, Aw.pos, hs, List.map_append])⟩
  · have e0 : decide ((i : Int) < (x.ord.length : Int)) = false := by simp; omega
    simp (config := { maxSteps := 2000000 }) only [go_sem, ↓reduceIte, Int.reduceBEq, Int.reduceBNe, Nat.reduceBEq, Nat.reduceAdd, Nat.reduceSub, Nat.reduceLeDiff, Nat.reduceEqDiff, Nat.reduceLT, reduceCtorEq, e0, shR]
    have ht : x.ord.take i = x.ord := List.take_of_length_le hge
    refine Retn.weak (weak_freeze 5 rfl (hp.none hnp (Nat.le_refl 5)) ?_) _ ?_
    · simp (config := { maxSteps := 2000000 }) only [go_sem, ↓reduceIte, Int.reduceBEq, Int.reduceBNe, Nat.reduceBEq, Nat.reduceAdd, Nat.reduceSub, Nat.reduceLeDiff, Nat.reduceEqDiff, Nat.reduceLT, reduceCtorEq, Nat.le_refl]
    refine Retn.weak (weak_ent 2 (by rfl) (Ent.plain _ _ _ _)) _ (Retn.ret (π := [0, 1, 2, 3, 4]) hp hnp ⟨rfl, ?_⟩)
    have h4 : ((loadsOf l x.ord).map sc).take (loadsOf l x.ord).length = (loadsOf l x.ord).map sc := List.take_of_length_le (by simp)
    simp (config := { maxSteps := 2000000 }) only [go_sem, ↓reduceIte, Int.reduceBEq, Int.reduceBNe, Nat.reduceBEq, Nat.reduceAdd, Nat.reduceSub, Nat.reduceLeDiff, Nat.reduceEqDiff, Nat.reduceLT, reduceCtorEq, Aw.renR, Aw.pos, ht, h4]

def backErr (f : Int) (x : Sh) : Int := if okF f = false then 4 else if f < 0 ∨ x.ord = [] then 11 else 0
def backSt (f : Int) (x : Sh) : Sh := if backErr f x = 0 then shBack x else x
def backOut (l : List Stage) (f : Int) (x : Sh) : List ByteArray := if backErr f x = 0 then (match x.ord.getLast? with | some k => (nth l k).loads | none => []) else []
set_option maxRecDepth 20000 in
set_option maxHeartbeats 1000000 in
theorem s12 (l : List Stage) (x : Sh) (f : Int) (hl : ShedOk l) (hi : ShInv l x) (hf : -9223372036854775808 ≤ f ∧ f ≤ 9223372036854775807) :
    Aw.Spec Try.prog 12 (shR l x) [.ptr 0 0 0, I f] (fun rg v => rg = shR l (backSt f x) ∧ v = .tup [ss none false (backOut l f x), I (backErr f x)]) := by
  refine Aw.Spec.regsD k12 mixed rfl rfl rfl fun E hn hnp hp => ?_
  unfold a12 shR
  have h8 := hl.len
  have ho8 := len_ord hl hi
  simp (config := { maxSteps := 2000000 }) only [go_sem, ↓reduceIte, Int.reduceBEq, Int.reduceBNe, Nat.reduceBEq, Nat.reduceAdd, Nat.reduceSub, Nat.reduceLeDiff, Nat.reduceEqDiff, Nat.reduceLT, reduceCtorEq]
  simp only [Bool.or_eq_true, Bool.or_eq_false_iff, decide_eq_true_eq, decide_eq_false_iff_not, beq_iff_eq, beq_eq_false_iff_ne]
  refine ⟨fun h => ?_, fun h => ⟨fun h2 => ?_, fun h2 => ?_⟩⟩
  · have hok : backErr f x = 4 := by unfold backErr okF; rw [if_pos (by simp only [Bool.and_eq_false_iff, decide_eq_false_iff_not]; omega)]
    refine Retn.weak (weak_ent 4 (by rfl) (Ent.ofnil0 1)) _ (Retn.ret (π := [0, 1, 2, 3, 4]) hp hnp ⟨rfl, ?_⟩)
    simp (config := { maxSteps := 2000000 }) only [go_sem, ↓reduceIte, Int.reduceBEq, Int.reduceBNe, Nat.reduceBEq, Nat.reduceAdd, Nat.reduceSub, Nat.reduceLeDiff, Nat.reduceEqDiff, Nat.reduceLT, reduceCtorEq, Aw.renR, Aw.pos]
    unfold backSt backOut
    rw [hok]
    exact ⟨rfl, rfl⟩
  · have hok : backErr f x = 11 := by
      unfold backErr okF
      rw [if_neg (by simp only [Bool.and_eq_false_iff, decide_eq_false_iff_not]; omega), if_pos]
      rcases h2 with h2 | h2
      · exact .inl h2
      · exact .inr (List.eq_nil_of_length_eq_zero (by omega))
    refine Retn.weak (weak_ent 4 (by rfl) (Ent.ofnil0 1)) _ (Retn.ret (π := [0, 1, 2, 3, 4]) hp hnp ⟨rfl, ?_⟩)
    simp (config := { maxSteps := 2000000 }) only [go_sem, ↓reduceIte, Int.reduceBEq, Int.reduceBNe, Nat.reduceBEq, Nat.reduceAdd, Nat.reduceSub, Nat.reduceLeDiff, Nat.reduceEqDiff, Nat.reduceLT, reduceCtorEq, Aw.renR, Aw.pos]
    unfold backSt backOut
    rw [hok]
    exact ⟨rfl, rfl⟩
  · have hne : x.ord ≠ [] := fun e => by rw [e] at h2; simp at h2
    have hok : backErr f x = 0 := by
      unfold backErr okF
      rw [if_neg (by simp only [Bool.and_eq_false_iff, decide_eq_false_iff_not]; omega), if_neg]
      rintro (h3 | h3)
      · exact h2.1 h3
      · exact hne h3
    obtain ⟨ys, kk, hys⟩ : ∃ ys kk, x.ord = ys ++ [kk] := by
      obtain ⟨ys, kk, h⟩ := List.eq_nil_or_concat x.ord |>.resolve_left hne
      exact ⟨ys, kk, by rw [h, List.concat_eq_append]⟩
    have hkk : kk < l.length := hi.inr kk (by rw [hys]; simp)
    have hlen : x.ord.length = ys.length + 1 := by rw [hys]; simp
    have ew : IntKind.i64.wrap ((x.ord.length : Int) - 1) = (ys.length : Int) := by rw [w64 (by omega) (by omega)]; omega
    have e1 : (x.ord.map fun n : Nat => [I (n : Nat)]).getD ys.length [] = [I (kk : Nat)] := by
      rw [hys, List.getD_eq_getElem?_getD, List.getElem?_map, List.getElem?_append_right (Nat.le_refl _)]; simp
    have e3 := getD_map gs0 hkk
    have en : nth l kk = l[kk] := by unfold nth; rw [List.getD_eq_getElem?_getD, List.getElem?_eq_getElem hkk]; rfl
    have hfew := hl.few _ (List.getElem_mem hkk)
    have eac := getD_rng (fun k => [B (x.ac k)]) hkk
    have elo := getD_rng (fun k => [I (x.lo k)]) hkk
    have hsb : shBack x = ⟨fun j => if j = kk then 0 else x.lo j, fun j => if j = kk then false else x.ac j, ys⟩ := by
      unfold shBack
      rw [hys]; simp
    have hbo : backOut l f x = l[kk].loads := by
      unfold backOut
      rw [if_pos hok, hys, List.getLast?_append, List.getLast?_singleton]
      simp only [Option.some_or, en]
    have hbs : backSt f x = ⟨fun j => if j = kk then 0 else x.lo j, fun j => if j = kk then false else x.ac j, ys⟩ := by unfold backSt; rw [if_pos hok, hsb]
    simp (config := { maxSteps := 2000000 }) only [go_sem, ↓reduceIte, Int.reduceBEq, Int.reduceBNe, Nat.reduceBEq, Nat.reduceAdd, Nat.reduceSub, Nat.reduceLeDiff, Nat.reduceEqDiff, Nat.reduceLT, reduceCtorEq, ew, e1]
    (repeat (refine And.intro (by first | omega | (refine ⟨by omega, by omega⟩) | (refine ⟨by omega, by omega, by omega⟩) | (simp only [List.length_map, List.length_range, List.length_append, List.length_cons, List.length_nil, List.length_replicate, List.length_set]; omega) | (simp; omega) | (intro hgd; cases hgd) | (intro hgd; refine ⟨hgd, ?_⟩; first | omega | (refine ⟨by omega, by omega⟩) | (simp; omega))) ?_))
    refine AWp.cut ⟨[(0, .ptr 0 0 0), (7, I (kk : Nat))], [.box 43 [.hnd 1 0 l.length l.length false, .hnd 2 0 l.length l.length true, .hnd 3 0 l.length l.length true, .hnd 4 0 ys.length x.ord.length false],
       .arr 34 3 (l.map gs0), .arr 3 1 ((List.range l.length).map fun k => [I ((backSt f x).lo k)]), .arr 4 1 ((List.range l.length).map fun k => [B ((backSt f x).ac k)]), .arr 3 1 (x.ord.map fun n => [I (n : Nat)])]⟩ ?_ ?_
    · refine AWp.plan (.take 0 [false, false, false, false, true, true, true, true, true, true, false, false, false, false] (.take 1 [true, false, false, false, true, true, true, true, true, true, false, false, false, false] (.take 2 [true, true, false, false, true, true, true, true, true, true, false, false, false, false] (.take 3 [true, true, true, false, true, true, true, true, true, true, false, false, false, false] (.take 4 [true, true, true, true, false, true, true, true, true, true, false, false, false, false] (.take 5 [true, true, true, true, true, false, false, false, false, true, false, false, false, false] (.take 6 [true, true, true, true, true, true, false, false, false, true, false, false, false, false] (.take 7 [true, true, true, true, true, true, true, false, false, true, false, false, false, false] (.take 8 [true, true, true, true, true, true, true, true, false, true, false, false, false, false] (.take 10 [true, true, true, true, true, true, true, true, true, true, false, false, false, false] (.two 9 (.one 11 (.take 12 [true, true, true, true, true, true, true, true, true, true, true, true, false, false] (.one 13 .done))) 11 (.take 9 [true, true, true, true, true, true, true, true, true, false, true, true, false, false] (.take 12 [true, true, true, true, true, true, true, true, true, true, true, true, false, false] (.one 13 .done)))))))))))))) [true, true, true, true, true, true, true, true, true, true, true, false, true, false] mixed hn rfl rfl ?_
      simp (config := { maxSteps := 2000000 }) only [go_sem, ↓reduceIte, Int.reduceBEq, Int.reduceBNe, Nat.reduceBEq, Nat.reduceAdd, Nat.reduceSub, Nat.reduceLeDiff, Nat.reduceEqDiff, Nat.reduceLT, reduceCtorEq, eac, elo]
      (repeat (refine And.intro (by first | omega | (refine ⟨by omega, by omega⟩) | (refine ⟨by omega, by omega, by omega⟩) | (simp only [List.length_map, List.length_range, List.length_append, List.length_cons, List.length_nil, List.length_replicate, List.length_set]; omega) | (simp; omega) | (intro hgd; cases hgd) | (intro hgd; refine ⟨hgd, ?_⟩; first | omega | (refine ⟨by omega, by omega⟩) | (simp; omega))) ?_))
      have hlo2 : ((List.range l.length).map fun k => [I (x.lo k)]).set kk [I 0] = (List.range l.length).map fun k => [I ((backSt f x).lo k)] := by
        rw [set_rng, hbs]
        refine List.map_congr_left fun k hk => ?_
        by_cases hkq : k = kk <;> simp [hkq]
      have hac2 : ((List.range l.length).map fun k => [B (x.ac k)]).set kk [B false] = (List.range l.length).map fun k => [B ((backSt f x).ac k)] := by
        rw [set_rng, hbs]
        refine List.map_congr_left fun k hk => ?_
        by_cases hkq : k = kk <;> simp [hkq]
      exact weak_to [0, 1, 2, 3, 4] hp hnp rfl (by simp (config := { maxSteps := 2000000 }) only [go_sem, ↓reduceIte, Int.reduceBEq, Int.reduceBNe, Nat.reduceBEq, Nat.reduceAdd, Nat.reduceSub, Nat.reduceLeDiff, Nat.reduceEqDiff, Nat.reduceLT, reduceCtorEq, Aw.pos]) (by simp (config := { maxSteps := 2000000 }) only [go_sem, ↓reduceIte, Int.reduceBEq, Int.reduceBNe, Nat.reduceBEq, Nat.reduceAdd, Nat.reduceSub, Nat.reduceLeDiff, Nat.reduceEqDiff, Nat.reduceLT, reduceCtorEq, Aw.renR, Aw.pos, hlo2, hac2])
    · simp (config := { maxSteps := 2000000 }) only [go_sem, ↓reduceIte, Int.reduceBEq, Int.reduceBNe, Nat.reduceBEq, Nat.reduceAdd, Nat.reduceSub, Nat.reduceLeDiff, Nat.reduceEqDiff, Nat.reduceLT, reduceCtorEq, e3]
      (repeat (refine And.intro (by first | omega | (refine ⟨by omega, by omega⟩) | (refine ⟨by omega, by omega, by omega⟩) | (simp only [List.length_map, List.length_range, List.length_append, List.length_cons, List.length_nil, List.length_replicate, List.length_set]; omega) | (simp; omega) | (intro hgd; cases hgd) | (intro hgd; refine ⟨hgd, ?_⟩; first | omega | (refine ⟨by omega, by omega⟩) | (simp; omega))) ?_))
      refine AWpL.callA [] (s15 none false l[kk].loads (by omega)) rfl rfl (by rw [hn]; rfl) rfl (fun r hr => by cases hr) fun rg v hv => ?_
      obtain ⟨rfl, rfl⟩ := hv
      refine ⟨Nat.le_refl _, ?_⟩
      rw [retS_nil]
      refine AWpL.ofM hn rfl ?_
      simp (config := { maxSteps := 2000000 }) only [go_sem, ↓reduceIte, Int.reduceBEq, Int.reduceBNe, Nat.reduceBEq, Nat.reduceAdd, Nat.reduceSub, Nat.reduceLeDiff, Nat.reduceEqDiff, Nat.reduceLT, reduceCtorEq]
      refine Retn.weak ((weak_cut 4 ys.length (by rfl)).trans (weak_box 0 3 (by rfl) (by rfl) (Ent.cap _ _ _ _ _))) _ (Retn.ret (π := [0, 1, 2, 3, 4]) hp hnp ⟨rfl, ?_⟩)
      have hord : (x.ord.map fun n : Nat => [I (n : Nat)]).take ys.length = (backSt f x).ord.map fun n : Nat => [I (n : Nat)] := by
        rw [hbs, hys, List.map_append, List.take_left' (by simp)]
      have hol : (backSt f x).ord.length = ys.length := by rw [hbs]
      simp (config := { maxSteps := 2000000 }) only [go_sem, ↓reduceIte, Int.reduceBEq, Int.reduceBNe, Nat.reduceBEq, Nat.reduceAdd, Nat.reduceSub, Nat.reduceLeDiff, Nat.reduceEqDiff, Nat.reduceLT, reduceCtorEq, Aw.renR, Aw.pos, hord, hol, hbo, hok]
end Go.Proofs.Ytdcnllgnblgfaaa
