/- Permits: find, Delete, Return, Issue. -/
import Derived.Test.YtmepjgpmhkahdaaAwZf
import Derived.Test.YtmepjgpmhkahdaaPerA
set_option linter.unusedVariables false
set_option linter.unusedSimpArgs false
namespace Go.Proofs.Ytmepjgpmhkahdaa
open Go.Proofs.Ytmepjgpmhkahdaa.Aw
attribute [local go_sem] Int.natCast_zero Int.natCast_one bne_self_eq_false beq_self_eq_true Bool.not_true Bool.not_false Option.isSome_none Option.isSome_some Aw.bkM_nil Option.getD_some Option.getD_none Nat.sub_zero Int.toNat_zero Aw.frzS Aw.frzT Aw.frzA Aw.frzL Aw.frzR Aw.frzO Aw.frzOL Aw.frzOT Aw.frzOR Aw.killS Aw.mapT Aw.mapR Aw.killM Aw.resAVs Aw.resAV Aw.quietOps Aw.wpP Aw.wpT Aw.wpS Aw.AOp.mild List.getElem?_cons_zero List.getElem?_cons_succ Bool.and_false Bool.and_self Bool.false_and Aw.opOb Aw.gdB Aw.Rnd Aw.subTm List.length_map Int.toNat_natCast and_self Aw.SeqC Aw.stops Aw.Ends Aw.looks Aw.renA Aw.renL Aw.renT Aw.renS Aw.wpO Aw.aop Aw.putTm Aw.St.ev Aw.St.put Aw.St.putO Aw.binAV Aw.intBin Aw.strBin Aw.pickAV Aw.optInt Aw.AV.strip Aw.AV.guard Aw.AV.cells Aw.gdOb Aw.AOp.opds Aw.AOp.still Aw.ptrCells Aw.St.reg Aw.fillAV Aw.fillOb Aw.elsOb Aw.splice Aw.firm Aw.cellish Aw.AV.shut Aw.shutAll Aw.Seq Aw.Blk Aw.retS_nil Aw.mapA Aw.mapL Aw.borA Aw.borOb Aw.allOb Aw.tupOf Aw.params Aw.Opd.of Array.toList Value.cells List.map_cons List.map_nil List.getD_cons_zero List.getD_cons_succ List.getD_nil List.length_cons List.length_nil List.take_succ_cons List.take_zero List.take_nil List.drop_zero List.drop_succ_cons List.drop_nil List.set_cons_zero List.set_cons_succ List.append_nil List.nil_append List.cons_append List.all_cons List.all_nil cond_false cond_true if_true if_false true_and and_true Bool.and_true Bool.true_and Option.map_some Option.map_none false_implies forall_const implies_true forall_eq imp_self Bool.cond_false_right Bool.cond_true_left beq_true beq_false Bool.not_eq_true' Bool.false_eq_true Nat.zero_add Nat.add_zero Aw.eqCells Aw.exactCap Aw.revealS Aw.srcEls Aw.srcSz
attribute [local go_sem ↓] Aw.look_nil Aw.look_ite Aw.wpL_nil Aw.wpL_op Aw.wpL_gd Aw.wpQ_nil Aw.wpQ_op Aw.wpQ_gd Aw.wpC_draw Aw.wpC_reg Aw.wpC_skip Aw.wpC_ret Aw.wpC_exit Aw.wpC_seq Aw.wpC_block Aw.wpC_loop Aw.wpC_cond Aw.stopAt_nil Aw.stopAt_cons Aw.wpD_skip Aw.wpD_ret Aw.wpD_exit Aw.wpD_region Aw.wpD_draw Aw.wpM_nil Aw.wpM_op Aw.wpM_gd Aw.wpD_seq Aw.wpD_block Aw.wpD_loop Aw.wpD_cond
/- slices.Delete[[]gridhall/api.PermitPaper,gridhall/api.PermitPaper] -/
def a18 : ACode :=
  (.seq (.region false [] [
     ⟨(some 6), none, (.mov (.v (.slice none 0 0)))⟩])
  (.seq (.region false [] [
     ⟨(some 8), none, (.mov (.t 0))⟩,
     ⟨(some 9), none, (.mov (.t 1))⟩,
     ⟨(some 10), none, (.mov (.t 2))⟩,
     ⟨(some 11), none, (.mov (.t 0))⟩,
     ⟨(some 12), none, (.len (.t 11))⟩,
     ⟨(some 13), none, (.slc 3 (.t 8) (some (.t 9)) (some (.t 10)) (some (.t 12)))⟩])
  (.seq (.seq (.region false [] [
     ⟨(some 14), none, (.mov (.t 1))⟩,
     ⟨(some 15), none, (.mov (.t 2))⟩,
     ⟨(some 16), none, (.bin .eql 3 (.t 14) (.t 15))⟩])
  (.cond (.t 16)
    (.seq (.region false [] [
       ⟨(some 17), none, (.mov (.t 0))⟩,
       ⟨(some 6), none, (.mov (.t 17))⟩])
    .ret)
    .skip))
  (.seq (.region false [] [
     ⟨(some 18), none, (.mov (.t 0))⟩,
     ⟨(some 19), none, (.len (.t 18))⟩,
     ⟨(some 7), none, (.mov (.t 19))⟩])
  (.seq (.region true [[], [], [0, 1], [], [], [3, 4], [2, 5], [6, 6, 0, 1, 2, 3, 4, 5, 6]] [
     ⟨(some 20), none, (.mov (.t 0))⟩,
     ⟨(some 21), none, (.mov (.t 1))⟩,
     ⟨(some 22), none, (.slc 3 (.t 20) none (some (.t 21)) none)⟩,
     ⟨(some 23), none, (.mov (.t 0))⟩,
     ⟨(some 24), none, (.mov (.t 2))⟩,
     ⟨(some 25), none, (.slc 3 (.t 23) (some (.t 24)) none none)⟩,
     ⟨(some 26), none, (.app 34 3 48 (.agg #[(.int .i64 0), (.string ⟨#[]⟩), (.slice none 0 0)]) (.t 22) (.t 25))⟩,
     ⟨(some 0), none, (.mov (.t 26))⟩])
  (.seq (.region false [] [
     ⟨(some 27), none, (.mov (.t 0))⟩,
     ⟨(some 28), none, (.mov (.t 0))⟩,
     ⟨(some 29), none, (.len (.t 28))⟩,
     ⟨(some 30), none, (.mov (.t 7))⟩,
     ⟨(some 31), none, (.slc 3 (.t 27) (some (.t 29)) (some (.t 30)) none)⟩,
     ⟨none, none, (.clr 3 (.agg #[(.int .i64 0), (.string ⟨#[]⟩), (.slice none 0 0)]) (.t 31))⟩])
  (.seq (.region false [] [
     ⟨(some 32), none, (.mov (.t 0))⟩,
     ⟨(some 6), none, (.mov (.t 32))⟩])
  .ret)))))))
theorem k18 : FnIs Try.prog 18 33 [.t 6] a18 := ⟨_, _, Try.func18, rfl, by kernel_rfl, by kernel_rfl, rfl⟩
/- (*gridhall/permit.Desk).Return -/
def a10 : ACode :=
  (.seq (.region false [] [
     ⟨(some 6), none, (.mov (.v (.int .i64 0)))⟩])
  (.seq (.region false [] [
     ⟨(some 10), none, (.mov (.t 0))⟩,
     ⟨(some 11), none, (.mov (.t 1))⟩,
     ⟨(some 12), none, (.mov (.t 2))⟩,
     ⟨(some 13), none, (.call 17 [(.t 10), (.t 11), (.t 12)])⟩,
     ⟨(some 9), none, (.mov (.t 13))⟩,
     ⟨(some 14), none, (.ext 0 (.t 9))⟩,
     ⟨(some 15), none, (.ext 1 (.t 9))⟩,
     ⟨(some 7), none, (.mov (.t 14))⟩,
     ⟨(some 8), none, (.mov (.t 15))⟩])
  (.seq (.seq (.region false [] [
     ⟨(some 16), none, (.mov (.t 8))⟩,
     ⟨(some 17), none, (.bin .eql 24 (.t 16) (.v (.int .i64 0)))⟩])
  (.cond (.t 17)
    (.region false [] [
       ⟨(some 18), none, (.mov (.t 0))⟩,
       ⟨(some 19), none, (.mov (.t 0))⟩,
       ⟨(some 20), none, (.nilc (.t 19))⟩,
       ⟨(some 21), none, (.fld 1 (.t 20))⟩,
       ⟨(some 22), none, (.load 1 false (.t 21))⟩,
       ⟨(some 23), none, (.mov (.t 7))⟩,
       ⟨(some 24), none, (.mov (.t 7))⟩,
       ⟨(some 25), none, (.bin .add 3 (.t 24) (.v (.int .i64 1)))⟩,
       ⟨(some 26), none, (.call 18 [(.t 22), (.t 23), (.t 25)])⟩,
       ⟨(some 27), none, (.nilc (.t 18))⟩,
       ⟨(some 28), none, (.fld 1 (.t 27))⟩,
       ⟨none, none, (.store 1 (.t 28) (.t 26))⟩])
    .skip))
  (.seq (.region false [] [
     ⟨(some 29), none, (.mov (.t 8))⟩,
     ⟨(some 6), none, (.mov (.t 29))⟩])
  .ret))))
theorem k10 : FnIs Try.prog 10 30 [.t 6] a10 := ⟨_, _, Try.func10, rfl, by kernel_rfl, by kernel_rfl, rfl⟩
/- (*gridhall/permit.Desk).Issue -/
def a7 : ACode :=
  (.seq (.region false [] [
     ⟨(some 6), none, (.mov (.v (.int .i64 0)))⟩,
     ⟨(some 7), none, (.mov (.v (.int .i64 0)))⟩])
  (.seq (.seq (.region false [] [
     ⟨(some 10), none, (.mov (.t 1))⟩,
     ⟨(some 11), none, (.call 13 [(.t 10)])⟩,
     ⟨(some 12), none, (.un .not (.t 11))⟩])
  (.cond (.t 12)
    (.seq (.region false [] [
       ⟨(some 6), none, (.mov (.v (.int .i64 0)))⟩,
       ⟨(some 7), none, (.mov (.v (.int .i64 6)))⟩])
    .ret)
    .skip))
  (.seq (.seq (.region false [] [
     ⟨(some 13), none, (.mov (.t 2))⟩,
     ⟨(some 14), none, (.call 6 [(.t 13)])⟩,
     ⟨(some 8), none, (.mov (.t 14))⟩])
  (.seq (.region false [] [
     ⟨(some 15), none, (.mov (.t 8))⟩,
     ⟨(some 16), none, (.bin .neq 24 (.t 15) (.v (.int .i64 0)))⟩])
  (.cond (.t 16)
    (.seq (.region false [] [
       ⟨(some 17), none, (.mov (.t 8))⟩,
       ⟨(some 6), none, (.mov (.v (.int .i64 0)))⟩,
       ⟨(some 7), none, (.mov (.t 17))⟩])
    .ret)
    .skip)))
  (.seq (.seq (.region false [] [
     ⟨(some 18), none, (.mov (.t 0))⟩,
     ⟨(some 19), none, (.mov (.t 2))⟩,
     ⟨(some 20), none, (.call 15 [(.t 18), (.t 19)])⟩,
     ⟨(some 9), none, (.mov (.t 20))⟩])
  (.seq (.region false [] [
     ⟨(some 21), none, (.mov (.t 9))⟩,
     ⟨(some 22), none, (.bin .neq 24 (.t 21) (.v (.int .i64 0)))⟩])
  (.cond (.t 22)
    (.seq (.region false [] [
       ⟨(some 23), none, (.mov (.t 9))⟩,
       ⟨(some 6), none, (.mov (.v (.int .i64 0)))⟩,
       ⟨(some 7), none, (.mov (.t 23))⟩])
    .ret)
    .skip)))
  (.seq (.block 0 (.seq (.region false [] [
      ⟨(some 25), none, (.mov (.t 2))⟩,
      ⟨(some 26), none, (.len (.t 25))⟩,
      ⟨(some 27), none, (.bin .eql 3 (.t 26) (.v (.int .i64 0)))⟩,
      ⟨(some 24), none, (.mov (.t 27))⟩])
   (.cond (.t 24)
     (.seq (.region false [] [
        ⟨(some 6), none, (.mov (.v (.int .i64 0)))⟩,
        ⟨(some 7), none, (.mov (.v (.int .i64 3)))⟩])
     .ret)
     (.seq (.region false [] [
        ⟨(some 29), none, (.mov (.t 2))⟩,
        ⟨(some 30), none, (.len (.t 29))⟩,
        ⟨(some 31), none, (.bin .gtr 3 (.t 30) (.v (.int .i64 12)))⟩,
        ⟨(some 28), none, (.mov (.t 31))⟩])
     (.cond (.t 28)
       (.seq (.region false [] [
          ⟨(some 6), none, (.mov (.v (.int .i64 0)))⟩,
          ⟨(some 7), none, (.mov (.v (.int .i64 2)))⟩])
       .ret)
       (.seq (.region false [] [
          ⟨(some 33), none, (.mov (.t 0))⟩,
          ⟨(some 34), none, (.nilc (.t 33))⟩,
          ⟨(some 35), none, (.fld 1 (.t 34))⟩,
          ⟨(some 36), none, (.load 1 false (.t 35))⟩,
          ⟨(some 37), none, (.len (.t 36))⟩,
          ⟨(some 38), none, (.bin .eql 3 (.t 37) (.v (.int .i64 20)))⟩,
          ⟨(some 32), none, (.mov (.t 38))⟩])
       (.cond (.t 32)
         (.seq (.region false [] [
            ⟨(some 6), none, (.mov (.v (.int .i64 0)))⟩,
            ⟨(some 7), none, (.mov (.v (.int .i64 9)))⟩])
         .ret)
         .skip)))))))
  (.seq (.region false [] [
     ⟨(some 39), none, (.mov (.t 0))⟩,
     ⟨(some 40), none, (.nilc (.t 39))⟩,
     ⟨(some 41), none, (.fld 2 (.t 40))⟩,
     ⟨(some 42), none, (.load 1 false (.t 41))⟩,
     ⟨(some 43), none, (.bin .add 3 (.t 42) (.v (.int .i64 1)))⟩,
     ⟨(some 44), none, (.nilc (.t 39))⟩,
     ⟨(some 45), none, (.fld 2 (.t 44))⟩,
     ⟨none, none, (.store 1 (.t 45) (.t 43))⟩])
  (.seq (.region true [[], [], [1], [2], [3], [], [5], [6], [7], [], [], [10], [8, 9, 11], [12], [4, 13, 11], [0, 0, 1, 2, 3, 4, 5, 6, 7, 8, 9, 10, 11, 12, 13, 14], [15, 0, 1, 2, 3, 4, 5, 6, 7, 8, 9, 10, 11, 12, 13, 14], [16, 14, 14, 0, 1, 2, 3, 4, 5, 6, 7, 8, 9, 10, 11, 12, 13, 14]] [
     ⟨(some 46), none, (.mov (.t 0))⟩,
     ⟨(some 47), none, (.mov (.t 0))⟩,
     ⟨(some 48), none, (.nilc (.t 47))⟩,
     ⟨(some 49), none, (.fld 1 (.t 48))⟩,
     ⟨(some 50), none, (.load 1 false (.t 49))⟩,
     ⟨(some 51), none, (.mov (.t 0))⟩,
     ⟨(some 52), none, (.nilc (.t 51))⟩,
     ⟨(some 53), none, (.fld 2 (.t 52))⟩,
     ⟨(some 54), none, (.load 1 false (.t 53))⟩,
     ⟨(some 55), none, (.mov (.t 1))⟩,
     ⟨(some 56), none, (.mov (.t 2))⟩,
     ⟨(some 57), none, (.call 11 [(.t 56)])⟩,
     ⟨(some 58), none, (.build (.agg #[(.int .i64 0), (.string ⟨#[]⟩), (.slice none 0 0)]) [(0, (1, (.t 54))), (1, (1, (.t 55))), (2, (1, (.t 57)))])⟩,
     ⟨(some 59), none, (.bsl 34 3 1 [(0, (.t 58))])⟩,
     ⟨(some 60), none, (.app 34 3 48 (.agg #[(.int .i64 0), (.string ⟨#[]⟩), (.slice none 0 0)]) (.t 50) (.t 59))⟩,
     ⟨(some 61), none, (.nilc (.t 46))⟩,
     ⟨(some 62), none, (.fld 1 (.t 61))⟩,
     ⟨none, none, (.store 1 (.t 62) (.t 60))⟩])
  (.seq (.region false [] [
     ⟨(some 63), none, (.mov (.t 0))⟩,
     ⟨(some 64), none, (.nilc (.t 63))⟩,
     ⟨(some 65), none, (.fld 2 (.t 64))⟩,
     ⟨(some 66), none, (.load 1 false (.t 65))⟩,
     ⟨(some 6), none, (.mov (.t 66))⟩,
     ⟨(some 7), none, (.mov (.v (.int .i64 0)))⟩])
  .ret))))))))
theorem k7 : FnIs Try.prog 7 67 [.t 6, .t 7] a7 := ⟨_, _, Try.func7, rfl, by kernel_rfl, by kernel_rfl, rfl⟩

theorem fIndex_range {α : Type} (p : α → Bool) : ∀ (l : List α) (j : Nat), fIndex p j l = -1 ∨ ((j : Int) ≤ fIndex p j l ∧ fIndex p j l < (j : Int) + l.length)
  | [], j => .inl rfl
  | x :: l, j => by
    unfold fIndex
    split
    · right; simp; omega
    · rcases fIndex_range p l (j + 1) with h | h
      · exact .inl h
      · right; simp; omega
def findF (d : Dk) (n : Int) (h : ByteArray) : Int × Int :=
  if fIndex (fun p => p.num == n) 0 d.papers < 0 then (0, 8) else if seq (d.papers.getD (fIndex (fun p => p.num == n) 0 d.papers).toNat default).holder h = true then (fIndex (fun p => p.num == n) 0 d.papers, 0) else (0, 18)
theorem s17 (d : Dk) (n : Int) (h : ByteArray) (hp20 : d.papers.length ≤ 20) : Aw.Spec Try.prog 17 [] [dkA d, I n, S h] (Gives (· = .tup [I (findF d n h).1, I (findF d n h).2])) := by
  refine Aw.Spec.givesD k17 mixed rfl rfl rfl fun E hn hnp hp => ?_
  unfold a17
  simp (config := { maxSteps := 2000000 }) only [go_sem, ↓reduceIte, Int.reduceToNat, Nat.reduceMul, Int.reduceBEq, Int.reduceBNe, Nat.reduceBEq, Nat.reduceAdd, Nat.reduceSub, Nat.reduceLeDiff, Nat.reduceEqDiff, Nat.reduceLT, reduceCtorEq]
  (refine AWpL.calle (s22 none false d.papers 23 [.pim [I n]] (fun p => p.num == n) (by kernel_rfl) rfl (fun x _ => s23 x n) (by omega)) rfl (by rw [hn]; rfl) (by simp (config := { maxSteps := 2000000 }) only [go_sem, ↓reduceIte, Int.reduceToNat, Nat.reduceMul, Int.reduceBEq, Int.reduceBNe, Nat.reduceBEq, Nat.reduceAdd, Nat.reduceSub, Nat.reduceLeDiff, Nat.reduceEqDiff, Nat.reduceLT, reduceCtorEq]) (AWpL.ofM hn rfl ?_); simp (config := { maxSteps := 2000000 }) only [go_sem, ↓reduceIte, Int.reduceToNat, Nat.reduceMul, Int.reduceBEq, Int.reduceBNe, Nat.reduceBEq, Nat.reduceAdd, Nat.reduceSub, Nat.reduceLeDiff, Nat.reduceEqDiff, Nat.reduceLT, reduceCtorEq])
  have hr := fIndex_range (fun p : Paper => p.num == n) d.papers 0
  have hF : findF d n h = if fIndex (fun p => p.num == n) 0 d.papers < 0 then (0, 8) else if seq (d.papers.getD (fIndex (fun p => p.num == n) 0 d.papers).toNat default).holder h = true then (fIndex (fun p => p.num == n) 0 d.papers, 0) else (0, 18) := rfl
  generalize fIndex (fun p : Paper => p.num == n) 0 d.papers = k at *
  rw [hF]
  simp only [decide_eq_true_eq, decide_eq_false_iff_not]
  refine ⟨fun h1 => ?_, fun h1 => ?_⟩
  · rw [if_pos h1]
  have hkl : k.toNat < d.papers.length := by omega
  have e1 := getD_mapD default ppc hkl
  rw [if_neg h1]
  simp (config := { maxSteps := 2000000 }) only [go_sem, ↓reduceIte, Int.reduceToNat, Nat.reduceMul, Int.reduceBEq, Int.reduceBNe, Nat.reduceBEq, Nat.reduceAdd, Nat.reduceSub, Nat.reduceLeDiff, Nat.reduceEqDiff, Nat.reduceLT, reduceCtorEq, e1]
  (repeat (refine And.intro (by first | omega | (refine ⟨by omega, by omega⟩) | (refine ⟨by omega, by omega, by omega⟩) | (simp only [List.length_map, List.length_range, List.length_append, List.length_cons, List.length_nil, List.length_replicate, List.length_set]; omega) | (simp; omega) | (intro hgd; cases hgd) | (intro hgd; refine ⟨hgd, ?_⟩; first | omega | (refine ⟨by omega, by omega⟩) | (simp; omega))) ?_))
  have hq : ((d.papers.getD k.toNat default).holder.toList == h.toList) = seq (d.papers.getD k.toNat default).holder h := rfl
  rw [hq]
  refine ⟨fun h2 => ?_, fun h2 => ?_⟩
  · rw [if_neg (by simpa using h2)]
  · rw [if_pos (by simpa using h2)]
theorem del_els {els : List (List AV)} {i : Nat} {z : List AV} (h : i < els.length) : (overEls (overEls els i (els.drop (i + 1))) (els.length - 1) [z]).take (els.length - 1) = els.eraseIdx i := by
  have h1 : (overEls els i (els.drop (i + 1))).take (els.length - 1) = els.eraseIdx i := by
    unfold overEls
    rw [← List.append_assoc, List.take_append_of_le_length (by simp; omega), List.take_of_length_le (by simp; omega), List.eraseIdx_eq_take_drop_succ]
  have h2 : (overEls els i (els.drop (i + 1))).length = els.length := overEls_length (by simp; omega)
  generalize overEls els i (els.drop (i + 1)) = X at *
  rw [← h1]
  unfold overEls
  rw [List.take_append_of_le_length (by simp; omega), List.take_take, Nat.min_self]
set_option maxRecDepth 20000 in
theorem s18 (l : List Paper) (i : Nat) (hi : i < l.length) (hl : l.length ≤ 20) : Aw.Spec Try.prog 18 [.arr 34 3 (l.map ppc)] [.hnd 0 0 l.length l.length false, I i, I ((i : Int) + 1)] (fun rg v => rg = [.arr 34 3 ((l.eraseIdx i).map ppc)] ∧ v = .hnd 0 0 (l.eraseIdx i).length (l.eraseIdx i).length false) := by
  refine Aw.Spec.regsD k18 mixed rfl rfl rfl fun E hn hnp hp => ?_
  unfold a18
  have e1 : ((i : Int) == (i : Int) + 1) = false := by simp; omega
  have e2 : ((i : Int) + 1).toNat = i + 1 := by omega
  simp (config := { maxSteps := 2000000 }) only [go_sem, ↓reduceIte, Int.reduceToNat, Nat.reduceMul, Int.reduceBEq, Int.reduceBNe, Nat.reduceBEq, Nat.reduceAdd, Nat.reduceSub, Nat.reduceLeDiff, Nat.reduceEqDiff, Nat.reduceLT, reduceCtorEq, e1, e2]
  (repeat (refine And.intro (by first | omega | (refine ⟨by omega, by omega⟩) | (refine ⟨by omega, by omega, by omega⟩) | (simp only [List.length_map, List.length_range, List.length_append, List.length_cons, List.length_nil, List.length_replicate, List.length_set]; omega) | (simp; omega) | (intro hgd; cases hgd) | (intro hgd; refine ⟨hgd, ?_⟩; first | omega | (refine ⟨by omega, by omega⟩) | (simp; omega))) ?_))
  refine AWp.cut ⟨[(0, .hnd 0 0 (l.length - 1) l.length false), (7, I l.length)], [.arr 34 3 (overEls (l.map ppc) i ((l.map ppc).drop (i + 1)))]⟩ ?_ ?_
  · refine AWp.plan (.take 0 [false, true, false, true, true, true, false, false] (.take 1 [true, false, false, true, true, true, false, false] (.take 2 [true, true, false, true, true, true, false, false] (.take 3 [true, true, true, false, true, false, false, false] (.take 4 [true, true, true, true, false, false, false, false] (.take 5 [true, true, true, true, true, false, false, false] (.one 6 (.take 7 [true, true, true, true, true, true, true, false] .done)))))))) [true, true, true, true, true, true, false, true] mixed hn rfl rfl ?_
    simp (config := { maxSteps := 2000000 }) only [go_sem, ↓reduceIte, Int.reduceToNat, Nat.reduceMul, Int.reduceBEq, Int.reduceBNe, Nat.reduceBEq, Nat.reduceAdd, Nat.reduceSub, Nat.reduceLeDiff, Nat.reduceEqDiff, Nat.reduceLT, reduceCtorEq, e2]
    (repeat (refine And.intro (by first | omega | (refine ⟨by omega, by omega⟩) | (refine ⟨by omega, by omega, by omega⟩) | (simp only [List.length_map, List.length_range, List.length_append, List.length_cons, List.length_nil, List.length_replicate, List.length_set]; omega) | (simp; omega) | (intro hgd; cases hgd) | (intro hgd; refine ⟨hgd, ?_⟩; first | omega | (refine ⟨by omega, by omega⟩) | (simp; omega))) ?_))
    refine AOne.rule ?_
    have hlen : i + (l.length - (i + 1)) = l.length - 1 := by omega
    have hdl : ((l.map ppc).drop (i + 1)).take (l.length - (i + 1)) = (l.map ppc).drop (i + 1) := List.take_of_length_le (by simp)
    have hdn : ((l.map ppc).drop (i + 1)).length = l.length - (i + 1) := by simp
    refine AWpL.appIn (r := 0) (ys := (l.map ppc).drop (i + 1)) (els := l.map ppc) (ob := i + 1 + (l.length - (i + 1)) ≤ (l.map ppc).length) rfl rfl (by show some (((l.map ppc).drop (i + 1)).take (l.length - (i + 1)), _) = _; rw [hdl]) rfl (by rw [hn]; rfl) (by simp; omega) (fun el hm x hx => ?_) (by rw [hdn]; omega) (by rw [hdn]; simp; omega) (by omega) (AWpL.ofM hn rfl ?_)
    · obtain ⟨z, _, rfl⟩ := List.mem_map.1 (List.mem_of_mem_drop hm)
      simp only [List.mem_cons, List.not_mem_nil, or_false] at hx
      rcases hx with rfl | rfl | rfl <;> rfl
    simp (config := { maxSteps := 2000000 }) only [go_sem, ↓reduceIte, Int.reduceToNat, Nat.reduceMul, Int.reduceBEq, Int.reduceBNe, Nat.reduceBEq, Nat.reduceAdd, Nat.reduceSub, Nat.reduceLeDiff, Nat.reduceEqDiff, Nat.reduceLT, reduceCtorEq, hdn, hlen]
    exact weak_to [0] hp hnp rfl (by simp (config := { maxSteps := 2000000 }) only [go_sem, ↓reduceIte, Int.reduceToNat, Nat.reduceMul, Int.reduceBEq, Int.reduceBNe, Nat.reduceBEq, Nat.reduceAdd, Nat.reduceSub, Nat.reduceLeDiff, Nat.reduceEqDiff, Nat.reduceLT, reduceCtorEq, Aw.pos]) (by simp (config := { maxSteps := 2000000 }) only [go_sem, ↓reduceIte, Int.reduceToNat, Nat.reduceMul, Int.reduceBEq, Int.reduceBNe, Nat.reduceBEq, Nat.reduceAdd, Nat.reduceSub, Nat.reduceLeDiff, Nat.reduceEqDiff, Nat.reduceLT, reduceCtorEq, Aw.renR, Aw.pos])
  have hov : (overEls (l.map ppc) i ((l.map ppc).drop (i + 1))).length = l.length := by rw [overEls_length (by simp; omega)]; simp
  have hdel := del_els (els := l.map ppc) (i := i) (z := [I 0, S ⟨#[]⟩, .val (.slice none 0 0)]) (by simpa using hi)
  rw [List.length_map] at hdel
  generalize overEls (l.map ppc) i ((l.map ppc).drop (i + 1)) = X at *
  simp (config := { maxSteps := 2000000 }) only [go_sem, ↓reduceIte, Int.reduceToNat, Nat.reduceMul, Int.reduceBEq, Int.reduceBNe, Nat.reduceBEq, Nat.reduceAdd, Nat.reduceSub, Nat.reduceLeDiff, Nat.reduceEqDiff, Nat.reduceLT, reduceCtorEq]
  (repeat (refine And.intro (by first | omega | (refine ⟨by omega, by omega⟩) | (refine ⟨by omega, by omega, by omega⟩) | (simp only [List.length_map, List.length_range, List.length_append, List.length_cons, List.length_nil, List.length_replicate, List.length_set]; omega) | (simp; omega) | (intro hgd; cases hgd) | (intro hgd; refine ⟨hgd, ?_⟩; first | omega | (refine ⟨by omega, by omega⟩) | (simp; omega))) ?_))
  have hone : l.length - (l.length - 1) = 1 := by omega
  refine AWpL.clr (r := 0) (els := X) rfl rfl (by rw [hn]; rfl) (by omega) (by intro v hv; simp [Value.cells] at hv; rcases hv with rfl | rfl | rfl <;> rfl) (.inl (by omega)) (AWpL.ofM hn rfl ?_)
  rw [hone]
  simp (config := { maxSteps := 2000000 }) only [go_sem, ↓reduceIte, Int.reduceToNat, Nat.reduceMul, Int.reduceBEq, Int.reduceBNe, Nat.reduceBEq, Nat.reduceAdd, Nat.reduceSub, Nat.reduceLeDiff, Nat.reduceEqDiff, Nat.reduceLT, reduceCtorEq]
  refine Retn.weak ((weak_cut 0 (l.length - 1) (by rfl)).trans (weak_ent 6 (by rfl) (Ent.cap _ _ _ _ _))) _ (Retn.ret (π := [0]) hp hnp ⟨rfl, ?_⟩)
  have hle : (l.eraseIdx i).length = l.length - 1 := List.length_eraseIdx_of_lt hi
  have hme : (l.map ppc).eraseIdx i = (l.eraseIdx i).map ppc := by
    rw [List.eraseIdx_eq_take_drop_succ, List.eraseIdx_eq_take_drop_succ, List.map_append, List.map_take, List.map_drop]
  simp (config := { maxSteps := 2000000 }) only [go_sem, ↓reduceIte, Int.reduceToNat, Nat.reduceMul, Int.reduceBEq, Int.reduceBNe, Nat.reduceBEq, Nat.reduceAdd, Nat.reduceSub, Nat.reduceLeDiff, Nat.reduceEqDiff, Nat.reduceLT, reduceCtorEq, Aw.renR, Aw.pos, hle]
  exact congrArg (fun x => [Reg.arr 34 3 x]) (hdel.trans hme)
def retD (d : Dk) (n : Int) (h : ByteArray) : Dk := if (findF d n h).2 = 0 then ⟨d.dev, d.papers.eraseIdx (findF d n h).1.toNat, d.last⟩ else d
set_option maxRecDepth 20000 in
theorem s10 (d : Dk) (n : Int) (h : ByteArray) (hp20 : d.papers.length ≤ 20) : Aw.Spec Try.prog 10 (dkR d) [.ptr 0 0 0, I n, S h] (fun rg v => rg = dkR (retD d n h) ∧ v = I (findF d n h).2) := by
  refine Aw.Spec.regsD k10 mixed rfl rfl rfl fun E hn hnp hp => ?_
  unfold a10 dkR
  have htk : (d.papers.map ppc).take d.papers.length = d.papers.map ppc := List.take_of_length_le (by simp)
  simp (config := { maxSteps := 2000000 }) only [go_sem, ↓reduceIte, Int.reduceToNat, Nat.reduceMul, Int.reduceBEq, Int.reduceBNe, Nat.reduceBEq, Nat.reduceAdd, Nat.reduceSub, Nat.reduceLeDiff, Nat.reduceEqDiff, Nat.reduceLT, reduceCtorEq]
  refine AWpL.calleA (s17 d n h hp20) (by simp (config := { maxSteps := 2000000 }) only [go_sem, ↓reduceIte, Int.reduceToNat, Nat.reduceMul, Int.reduceBEq, Int.reduceBNe, Nat.reduceBEq, Nat.reduceAdd, Nat.reduceSub, Nat.reduceLeDiff, Nat.reduceEqDiff, Nat.reduceLT, reduceCtorEq, htk]) rfl (by rw [hn]; rfl) (by simp (config := { maxSteps := 2000000 }) only [go_sem, ↓reduceIte, Int.reduceToNat, Nat.reduceMul, Int.reduceBEq, Int.reduceBNe, Nat.reduceBEq, Nat.reduceAdd, Nat.reduceSub, Nat.reduceLeDiff, Nat.reduceEqDiff, Nat.reduceLT, reduceCtorEq, List.length_map]; omega) (AWpL.ofM hn rfl ?_)
  have hr := fIndex_range (fun p : Paper => p.num == n) d.papers 0
  have hF : findF d n h = if fIndex (fun p => p.num == n) 0 d.papers < 0 then (0, 8) else if seq (d.papers.getD (fIndex (fun p => p.num == n) 0 d.papers).toNat default).holder h = true then (fIndex (fun p => p.num == n) 0 d.papers, 0) else (0, 18) := rfl
  have hR : retD d n h = if (findF d n h).2 = 0 then ⟨d.dev, d.papers.eraseIdx (findF d n h).1.toNat, d.last⟩ else d := rfl
  have hk : (findF d n h).2 = 0 → 0 ≤ (findF d n h).1 ∧ (findF d n h).1 < d.papers.length := fun h0 => by
    rw [hF] at h0 ⊢
    split at h0
    · cases h0
    split at h0
    · rename_i h1 h2
      rw [if_neg h1, if_pos h2]
      dsimp only
      omega
    · cases h0
  generalize findF d n h = fr at *
  obtain ⟨k, e⟩ := fr
  dsimp only at hk hR
  rw [hR]
  simp (config := { maxSteps := 2000000 }) only [go_sem, ↓reduceIte, Int.reduceToNat, Nat.reduceMul, Int.reduceBEq, Int.reduceBNe, Nat.reduceBEq, Nat.reduceAdd, Nat.reduceSub, Nat.reduceLeDiff, Nat.reduceEqDiff, Nat.reduceLT, reduceCtorEq]
  simp only [beq_iff_eq, beq_eq_false_iff_ne]
  refine ⟨fun h0 => ?_, fun h0 => ?_⟩
  · obtain ⟨h1, h2⟩ := hk h0
    obtain ⟨i, rfl⟩ : ∃ i : Nat, k = i := ⟨k.toNat, by omega⟩
    have e1 : IntKind.i64.wrap ((i : Int) + 1) = (i : Int) + 1 := w64 (by omega) (by omega)
    rw [e1, if_pos h0]
    refine AWpL.callA [1] (s18 d.papers i (by omega) hp20) rfl rfl (by rw [hn]; rfl) rfl (fun r hr => .inr (by cases List.mem_singleton.1 hr; exact hp.arr 1 rfl)) fun rg v hv => ?_
    obtain ⟨rfl, rfl⟩ := hv
    refine ⟨Nat.le_refl _, AWpL.ofM hn rfl ?_⟩
    simp (config := { maxSteps := 2000000 }) only [go_sem, ↓reduceIte, Int.reduceToNat, Nat.reduceMul, Int.reduceBEq, Int.reduceBNe, Nat.reduceBEq, Nat.reduceAdd, Nat.reduceSub, Nat.reduceLeDiff, Nat.reduceEqDiff, Nat.reduceLT, reduceCtorEq, Aw.retS, Aw.retRg, Aw.kpM, Aw.bkM, Aw.pos, Aw.isBox]
    refine Retn.ret (π := [0, 1]) hp hnp ⟨rfl, ?_⟩
    simp (config := { maxSteps := 2000000 }) only [go_sem, ↓reduceIte, Int.reduceToNat, Nat.reduceMul, Int.reduceBEq, Int.reduceBNe, Nat.reduceBEq, Nat.reduceAdd, Nat.reduceSub, Nat.reduceLeDiff, Nat.reduceEqDiff, Nat.reduceLT, reduceCtorEq, Aw.renR, Aw.pos]
  · rw [if_neg h0]
    refine Retn.ret (π := [0, 1]) hp hnp ⟨rfl, ?_⟩
    simp (config := { maxSteps := 2000000 }) only [go_sem, ↓reduceIte, Int.reduceToNat, Nat.reduceMul, Int.reduceBEq, Int.reduceBNe, Nat.reduceBEq, Nat.reduceAdd, Nat.reduceSub, Nat.reduceLeDiff, Nat.reduceEqDiff, Nat.reduceLT, reduceCtorEq, Aw.renR, Aw.pos]
/-- What Issue answers. -/
def issE (d : Dk) (h : ByteArray) (l : List ByteArray) : Int :=
  if nm 8 h = false then 6 else if perChk l ≠ 0 then perChk l else if knownE d l ≠ 0 then knownE d l else if l.length = 0 then 3 else if 12 < l.length then 2 else if d.papers.length = 20 then 9 else 0
def issD (d : Dk) (h : ByteArray) (l : List ByteArray) : Dk := if issE d h l = 0 then ⟨d.dev, d.papers ++ [⟨d.last + 1, h, l⟩], d.last + 1⟩ else d
def issN (d : Dk) (h : ByteArray) (l : List ByteArray) : Int := if issE d h l = 0 then d.last + 1 else 0
set_option maxRecDepth 20000 in
set_option maxHeartbeats 1000000 in
theorem s7 (d : Dk) (h : ByteArray) (nl fl) (l : List ByteArray) (hp20 : d.papers.length ≤ 20) (hd : d.dev.length ≤ 256) (hla : 0 ≤ d.last ∧ d.last ≤ 1000000) (hh : h.size ≤ 9223372036854775807) (hs : ∀ x ∈ l, x.size ≤ 9223372036854775807) (hl63 : l.length ≤ 9223372036854775807) :
    Aw.Spec Try.prog 7 (dkR d) [.ptr 0 0 0, S h, ss nl fl l] (fun rg v => rg = dkR (issD d h l) ∧ v = .tup [I (issN d h l), I (issE d h l)]) := by
  refine Aw.Spec.regsD k7 mixed rfl rfl rfl fun E hn hnp hp => ?_
  unfold a7 dkR
  have htk : (d.papers.map ppc).take d.papers.length = d.papers.map ppc := List.take_of_length_le (by simp)
  have stay : issE d h l ≠ 0 → issD d h l = d ∧ issN d h l = 0 := fun he => ⟨if_neg he, if_neg he⟩
  simp (config := { maxSteps := 2000000 }) only [go_sem, ↓reduceIte, Int.reduceToNat, Nat.reduceMul, Int.reduceBEq, Int.reduceBNe, Nat.reduceBEq, Nat.reduceAdd, Nat.reduceSub, Nat.reduceLeDiff, Nat.reduceEqDiff, Nat.reduceLT, reduceCtorEq]
  (refine AWpL.calle (s13 h hh) rfl (by rw [hn]; rfl) (by simp (config := { maxSteps := 2000000 }) only [go_sem, ↓reduceIte, Int.reduceToNat, Nat.reduceMul, Int.reduceBEq, Int.reduceBNe, Nat.reduceBEq, Nat.reduceAdd, Nat.reduceSub, Nat.reduceLeDiff, Nat.reduceEqDiff, Nat.reduceLT, reduceCtorEq]) (AWpL.ofM hn rfl ?_); simp (config := { maxSteps := 2000000 }) only [go_sem, ↓reduceIte, Int.reduceToNat, Nat.reduceMul, Int.reduceBEq, Int.reduceBNe, Nat.reduceBEq, Nat.reduceAdd, Nat.reduceSub, Nat.reduceLeDiff, Nat.reduceEqDiff, Nat.reduceLT, reduceCtorEq])
  have hE : issE d h l = if nm 8 h = false then 6 else if perChk l ≠ 0 then perChk l else if knownE d l ≠ 0 then knownE d l else if l.length = 0 then 3 else if 12 < l.length then 2 else if d.papers.length = 20 then 9 else 0 := rfl
  refine ⟨fun h1 => ?_, fun h1 => ?_⟩
  · rw [if_pos (by simpa using h1)] at hE
    obtain ⟨g1, g2⟩ := stay (by rw [hE]; decide)
    rw [g1, g2, hE]
    refine Retn.ret (π := [0, 1]) hp hnp ⟨rfl, ?_⟩
    simp (config := { maxSteps := 2000000 }) only [go_sem, ↓reduceIte, Int.reduceToNat, Nat.reduceMul, Int.reduceBEq, Int.reduceBNe, Nat.reduceBEq, Nat.reduceAdd, Nat.reduceSub, Nat.reduceLeDiff, Nat.reduceEqDiff, Nat.reduceLT, reduceCtorEq, Aw.renR, Aw.pos]
  rw [if_neg (by simpa using h1)] at hE
  (refine AWpL.calle (s6 nl fl l hs) rfl (by rw [hn]; rfl) (by simp (config := { maxSteps := 2000000 }) only [go_sem, ↓reduceIte, Int.reduceToNat, Nat.reduceMul, Int.reduceBEq, Int.reduceBNe, Nat.reduceBEq, Nat.reduceAdd, Nat.reduceSub, Nat.reduceLeDiff, Nat.reduceEqDiff, Nat.reduceLT, reduceCtorEq]) (AWpL.ofM hn rfl ?_); simp (config := { maxSteps := 2000000 }) only [go_sem, ↓reduceIte, Int.reduceToNat, Nat.reduceMul, Int.reduceBEq, Int.reduceBNe, Nat.reduceBEq, Nat.reduceAdd, Nat.reduceSub, Nat.reduceLeDiff, Nat.reduceEqDiff, Nat.reduceLT, reduceCtorEq])
  simp only [bne_iff_ne, ne_eq, bne_eq_false_iff_eq]
  refine ⟨fun h2 => ?_, fun h2 => ?_⟩
  · rw [if_pos h2] at hE
    obtain ⟨g1, g2⟩ := stay (by rw [hE]; exact h2)
    rw [g1, g2, hE]
    refine Retn.ret (π := [0, 1]) hp hnp ⟨rfl, ?_⟩
    simp (config := { maxSteps := 2000000 }) only [go_sem, ↓reduceIte, Int.reduceToNat, Nat.reduceMul, Int.reduceBEq, Int.reduceBNe, Nat.reduceBEq, Nat.reduceAdd, Nat.reduceSub, Nat.reduceLeDiff, Nat.reduceEqDiff, Nat.reduceLT, reduceCtorEq, Aw.renR, Aw.pos]
  rw [if_neg (by simp [h2])] at hE
  refine AWpL.calleA (s15 d nl fl l hd hl63) (by simp (config := { maxSteps := 2000000 }) only [go_sem, ↓reduceIte, Int.reduceToNat, Nat.reduceMul, Int.reduceBEq, Int.reduceBNe, Nat.reduceBEq, Nat.reduceAdd, Nat.reduceSub, Nat.reduceLeDiff, Nat.reduceEqDiff, Nat.reduceLT, reduceCtorEq, htk]) rfl (by rw [hn]; rfl) (by simp (config := { maxSteps := 2000000 }) only [go_sem, ↓reduceIte, Int.reduceToNat, Nat.reduceMul, Int.reduceBEq, Int.reduceBNe, Nat.reduceBEq, Nat.reduceAdd, Nat.reduceSub, Nat.reduceLeDiff, Nat.reduceEqDiff, Nat.reduceLT, reduceCtorEq, List.length_map]; omega) (AWpL.ofM hn rfl ?_)
  simp (config := { maxSteps := 2000000 }) only [go_sem, ↓reduceIte, Int.reduceToNat, Nat.reduceMul, Int.reduceBEq, Int.reduceBNe, Nat.reduceBEq, Nat.reduceAdd, Nat.reduceSub, Nat.reduceLeDiff, Nat.reduceEqDiff, Nat.reduceLT, reduceCtorEq]
  simp only [bne_iff_ne, ne_eq, bne_eq_false_iff_eq, beq_iff_eq, beq_eq_false_iff_ne, decide_eq_true_eq, decide_eq_false_iff_not]
  refine ⟨fun h3 => ?_, fun h3 => ?_⟩
  · rw [if_pos h3] at hE
    obtain ⟨g1, g2⟩ := stay (by rw [hE]; exact h3)
    rw [g1, g2, hE]
    refine Retn.ret (π := [0, 1]) hp hnp ⟨rfl, ?_⟩
    simp (config := { maxSteps := 2000000 }) only [go_sem, ↓reduceIte, Int.reduceToNat, Nat.reduceMul, Int.reduceBEq, Int.reduceBNe, Nat.reduceBEq, Nat.reduceAdd, Nat.reduceSub, Nat.reduceLeDiff, Nat.reduceEqDiff, Nat.reduceLT, reduceCtorEq, Aw.renR, Aw.pos]
  rw [if_neg (by simp [h3])] at hE
  refine ⟨fun h4 => ?_, fun h4 => ⟨fun h5 => ?_, fun h5 => ⟨fun h6 => ?_, fun h6 => ?_⟩⟩⟩
  · rw [if_pos (by omega)] at hE
    obtain ⟨g1, g2⟩ := stay (by rw [hE]; decide)
    rw [g1, g2, hE]
    refine Retn.ret (π := [0, 1]) hp hnp ⟨rfl, ?_⟩
    simp (config := { maxSteps := 2000000 }) only [go_sem, ↓reduceIte, Int.reduceToNat, Nat.reduceMul, Int.reduceBEq, Int.reduceBNe, Nat.reduceBEq, Nat.reduceAdd, Nat.reduceSub, Nat.reduceLeDiff, Nat.reduceEqDiff, Nat.reduceLT, reduceCtorEq, Aw.renR, Aw.pos]
  · rw [if_neg (by omega), if_pos (by omega)] at hE
    obtain ⟨g1, g2⟩ := stay (by rw [hE]; decide)
    rw [g1, g2, hE]
    refine Retn.ret (π := [0, 1]) hp hnp ⟨rfl, ?_⟩
    simp (config := { maxSteps := 2000000 }) only [go_sem, ↓reduceIte, Int.reduceToNat, Nat.reduceMul, Int.reduceBEq, Int.reduceBNe, Nat.reduceBEq, Nat.reduceAdd, Nat.reduceSub, Nat.reduceLeDiff, Nat.reduceEqDiff, Nat.reduceLT, reduceCtorEq, Aw.renR, Aw.pos]
  · rw [if_neg (by omega), if_neg (by omega), if_pos (by omega)] at hE
    obtain ⟨g1, g2⟩ := stay (by rw [hE]; decide)
    rw [g1, g2, hE]
    refine Retn.ret (π := [0, 1]) hp hnp ⟨rfl, ?_⟩
    simp (config := { maxSteps := 2000000 }) only [go_sem, ↓reduceIte, Int.reduceToNat, Nat.reduceMul, Int.reduceBEq, Int.reduceBNe, Nat.reduceBEq, Nat.reduceAdd, Nat.reduceSub, Nat.reduceLeDiff, Nat.reduceEqDiff, Nat.reduceLT, reduceCtorEq, Aw.renR, Aw.pos]
  rw [if_neg (by omega), if_neg (by omega), if_neg (by omega)] at hE
  have hD : issD d h l = ⟨d.dev, d.papers ++ [⟨d.last + 1, h, l⟩], d.last + 1⟩ := if_pos hE
  have hN : issN d h l = d.last + 1 := if_pos hE
  rw [hD, hN, hE]
  have e1 : IntKind.i64.wrap (d.last + 1) = d.last + 1 := w64 (by omega) (by omega)
  rw [e1]
  refine AWp.cut ⟨[(0, .ptr 0 0 0)], dkR ⟨d.dev, d.papers ++ [⟨d.last + 1, h, l⟩], d.last + 1⟩⟩ ?_ ?_
  · refine AWp.plan (.take 1 [true, false, false, false, false, true, true, true, true, true, true, true, true, true, false, false, false, false] (.take 2 [true, true, false, false, false, true, true, true, true, true, true, true, true, true, false, false, false, false] (.take 3 [true, true, true, false, false, true, true, true, true, true, true, true, true, true, false, false, false, false] (.take 4 [true, true, true, true, false, true, true, true, true, true, true, true, true, true, false, false, false, false] (.take 5 [true, true, true, true, true, false, false, false, false, true, true, true, false, false, false, false, false, false] (.take 6 [true, true, true, true, true, true, false, false, false, true, true, true, false, false, false, false, false, false] (.take 7 [true, true, true, true, true, true, true, false, false, true, true, true, false, false, false, false, false, false] (.take 8 [true, true, true, true, true, true, true, true, false, true, true, true, false, false, false, false, false, false] (.take 9 [true, true, true, true, true, true, true, true, true, false, true, true, false, false, false, false, false, false] (.take 10 [true, true, true, true, true, true, true, true, true, true, false, false, false, false, false, false, false, false] (.two 0 (.one 11 (.take 12 [true, true, true, true, true, true, true, true, true, true, true, true, false, false, false, false, false, false] (.one 13 (.one 14 (.take 15 [true, true, true, true, true, true, true, true, true, true, true, true, true, true, true, false, false, false] (.take 16 [true, true, true, true, true, true, true, true, true, true, true, true, true, true, true, true, false, false] (.one 17 .done))))))) 11 (.take 12 [true, true, true, true, true, true, true, true, true, true, true, true, false, false, false, false, false, false] (.two 0 (.one 13 (.one 14 (.take 15 [true, true, true, true, true, true, true, true, true, true, true, true, true, true, true, false, false, false] (.take 16 [true, true, true, true, true, true, true, true, true, true, true, true, true, true, true, true, false, false] (.one 17 .done))))) 13 (.two 0 (.one 14 (.take 15 [true, true, true, true, true, true, true, true, true, true, true, true, true, true, true, false, false, false] (.take 16 [true, true, true, true, true, true, true, true, true, true, true, true, true, true, true, true, false, false] (.one 17 .done)))) 14 (.take 0 [false, true, true, true, true, true, true, true, true, true, true, true, true, true, true, false, false, false] (.take 15 [true, true, true, true, true, true, true, true, true, true, true, true, true, true, true, false, false, false] (.take 16 [true, true, true, true, true, true, true, true, true, true, true, true, true, true, true, true, false, false] (.one 17 .done)))))))))))))))))) [true, true, true, true, true, true, true, true, true, true, true, true, true, true, false, true, true, false] mixed hn rfl rfl ?_
    simp (config := { maxSteps := 2000000 }) only [go_sem, ↓reduceIte, Int.reduceToNat, Nat.reduceMul, Int.reduceBEq, Int.reduceBNe, Nat.reduceBEq, Nat.reduceAdd, Nat.reduceSub, Nat.reduceLeDiff, Nat.reduceEqDiff, Nat.reduceLT, reduceCtorEq]
    repeat' refine And.intro ?_ ?_
    all_goals
      refine AOne.callA (s11 nl fl l (by omega)) rfl (by rw [hn]; rfl) fun rg v hv => ?_
      obtain ⟨rfl, rfl⟩ := hv
      rw [retS_nil]
      simp (config := { maxSteps := 2000000 }) only [go_sem, ↓reduceIte, Int.reduceToNat, Nat.reduceMul, Int.reduceBEq, Int.reduceBNe, Nat.reduceBEq, Nat.reduceAdd, Nat.reduceSub, Nat.reduceLeDiff, Nat.reduceEqDiff, Nat.reduceLT, reduceCtorEq]
      repeat' refine And.intro ?_ ?_
      all_goals
        refine AOne.rule ?_
        refine AWpL.app (r := 1) (els := d.papers.map ppc) (ys := [ppc ⟨d.last + 1, h, l⟩]) rfl rfl rfl rfl (by rw [hn]; rfl) (by simp) (hp.arr 1 rfl) (Nat.le_refl 1) (fun el hm y hy => ?_) (by simp only [List.length_cons, List.length_nil]; omega) (by simp only [List.length_cons, List.length_nil]; omega) (AWpL.ofM hn rfl ?_)
        · rw [List.mem_singleton.1 hm] at hy
          simp only [List.mem_cons, List.not_mem_nil, or_false] at hy
          rcases hy with rfl | rfl | rfl <;> rfl
        simp (config := { maxSteps := 2000000 }) only [go_sem, ↓reduceIte, Int.reduceToNat, Nat.reduceMul, Int.reduceBEq, Int.reduceBNe, Nat.reduceBEq, Nat.reduceAdd, Nat.reduceSub, Nat.reduceLeDiff, Nat.reduceEqDiff, Nat.reduceLT, reduceCtorEq]
        refine weak_to [0, 1] hp hnp rfl (by simp (config := { maxSteps := 2000000 }) only [go_sem, ↓reduceIte, Int.reduceToNat, Nat.reduceMul, Int.reduceBEq, Int.reduceBNe, Nat.reduceBEq, Nat.reduceAdd, Nat.reduceSub, Nat.reduceLeDiff, Nat.reduceEqDiff, Nat.reduceLT, reduceCtorEq, Aw.pos]) ?_
        simp (config := { maxSteps := 2000000 }) only [go_sem, ↓reduceIte, Int.reduceToNat, Nat.reduceMul, Int.reduceBEq, Int.reduceBNe, Nat.reduceBEq, Nat.reduceAdd, Nat.reduceSub, Nat.reduceLeDiff, Nat.reduceEqDiff, Nat.reduceLT, reduceCtorEq, Aw.renR, Aw.pos]
        simp only [dkR, List.map_append, List.length_append, List.map_cons, List.map_nil, List.length_cons, List.length_nil, Nat.zero_add]
  · simp (config := { maxSteps := 2000000 }) only [go_sem, ↓reduceIte, Int.reduceToNat, Nat.reduceMul, Int.reduceBEq, Int.reduceBNe, Nat.reduceBEq, Nat.reduceAdd, Nat.reduceSub, Nat.reduceLeDiff, Nat.reduceEqDiff, Nat.reduceLT, reduceCtorEq]
    refine Retn.ret (π := [0, 1]) hp hnp ⟨rfl, ?_⟩
    simp (config := { maxSteps := 2000000 }) only [go_sem, ↓reduceIte, Int.reduceToNat, Nat.reduceMul, Int.reduceBEq, Int.reduceBNe, Nat.reduceBEq, Nat.reduceAdd, Nat.reduceSub, Nat.reduceLeDiff, Nat.reduceEqDiff, Nat.reduceLT, reduceCtorEq, Aw.renR, Aw.pos]
end Go.Proofs.Ytmepjgpmhkahdaa
