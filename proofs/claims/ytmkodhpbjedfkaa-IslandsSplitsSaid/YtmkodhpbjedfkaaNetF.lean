/- Networks: Without, for a branch. -/
import Derived.Test.YtmkodhpbjedfkaaAwZh
import Derived.Test.YtmkodhpbjedfkaaNetE
set_option linter.unusedVariables false
set_option linter.unusedSimpArgs false
namespace Go.Proofs.Ytmkodhpbjedfkaa
open Go.Proofs.Ytmkodhpbjedfkaa.Aw
attribute [local go_sem] Int.natCast_zero Int.natCast_one bne_self_eq_false beq_self_eq_true Bool.not_true Bool.not_false Option.isSome_none Option.isSome_some Aw.bkM_nil Option.getD_some Option.getD_none Nat.sub_zero Int.toNat_zero Aw.frzS Aw.frzT Aw.frzA Aw.frzL Aw.frzR Aw.frzO Aw.frzOL Aw.frzOT Aw.frzOR Aw.killS Aw.mapT Aw.mapR Aw.killM Aw.resAVs Aw.resAV Aw.quietOps Aw.wpP Aw.wpT Aw.wpS Aw.AOp.mild List.getElem?_cons_zero List.getElem?_cons_succ Bool.and_false Bool.and_self Bool.false_and Aw.opOb Aw.gdB Aw.Rnd Aw.subTm List.length_map Int.toNat_natCast and_self Aw.SeqC Aw.stops Aw.Ends Aw.looks Aw.renA Aw.renL Aw.renT Aw.renS Aw.wpO Aw.aop Aw.putTm Aw.St.ev Aw.St.put Aw.St.putO Aw.binAV Aw.intBin Aw.strBin Aw.pickAV Aw.optInt Aw.AV.strip Aw.AV.guard Aw.AV.cells Aw.gdOb Aw.AOp.opds Aw.AOp.still Aw.ptrCells Aw.St.reg Aw.fillAV Aw.fillOb Aw.elsOb Aw.splice Aw.firm Aw.cellish Aw.AV.shut Aw.shutAll Aw.Seq Aw.Blk Aw.retS_nil Aw.mapA Aw.mapL Aw.borA Aw.borOb Aw.allOb Aw.tupOf Aw.params Aw.Opd.of Array.toList Value.cells List.map_cons List.map_nil List.getD_cons_zero List.getD_cons_succ List.getD_nil List.length_cons List.length_nil List.take_succ_cons List.take_zero List.take_nil List.drop_zero List.drop_succ_cons List.drop_nil List.set_cons_zero List.set_cons_succ List.append_nil List.nil_append List.cons_append List.all_cons List.all_nil cond_false cond_true if_true if_false true_and and_true Bool.and_true Bool.true_and Option.map_some Option.map_none false_implies forall_const implies_true forall_eq imp_self Bool.cond_false_right Bool.cond_true_left beq_true beq_false Bool.not_eq_true' Bool.false_eq_true Nat.zero_add Nat.add_zero Aw.eqCells Aw.stopDraw Aw.skipS Aw.exactCap Aw.revealS Aw.srcEls Aw.srcSz
attribute [local go_sem ↓] Aw.look_nil Aw.look_ite Aw.wpL_nil Aw.wpL_op Aw.wpL_gd Aw.wpQ_nil Aw.wpQ_op Aw.wpQ_gd Aw.wpC_draw Aw.wpC_reg Aw.wpC_skip Aw.wpC_ret Aw.wpC_exit Aw.wpC_seq Aw.wpC_block Aw.wpC_loop Aw.wpC_cond Aw.stopAt_nil Aw.stopAt_cons Aw.wpD_skip Aw.wpD_ret Aw.wpD_exit Aw.wpD_region Aw.wpD_draw Aw.wpM_nil Aw.wpM_op Aw.wpM_gd Aw.wpD_seq Aw.wpD_block Aw.wpD_loop Aw.wpD_cond
/- slices.Delete[[]gridhall/api.Branch,gridhall/api.Branch] -/
def a29 : ACode :=
  (.seq (.region false [] [
     ⟨(some 6), none, (.mov (.v (.slice none 0 0)))⟩])
  (.seq (.region false [] [
     ⟨(some 8), none, (.mov (.t 0))⟩,
     ⟨(some 9), none, (.mov (.t 1))⟩,
     ⟨(some 10), none, (.mov (.t 2))⟩,
     ⟨(some 11), none, (.mov (.t 0))⟩,
     ⟨(some 12), none, (.len (.t 11))⟩,
     ⟨(some 13), none, (.slc 9 (.t 8) (some (.t 9)) (some (.t 10)) (some (.t 12)))⟩])
  (.seq (.seq (.region false [] [
     ⟨(some 14), none, (.mov (.t 1))⟩,
     ⟨(some 15), none, (.mov (.t 2))⟩,
     ⟨(some 16), none, (.bin .eql 3 (.t 14) (.t 15))⟩])
  (.cond (.t 16)
    (.seq (.region false [] [
       ⟨(some 17), none, (.mov (.t 0))⟩,
       ⟨(some 6), none, (.mov (.t 17))⟩])
    .ret)
    .skip))
  (.seq (.region false [] [
     ⟨(some 18), none, (.mov (.t 0))⟩,
     ⟨(some 19), none, (.len (.t 18))⟩,
     ⟨(some 7), none, (.mov (.t 19))⟩])
  (.seq (.region true [[], [], [0, 1], [], [], [3, 4], [2, 5], [6, 6, 0, 1, 2, 3, 4, 5, 6]] [
     ⟨(some 20), none, (.mov (.t 0))⟩,
     ⟨(some 21), none, (.mov (.t 1))⟩,
     ⟨(some 22), none, (.slc 9 (.t 20) none (some (.t 21)) none)⟩,
     ⟨(some 23), none, (.mov (.t 0))⟩,
     ⟨(some 24), none, (.mov (.t 2))⟩,
     ⟨(some 25), none, (.slc 9 (.t 23) (some (.t 24)) none none)⟩,
     ⟨(some 26), none, (.app 47 9 96 (.agg #[(.string ⟨#[]⟩), (.string ⟨#[]⟩), (.string ⟨#[]⟩), (.int .i64 0), (.int .i64 0), (.int .i64 0), (.int .i64 0), (.int .i64 0), (.int .i64 0)]) (.t 22) (.t 25))⟩,
     ⟨(some 0), none, (.mov (.t 26))⟩])
  (.seq (.region false [] [
     ⟨(some 27), none, (.mov (.t 0))⟩,
     ⟨(some 28), none, (.mov (.t 0))⟩,
     ⟨(some 29), none, (.len (.t 28))⟩,
     ⟨(some 30), none, (.mov (.t 7))⟩,
     ⟨(some 31), none, (.slc 9 (.t 27) (some (.t 29)) (some (.t 30)) none)⟩,
     ⟨none, none, (.clr 9 (.agg #[(.string ⟨#[]⟩), (.string ⟨#[]⟩), (.string ⟨#[]⟩), (.int .i64 0), (.int .i64 0), (.int .i64 0), (.int .i64 0), (.int .i64 0), (.int .i64 0)]) (.t 31))⟩])
  (.seq (.region false [] [
     ⟨(some 32), none, (.mov (.t 0))⟩,
     ⟨(some 6), none, (.mov (.t 32))⟩])
  .ret)))))))
theorem k29 : FnIs Try.prog 29 33 [.t 6] a29 := ⟨_, _, Try.func29, rfl, by kernel_rfl, by kernel_rfl, rfl⟩
/- gridhall/netmodel.Without -/
def a13 : ACode :=
  (.seq (.region false [] [
     ⟨(some 2), none, (.box 29 (.t 0))⟩,
     ⟨(some 4), none, (.alloc 29 (.agg #[(.slice none 0 0), (.slice none 0 0), (.slice none 0 0), (.slice none 0 0), (.slice none 0 0), (.slice none 0 0)]))⟩,
     ⟨(some 5), none, (.mov (.v (.int .i64 0)))⟩])
  (.seq (.region false [] [
     ⟨(some 11), none, (.load 6 true (.t 2))⟩,
     ⟨(some 12), none, (.mov (.t 1))⟩,
     ⟨(some 13), none, (.call 26 [(.t 11), (.t 12)])⟩,
     ⟨(some 10), none, (.mov (.t 13))⟩,
     ⟨(some 14), none, (.ext 0 (.t 10))⟩,
     ⟨(some 15), none, (.ext 1 (.t 10))⟩,
     ⟨(some 16), none, (.ext 2 (.t 10))⟩,
     ⟨(some 6), none, (.mov (.t 14))⟩,
     ⟨(some 7), none, (.mov (.t 15))⟩,
     ⟨(some 8), none, (.mov (.t 16))⟩])
  (.seq (.seq (.region false [] [
     ⟨(some 17), none, (.mov (.t 8))⟩,
     ⟨(some 18), none, (.bin .neq 31 (.t 17) (.v (.int .i64 0)))⟩])
  (.cond (.t 18)
    (.seq (.region false [] [
       ⟨(some 19), none, (.build (.agg #[(.slice none 0 0), (.slice none 0 0), (.slice none 0 0), (.slice none 0 0), (.slice none 0 0), (.slice none 0 0)]) [])⟩,
       ⟨(some 20), none, (.mov (.t 8))⟩,
       ⟨none, none, (.store 6 (.t 4) (.t 19))⟩,
       ⟨(some 5), none, (.mov (.t 20))⟩])
    .ret)
    .skip))
  (.seq (.region false [] [
     ⟨(some 21), none, (.load 6 true (.t 2))⟩,
     ⟨(some 22), none, (.call 27 [(.t 21)])⟩,
     ⟨(some 9), none, (.alloc 29 (.agg #[(.slice none 0 0), (.slice none 0 0), (.slice none 0 0), (.slice none 0 0), (.slice none 0 0), (.slice none 0 0)]))⟩,
     ⟨none, none, (.store 6 (.t 9) (.t 22))⟩])
  (.seq (.seq (.region false [] [
     ⟨(some 23), none, (.mov (.t 6))⟩])
  (.block 0 (.seq (.region false [] [
      ⟨(some 32), none, (.bin .eql 9 (.t 23) (.v (.string ⟨#[110, 111, 100, 101]⟩)))⟩,
      ⟨(some 31), none, (.mov (.t 32))⟩])
   (.cond (.t 31)
     (.seq (.region false [] [
        ⟨(some 33), none, (.build (.agg #[(.slice none 0 0), (.slice none 0 0), (.slice none 0 0), (.slice none 0 0), (.slice none 0 0), (.slice none 0 0)]) [])⟩,
        ⟨none, none, (.store 6 (.t 4) (.t 33))⟩,
        ⟨(some 5), none, (.mov (.v (.int .i64 1)))⟩])
     .ret)
     (.seq (.region false [] [
        ⟨(some 35), none, (.bin .eql 9 (.t 23) (.v (.string ⟨#[115, 119, 105, 116, 99, 104]⟩)))⟩,
        ⟨(some 34), none, (.mov (.t 35))⟩])
     (.cond (.t 34)
       (.region false [] [
          ⟨(some 36), none, (.fld 1 (.t 9))⟩,
          ⟨(some 37), none, (.load 1 false (.t 36))⟩,
          ⟨(some 38), none, (.mov (.t 7))⟩,
          ⟨(some 39), none, (.mov (.t 7))⟩,
          ⟨(some 40), none, (.bin .add 3 (.t 39) (.v (.int .i64 1)))⟩,
          ⟨(some 41), none, (.call 28 [(.t 37), (.t 38), (.t 40)])⟩,
          ⟨(some 42), none, (.fld 1 (.t 9))⟩,
          ⟨none, none, (.store 1 (.t 42) (.t 41))⟩])
       (.seq (.region false [] [
          ⟨(some 44), none, (.bin .eql 9 (.t 23) (.v (.string ⟨#[98, 114, 97, 110, 99, 104]⟩)))⟩,
          ⟨(some 43), none, (.mov (.t 44))⟩])
       (.cond (.t 43)
         (.region false [] [
            ⟨(some 45), none, (.fld 2 (.t 9))⟩,
            ⟨(some 46), none, (.load 1 false (.t 45))⟩,
            ⟨(some 47), none, (.mov (.t 7))⟩,
            ⟨(some 48), none, (.mov (.t 7))⟩,
            ⟨(some 49), none, (.bin .add 3 (.t 48) (.v (.int .i64 1)))⟩,
            ⟨(some 50), none, (.call 29 [(.t 46), (.t 47), (.t 49)])⟩,
            ⟨(some 51), none, (.fld 2 (.t 9))⟩,
            ⟨none, none, (.store 1 (.t 51) (.t 50))⟩])
         (.seq (.region false [] [
            ⟨(some 53), none, (.bin .eql 9 (.t 23) (.v (.string ⟨#[103, 101, 110]⟩)))⟩,
            ⟨(some 52), none, (.mov (.t 53))⟩])
         (.cond (.t 52)
           (.region false [] [
              ⟨(some 54), none, (.fld 3 (.t 9))⟩,
              ⟨(some 55), none, (.load 1 false (.t 54))⟩,
              ⟨(some 56), none, (.mov (.t 7))⟩,
              ⟨(some 57), none, (.mov (.t 7))⟩,
              ⟨(some 58), none, (.bin .add 3 (.t 57) (.v (.int .i64 1)))⟩,
              ⟨(some 59), none, (.call 30 [(.t 55), (.t 56), (.t 58)])⟩,
              ⟨(some 60), none, (.fld 3 (.t 9))⟩,
              ⟨none, none, (.store 1 (.t 60) (.t 59))⟩])
           (.seq (.region false [] [
              ⟨(some 62), none, (.bin .eql 9 (.t 23) (.v (.string ⟨#[108, 111, 97, 100]⟩)))⟩,
              ⟨(some 61), none, (.mov (.t 62))⟩])
           (.cond (.t 61)
             (.region false [] [
                ⟨(some 63), none, (.fld 4 (.t 9))⟩,
                ⟨(some 64), none, (.load 1 false (.t 63))⟩,
                ⟨(some 65), none, (.mov (.t 7))⟩,
                ⟨(some 66), none, (.mov (.t 7))⟩,
                ⟨(some 67), none, (.bin .add 3 (.t 66) (.v (.int .i64 1)))⟩,
                ⟨(some 68), none, (.call 31 [(.t 64), (.t 65), (.t 67)])⟩,
                ⟨(some 69), none, (.fld 4 (.t 9))⟩,
                ⟨none, none, (.store 1 (.t 69) (.t 68))⟩])
             (.region false [] [
                ⟨(some 24), none, (.fld 5 (.t 9))⟩,
                ⟨(some 25), none, (.load 1 false (.t 24))⟩,
                ⟨(some 26), none, (.mov (.t 7))⟩,
                ⟨(some 27), none, (.mov (.t 7))⟩,
                ⟨(some 28), none, (.bin .add 3 (.t 27) (.v (.int .i64 1)))⟩,
                ⟨(some 29), none, (.call 32 [(.t 25), (.t 26), (.t 28)])⟩,
                ⟨(some 30), none, (.fld 5 (.t 9))⟩,
                ⟨none, none, (.store 1 (.t 30) (.t 29))⟩])))))))))))))
  (.seq (.region false [] [
     ⟨(some 70), none, (.load 6 true (.t 9))⟩,
     ⟨none, none, (.store 6 (.t 4) (.t 70))⟩,
     ⟨(some 5), none, (.mov (.v (.int .i64 0)))⟩])
  .ret))))))
theorem k13 : FnIs Try.prog 13 71 [.c 4 6 true, .t 5] a13 := ⟨_, _, Try.func13, rfl, by kernel_rfl, by kernel_rfl, rfl⟩

theorem s29 (l : List (Bra)) (i : Nat) (hi : i < l.length) (hl : l.length ≤ 1000) (hc : ∀ x : Bra, ∀ y ∈ brc x, cellish y = true) :
    Aw.Spec Try.prog 29 [.arr 47 9 (l.map brc)] [.hnd 0 0 l.length l.length false, I i, I (i + 1 : Nat)]
      (fun rg v => rg = [.arr 47 9 ((l.eraseIdx i).map brc ++ [[S ⟨#[]⟩, S ⟨#[]⟩, S ⟨#[]⟩, I 0, I 0, I 0, I 0, I 0, I 0]])] ∧ v = .hnd 0 0 (l.length - 1) l.length false) := by
  refine Aw.Spec.of k29 rfl fun E hn hnp hp => ?_
  replace hnp : E.np = 1 := hnp
  unfold a29
  have pin0 := hp.arr 0 rfl
  have e1 : ((i : Int) == ((i + 1 : Nat) : Int)) = false := by rw [beq_eq_false_iff_ne]; omega
  refine AWp.ofD [] [] hn mixed rfl ?_
  simp (config := { maxSteps := 2000000 }) only [go_sem, ↓reduceIte, Int.reduceToNat, Nat.reduceMul, Int.reduceBEq, Int.reduceBNe, Nat.reduceBEq, Nat.reduceAdd, Nat.reduceSub, Nat.reduceLeDiff, Nat.reduceEqDiff, Nat.reduceLT, reduceCtorEq, e1]
  (repeat (refine And.intro (by first | omega | (refine ⟨by omega, by omega⟩) | (refine ⟨by omega, by omega, by omega⟩) | (simp only [List.length_map, List.length_range, List.length_append, List.length_cons, List.length_nil, List.length_replicate, List.length_set]; omega) | (simp; omega) | (intro hgd; cases hgd) | (intro hgd; refine ⟨hgd, ?_⟩; first | omega | (refine ⟨by omega, by omega⟩) | (simp; omega))) ?_))
  have hdl : ((l.map brc).drop (i + 1)).take (l.length - (i + 1)) = (l.drop (i + 1)).map brc := by rw [← List.map_drop, List.take_of_length_le (by simp)]
  have hlen : (l.eraseIdx i).length = l.length - 1 := by rw [List.length_eraseIdx, if_pos hi]
  have hov : overEls (l.map brc) i ((l.drop (i + 1)).map brc) = (l.eraseIdx i).map brc ++ (l.drop (l.length - 1)).map brc := by
    unfold overEls
    rw [List.eraseIdx_eq_take_drop_succ, List.map_append, List.length_map, List.length_drop, ← List.map_take, ← List.map_drop, List.append_assoc, show i + (l.length - (i + 1)) = l.length - 1 by omega]
  have hov2 : overEls ((l.eraseIdx i).map brc ++ (l.drop (l.length - 1)).map brc) (l.length - 1) [[S ⟨#[]⟩, S ⟨#[]⟩, S ⟨#[]⟩, I 0, I 0, I 0, I 0, I 0, I 0]] = (l.eraseIdx i).map brc ++ [[S ⟨#[]⟩, S ⟨#[]⟩, S ⟨#[]⟩, I 0, I 0, I 0, I 0, I 0, I 0]] := by
    unfold overEls
    rw [List.take_left' (by rw [List.length_map, hlen]), List.drop_of_length_le (by simp; omega), List.append_nil]
  have hxl : ((l.eraseIdx i).map brc ++ (l.drop (l.length - 1)).map brc).length = l.length := by rw [List.length_append, List.length_map, List.length_map, List.length_drop, hlen]; omega
  refine AWp.plan (.take 0 [false, true, false, true, true, true, false, false] (.take 1 [true, false, false, true, true, true, false, false] (.take 2 [true, true, false, true, true, true, false, false] (.take 3 [true, true, true, false, true, false, false, false] (.take 4 [true, true, true, true, false, false, false, false] (.take 5 [true, true, true, true, true, false, false, false] (.one 6 (.take 7 [true, true, true, true, true, true, true, false] .done)))))))) [true, true, true, true, true, true, false, true] mixed hn rfl rfl ?_
  simp (config := { maxSteps := 2000000 }) only [go_sem, ↓reduceIte, Int.reduceToNat, Nat.reduceMul, Int.reduceBEq, Int.reduceBNe, Nat.reduceBEq, Nat.reduceAdd, Nat.reduceSub, Nat.reduceLeDiff, Nat.reduceEqDiff, Nat.reduceLT, reduceCtorEq]
  (repeat (refine And.intro (by first | omega | (refine ⟨by omega, by omega⟩) | (refine ⟨by omega, by omega, by omega⟩) | (simp only [List.length_map, List.length_range, List.length_append, List.length_cons, List.length_nil, List.length_replicate, List.length_set]; omega) | (simp; omega) | (intro hgd; cases hgd) | (intro hgd; refine ⟨hgd, ?_⟩; first | omega | (refine ⟨by omega, by omega⟩) | (simp; omega))) ?_))
  refine AOne.rule (AWpL.appIn (r := 0) (off := 0) (n := i) (k := l.length) (els := l.map brc) (ys := (l.drop (i + 1)).map brc) (ob := i + 1 + (l.length - (i + 1)) ≤ (l.map brc).length) rfl rfl (by show some (((l.map brc).drop (i + 1)).take (l.length - (i + 1)), _) = _; rw [hdl]) rfl (by rw [hn]; rfl) (by simp only [List.length_map]; omega) (fun el hm y hy => by
    obtain ⟨z, _, rfl⟩ := List.mem_map.1 hm
    exact hc z y hy) (by simp; omega) (by simp; omega) (by omega) (AWpL.ofM hn rfl ?_))
  rw [Nat.zero_add, hov, List.length_map, List.length_drop, show i + (l.length - (i + 1)) = l.length - 1 by omega]
  generalize (l.eraseIdx i).map brc ++ (l.drop (l.length - 1)).map brc = X at *
  have h1 : l.length - (l.length - 1) = 1 := by omega
  simp (config := { maxSteps := 2000000 }) only [go_sem, ↓reduceIte, Int.reduceToNat, Nat.reduceMul, Int.reduceBEq, Int.reduceBNe, Nat.reduceBEq, Nat.reduceAdd, Nat.reduceSub, Nat.reduceLeDiff, Nat.reduceEqDiff, Nat.reduceLT, reduceCtorEq, h1]
  (repeat (refine And.intro (by first | omega | (refine ⟨by omega, by omega⟩) | (refine ⟨by omega, by omega, by omega⟩) | (simp only [List.length_map, List.length_range, List.length_append, List.length_cons, List.length_nil, List.length_replicate, List.length_set]; omega) | (simp; omega) | (intro hgd; cases hgd) | (intro hgd; refine ⟨hgd, ?_⟩; first | omega | (refine ⟨by omega, by omega⟩) | (simp; omega))) ?_))
  refine AWpL.clr (r := 0) (off := l.length - 1) (n := 1) (k := 1) (els := X) rfl rfl (by rw [hn]; rfl) (by omega) (fun v hv => by
    simp only [Value.cells, List.mem_cons, List.not_mem_nil, or_false] at hv
    first | (rcases hv with rfl | rfl | rfl | rfl | rfl | rfl | rfl | rfl | rfl; all_goals rfl) | (rcases hv with rfl | rfl | rfl | rfl | rfl; all_goals rfl) | (rcases hv with rfl | rfl | rfl; all_goals rfl) | (subst hv; rfl)) (.inl (by decide)) (AWpL.ofM hn rfl ?_)
  have hr1 : List.replicate 1 [S ⟨#[]⟩, S ⟨#[]⟩, S ⟨#[]⟩, I 0, I 0, I 0, I 0, I 0, I 0] = [[S ⟨#[]⟩, S ⟨#[]⟩, S ⟨#[]⟩, I 0, I 0, I 0, I 0, I 0, I 0]] := rfl
  simp (config := { maxSteps := 2000000 }) only [go_sem, ↓reduceIte, Int.reduceToNat, Nat.reduceMul, Int.reduceBEq, Int.reduceBNe, Nat.reduceBEq, Nat.reduceAdd, Nat.reduceSub, Nat.reduceLeDiff, Nat.reduceEqDiff, Nat.reduceLT, reduceCtorEq, hr1, hov2]
  refine Retn.ret (π := [0]) hp hnp ⟨rfl, ?_⟩
  simp (config := { maxSteps := 2000000 }) only [go_sem, ↓reduceIte, Int.reduceToNat, Nat.reduceMul, Int.reduceBEq, Int.reduceBNe, Nat.reduceBEq, Nat.reduceAdd, Nat.reduceSub, Nat.reduceLeDiff, Nat.reduceEqDiff, Nat.reduceLT, reduceCtorEq, Aw.renR, Aw.pos]

/-- The network without its k-th branch, all slices its own. -/
def delB (n : Net) (k : Nat) : Net := ⟨⟨none, false, n.nodes.l⟩, ⟨none, false, n.sws.l⟩, ⟨none, false, n.brs.l.eraseIdx k⟩, ⟨none, false, n.gens.l⟩, ⟨none, false, n.loads.l⟩, ⟨none, false, n.stores.l⟩⟩
set_option maxRecDepth 20000 in
set_option maxHeartbeats 1000000 in
theorem s13 (n : Net) (hk : NetOk n) (hv : NetV n) (s : ByteArray) (k : Nat) (hkl : k < n.brs.l.length) (hf : findN n s = (kBr, (k : Int), 0)) :
    Aw.Spec Try.prog 13 [] [neta n, S s] (fun rg v => rg = [.box 29 (netc (delB n k))] ∧ v = .tup [neta (delB n k), I 0]) := by
  refine Aw.Spec.regsW k13 rfl rfl fun E hn hnp hp => ?_
  unfold a13
  have pin : ∀ r, E.pin r = none := fun r => hp.none hnp (Nat.zero_le _)
  have hF := s26 n hk s
  rw [hf] at hF
  have e1 : IntKind.i64.wrap ((k : Int) + 1) = ((k + 1 : Nat) : Int) := by have := hv.nbr; rw [w64 (by omega) (by omega)]; omega
  have n1 : (kBr.toList == (ByteArray.mk #[110, 111, 100, 101]).toList) = false := by decide +kernel
  have n2 : (kBr.toList == (ByteArray.mk #[115, 119, 105, 116, 99, 104]).toList) = false := by decide +kernel
  have n3 : (kBr.toList == (ByteArray.mk #[98, 114, 97, 110, 99, 104]).toList) = true := by decide +kernel
  refine AWp.ofD [] [] hn mixed rfl ?_
  simp (config := { maxSteps := 2000000 }) only [go_sem, ↓reduceIte, Int.reduceToNat, Nat.reduceMul, Int.reduceBEq, Int.reduceBNe, Nat.reduceBEq, Nat.reduceAdd, Nat.reduceSub, Nat.reduceLeDiff, Nat.reduceEqDiff, Nat.reduceLT, reduceCtorEq]
  (refine AWpL.calle (hF) rfl (by rw [hn]; rfl) (by simp (config := { maxSteps := 2000000 }) only [go_sem, ↓reduceIte, Int.reduceToNat, Nat.reduceMul, Int.reduceBEq, Int.reduceBNe, Nat.reduceBEq, Nat.reduceAdd, Nat.reduceSub, Nat.reduceLeDiff, Nat.reduceEqDiff, Nat.reduceLT, reduceCtorEq]) (AWpL.ofM hn rfl ?_); simp (config := { maxSteps := 2000000 }) only [go_sem, ↓reduceIte, Int.reduceToNat, Nat.reduceMul, Int.reduceBEq, Int.reduceBNe, Nat.reduceBEq, Nat.reduceAdd, Nat.reduceSub, Nat.reduceLeDiff, Nat.reduceEqDiff, Nat.reduceLT, reduceCtorEq])
  refine AWpL.callA [] (s27 n hv) rfl rfl (by rw [hn]; rfl) rfl (fun r hr => by cases hr) fun rg v hv' => ?_
  obtain ⟨rfl, rfl⟩ := hv'
  refine ⟨Nat.zero_le _, ?_⟩
  rw [retS_new]
  refine AWpL.ofM hn rfl ?_
  simp (config := { maxSteps := 2000000 }) only [go_sem, ↓reduceIte, Int.reduceToNat, Nat.reduceMul, Int.reduceBEq, Int.reduceBNe, Nat.reduceBEq, Nat.reduceAdd, Nat.reduceSub, Nat.reduceLeDiff, Nat.reduceEqDiff, Nat.reduceLT, reduceCtorEq, n1, n2, n3, e1]
  have h24 := hv.nbr
  refine AWpL.callA [5] (s29 n.brs.l k hkl (by omega) (fun x y hy => by
    simp only [List.mem_cons, List.not_mem_nil, or_false] at hy
    rcases hy with rfl | rfl | rfl | rfl | rfl | rfl | rfl | rfl | rfl <;> rfl)) rfl rfl (by rw [hn]; rfl) rfl (fun r hr => .inr (pin r)) fun rg v hv' => ?_
  obtain ⟨rfl, rfl⟩ := hv'
  refine ⟨Nat.le_refl _, AWpL.ofM hn rfl ?_⟩
  simp (config := { maxSteps := 2000000 }) only [go_sem, ↓reduceIte, Int.reduceToNat, Nat.reduceMul, Int.reduceBEq, Int.reduceBNe, Nat.reduceBEq, Nat.reduceAdd, Nat.reduceSub, Nat.reduceLeDiff, Nat.reduceEqDiff, Nat.reduceLT, reduceCtorEq, Aw.retS, Aw.retRg, Aw.kpM, Aw.bkM, Aw.pos, Aw.isBox]
  have hel : (n.brs.l.eraseIdx k).length = n.brs.l.length - 1 := by rw [List.length_eraseIdx, if_pos hkl]
  refine Retn.weak (weak_freeze 3 rfl (pin 3) (by simp (config := { maxSteps := 2000000 }) only [go_sem, ↓reduceIte, Int.reduceToNat, Nat.reduceMul, Int.reduceBEq, Int.reduceBNe, Nat.reduceBEq, Nat.reduceAdd, Nat.reduceSub, Nat.reduceLeDiff, Nat.reduceEqDiff, Nat.reduceLT, reduceCtorEq, Nat.le_refl, List.length_map])) _ ?_
  simp (config := { maxSteps := 2000000 }) only [go_sem, ↓reduceIte, Int.reduceToNat, Nat.reduceMul, Int.reduceBEq, Int.reduceBNe, Nat.reduceBEq, Nat.reduceAdd, Nat.reduceSub, Nat.reduceLeDiff, Nat.reduceEqDiff, Nat.reduceLT, reduceCtorEq]
  refine Retn.weak (weak_freeze 4 rfl (pin 4) (by simp (config := { maxSteps := 2000000 }) only [go_sem, ↓reduceIte, Int.reduceToNat, Nat.reduceMul, Int.reduceBEq, Int.reduceBNe, Nat.reduceBEq, Nat.reduceAdd, Nat.reduceSub, Nat.reduceLeDiff, Nat.reduceEqDiff, Nat.reduceLT, reduceCtorEq, Nat.le_refl, List.length_map])) _ ?_
  simp (config := { maxSteps := 2000000 }) only [go_sem, ↓reduceIte, Int.reduceToNat, Nat.reduceMul, Int.reduceBEq, Int.reduceBNe, Nat.reduceBEq, Nat.reduceAdd, Nat.reduceSub, Nat.reduceLeDiff, Nat.reduceEqDiff, Nat.reduceLT, reduceCtorEq]
  refine Retn.weak (weak_freeze 5 rfl (pin 5) (by simp (config := { maxSteps := 2000000 }) only [go_sem, ↓reduceIte, Int.reduceToNat, Nat.reduceMul, Int.reduceBEq, Int.reduceBNe, Nat.reduceBEq, Nat.reduceAdd, Nat.reduceSub, Nat.reduceLeDiff, Nat.reduceEqDiff, Nat.reduceLT, reduceCtorEq, Nat.le_refl, List.length_map, List.length_append, hel] <;> omega)) _ ?_
  simp (config := { maxSteps := 2000000 }) only [go_sem, ↓reduceIte, Int.reduceToNat, Nat.reduceMul, Int.reduceBEq, Int.reduceBNe, Nat.reduceBEq, Nat.reduceAdd, Nat.reduceSub, Nat.reduceLeDiff, Nat.reduceEqDiff, Nat.reduceLT, reduceCtorEq]
  refine Retn.weak (weak_freeze 6 rfl (pin 6) (by simp (config := { maxSteps := 2000000 }) only [go_sem, ↓reduceIte, Int.reduceToNat, Nat.reduceMul, Int.reduceBEq, Int.reduceBNe, Nat.reduceBEq, Nat.reduceAdd, Nat.reduceSub, Nat.reduceLeDiff, Nat.reduceEqDiff, Nat.reduceLT, reduceCtorEq, Nat.le_refl, List.length_map])) _ ?_
  simp (config := { maxSteps := 2000000 }) only [go_sem, ↓reduceIte, Int.reduceToNat, Nat.reduceMul, Int.reduceBEq, Int.reduceBNe, Nat.reduceBEq, Nat.reduceAdd, Nat.reduceSub, Nat.reduceLeDiff, Nat.reduceEqDiff, Nat.reduceLT, reduceCtorEq]
  refine Retn.weak (weak_freeze 7 rfl (pin 7) (by simp (config := { maxSteps := 2000000 }) only [go_sem, ↓reduceIte, Int.reduceToNat, Nat.reduceMul, Int.reduceBEq, Int.reduceBNe, Nat.reduceBEq, Nat.reduceAdd, Nat.reduceSub, Nat.reduceLeDiff, Nat.reduceEqDiff, Nat.reduceLT, reduceCtorEq, Nat.le_refl, List.length_map])) _ ?_
  simp (config := { maxSteps := 2000000 }) only [go_sem, ↓reduceIte, Int.reduceToNat, Nat.reduceMul, Int.reduceBEq, Int.reduceBNe, Nat.reduceBEq, Nat.reduceAdd, Nat.reduceSub, Nat.reduceLeDiff, Nat.reduceEqDiff, Nat.reduceLT, reduceCtorEq]
  refine Retn.weak (weak_freeze 8 rfl (pin 8) (by simp (config := { maxSteps := 2000000 }) only [go_sem, ↓reduceIte, Int.reduceToNat, Nat.reduceMul, Int.reduceBEq, Int.reduceBNe, Nat.reduceBEq, Nat.reduceAdd, Nat.reduceSub, Nat.reduceLeDiff, Nat.reduceEqDiff, Nat.reduceLT, reduceCtorEq, Nat.le_refl, List.length_map])) _ ?_
  simp (config := { maxSteps := 2000000 }) only [go_sem, ↓reduceIte, Int.reduceToNat, Nat.reduceMul, Int.reduceBEq, Int.reduceBNe, Nat.reduceBEq, Nat.reduceAdd, Nat.reduceSub, Nat.reduceLeDiff, Nat.reduceEqDiff, Nat.reduceLT, reduceCtorEq]
  refine Retn.ret (π := [1]) hp hnp ⟨rfl, ?_⟩
  simp (config := { maxSteps := 2000000 }) only [go_sem, ↓reduceIte, Int.reduceToNat, Nat.reduceMul, Int.reduceBEq, Int.reduceBNe, Nat.reduceBEq, Nat.reduceAdd, Nat.reduceSub, Nat.reduceLeDiff, Nat.reduceEqDiff, Nat.reduceLT, reduceCtorEq, Aw.renR, Aw.pos]
  have tk : ∀ {α : Type} (c : α → List AV) (l : List α), (l.map c).take l.length = l.map c := fun c l => List.take_of_length_le (by rw [List.length_map]; exact Nat.le_refl _)
  have tb : ∀ z : List AV, ((n.brs.l.eraseIdx k).map brc ++ [z]).take (n.brs.l.length - 1) = (n.brs.l.eraseIdx k).map brc := fun z => List.take_left' (by rw [List.length_map, hel])
  simp only [tk, tb]
  exact ⟨rfl, rfl⟩
end Go.Proofs.Ytmkodhpbjedfkaa
