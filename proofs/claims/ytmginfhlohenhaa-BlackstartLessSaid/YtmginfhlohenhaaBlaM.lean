/- Black starts: a step is performed. -/
import Derived.Test.YtmginfhlohenhaaAwZk
import Derived.Test.YtmginfhlohenhaaBlaI
set_option linter.unusedVariables false
set_option linter.unusedSimpArgs false
namespace Go.Proofs.Ytmginfhlohenhaa
open Go.Proofs.Ytmginfhlohenhaa.Aw
attribute [local go_sem] Int.natCast_zero Int.natCast_one bne_self_eq_false beq_self_eq_true Bool.not_true Bool.not_false Option.isSome_none Option.isSome_some Aw.bkM_nil Option.getD_some Option.getD_none Nat.sub_zero Int.toNat_zero Aw.frzS Aw.frzT Aw.frzA Aw.frzL Aw.frzR Aw.frzO Aw.frzOL Aw.frzOT Aw.frzOR Aw.killS Aw.mapT Aw.mapR Aw.killM Aw.resAVs Aw.resAV Aw.quietOps Aw.wpP Aw.wpT Aw.wpS Aw.AOp.mild List.getElem?_cons_zero List.getElem?_cons_succ Bool.and_false Bool.and_self Bool.false_and Aw.opOb Aw.gdB Aw.Rnd Aw.subTm List.length_map Int.toNat_natCast and_self Aw.SeqC Aw.stops Aw.Ends Aw.looks Aw.renA Aw.renL Aw.renT Aw.renS Aw.wpO Aw.aop Aw.putTm Aw.St.ev Aw.St.put Aw.St.putO Aw.binAV Aw.intBin Aw.strBin Aw.pickAV Aw.optInt Aw.AV.strip Aw.AV.guard Aw.AV.cells Aw.gdOb Aw.AOp.opds Aw.AOp.still Aw.ptrCells Aw.St.reg Aw.fillAV Aw.fillOb Aw.elsOb Aw.splice Aw.firm Aw.cellish Aw.AV.shut Aw.shutAll Aw.Seq Aw.Blk Aw.retS_nil Aw.mapA Aw.mapL Aw.borA Aw.borOb Aw.allOb Aw.tupOf Aw.params Aw.Opd.of Array.toList Value.cells List.map_cons List.map_nil List.getD_cons_zero List.getD_cons_succ List.getD_nil List.length_cons List.length_nil List.take_succ_cons List.take_zero List.take_nil List.drop_zero List.drop_succ_cons List.drop_nil List.set_cons_zero List.set_cons_succ List.append_nil List.nil_append List.cons_append List.all_cons List.all_nil cond_false cond_true if_true if_false true_and and_true Bool.and_true Bool.true_and Option.map_some Option.map_none false_implies forall_const implies_true forall_eq imp_self Bool.cond_false_right Bool.cond_true_left beq_true beq_false Bool.not_eq_true' Bool.false_eq_true Nat.zero_add Nat.add_zero Aw.eqCells Aw.stopDraw Aw.skipS Aw.exactCap Aw.revealS Aw.srcEls Aw.srcSz
attribute [local go_sem ↓] Aw.look_nil Aw.look_ite Aw.wpL_nil Aw.wpL_op Aw.wpL_gd Aw.wpQ_nil Aw.wpQ_op Aw.wpQ_gd Aw.wpC_draw Aw.wpC_reg Aw.wpC_skip Aw.wpC_ret Aw.wpC_exit Aw.wpC_seq Aw.wpC_block Aw.wpC_loop Aw.wpC_cond Aw.stopAt_nil Aw.stopAt_cons Aw.wpD_skip Aw.wpD_ret Aw.wpD_exit Aw.wpD_region Aw.wpD_draw Aw.wpM_nil Aw.wpM_op Aw.wpM_gd Aw.wpD_seq Aw.wpD_block Aw.wpD_loop Aw.wpD_cond
/- gridhall/blackstart.perform$1 -/
def a61 : ACode :=
  (.seq (.region false [] [
     ⟨(some 2), none, (.box 66 (.t 0))⟩,
     ⟨(some 3), none, (.mov (.v (.bool false)))⟩])
  (.seq (.region false [] [
     ⟨(some 4), none, (.fld 0 (.t 2))⟩,
     ⟨(some 5), none, (.load 1 false (.t 4))⟩,
     ⟨(some 6), none, (.load 1 false (.t 1))⟩,
     ⟨(some 7), none, (.bin .eql 9 (.t 5) (.t 6))⟩,
     ⟨(some 3), none, (.mov (.t 7))⟩])
  .ret))
theorem k61 : FnIs Try.prog 61 8 [.t 3] a61 := ⟨_, _, Try.func61, rfl, by kernel_rfl, by kernel_rfl, rfl⟩
/- gridhall/blackstart.perform -/
def a35 : ACode :=
  (.seq (.region false [] [
     ⟨(some 3), none, (.box 29 (.t 0))⟩,
     ⟨(some 5), none, (.box 50 (.t 2))⟩,
     ⟨(some 6), none, (.alloc 29 (.agg #[(.slice none 0 0), (.slice none 0 0), (.slice none 0 0), (.slice none 0 0), (.slice none 0 0), (.slice none 0 0)]))⟩,
     ⟨(some 7), none, (.mov (.v (.int .i64 0)))⟩])
  (.seq (.region false [] [
     ⟨(some 16), none, (.load 6 true (.t 3))⟩,
     ⟨(some 17), none, (.fld 0 (.t 5))⟩,
     ⟨(some 18), none, (.load 1 false (.t 17))⟩,
     ⟨(some 19), none, (.call 60 [(.t 16), (.t 18)])⟩,
     ⟨(some 8), none, (.mov (.t 19))⟩])
  (.seq (.block 0 (.seq (.region false [] [
      ⟨(some 21), none, (.mov (.t 8))⟩,
      ⟨(some 22), none, (.bin .lss 3 (.t 21) (.v (.int .i64 0)))⟩,
      ⟨(some 20), none, (.mov (.t 22))⟩])
   (.cond (.t 20)
     (.seq (.region false [] [
        ⟨(some 23), none, (.build (.agg #[(.slice none 0 0), (.slice none 0 0), (.slice none 0 0), (.slice none 0 0), (.slice none 0 0), (.slice none 0 0)]) [])⟩,
        ⟨none, none, (.store 6 (.t 6) (.t 23))⟩,
        ⟨(some 7), none, (.mov (.v (.int .i64 6)))⟩])
     .ret)
     (.seq (.region false [] [
        ⟨(some 25), none, (.mov (.t 1))⟩,
        ⟨(some 26), none, (.fld 0 (.t 5))⟩,
        ⟨(some 27), none, (.load 1 false (.t 26))⟩,
        ⟨(some 28), none, (.call 39 [(.t 25), (.t 27)])⟩,
        ⟨(some 24), none, (.mov (.t 28))⟩])
     (.cond (.t 24)
       (.seq (.region false [] [
          ⟨(some 29), none, (.build (.agg #[(.slice none 0 0), (.slice none 0 0), (.slice none 0 0), (.slice none 0 0), (.slice none 0 0), (.slice none 0 0)]) [])⟩,
          ⟨none, none, (.store 6 (.t 6) (.t 29))⟩,
          ⟨(some 7), none, (.mov (.v (.int .i64 7)))⟩])
       .ret)
       (.seq (.region false [] [
          ⟨(some 31), none, (.fld 1 (.t 5))⟩,
          ⟨(some 32), none, (.load 1 false (.t 31))⟩,
          ⟨(some 33), none, (.len (.t 32))⟩,
          ⟨(some 34), none, (.bin .gtr 3 (.t 33) (.v (.int .i64 32)))⟩,
          ⟨(some 30), none, (.mov (.t 34))⟩])
       (.cond (.t 30)
         (.seq (.region false [] [
            ⟨(some 35), none, (.build (.agg #[(.slice none 0 0), (.slice none 0 0), (.slice none 0 0), (.slice none 0 0), (.slice none 0 0), (.slice none 0 0)]) [])⟩,
            ⟨none, none, (.store 6 (.t 6) (.t 35))⟩,
            ⟨(some 7), none, (.mov (.v (.int .i64 2)))⟩])
         .ret)
         .skip)))))))
  (.seq (.seq (.region false [] [
     ⟨(some 36), none, (.fld 1 (.t 5))⟩,
     ⟨(some 37), none, (.load 1 false (.t 36))⟩,
     ⟨(some 38), none, (.len (.t 37))⟩,
     ⟨(some 39), none, (.mov (.v (.int .i64 0)))⟩])
  (.block 1 (.loop (.seq (.region false [] [
       ⟨(some 40), none, (.bin .lss 3 (.t 39) (.t 38))⟩])
    (.seq (.cond (.t 40)
      .skip
      (.exit 1))
    (.seq (.block 2 (.seq (.region false [] [
        ⟨(some 41), none, (.idx 1 (.t 37) (.t 39))⟩,
        ⟨(some 42), none, (.load 1 false (.t 41))⟩,
        ⟨(some 10), none, (.alloc 9 (.string ⟨#[]⟩))⟩,
        ⟨none, none, (.store 1 (.t 10) (.t 42))⟩])
     (.seq (.region false [] [
        ⟨(some 43), none, (.fld 1 (.t 3))⟩,
        ⟨(some 44), none, (.load 1 false (.t 43))⟩,
        ⟨(some 45), none, (.mkfn 61 [(.t 10)])⟩,
        ⟨(some 46), none, (.call 44 [(.t 44), (.t 45)])⟩,
        ⟨(some 11), none, (.mov (.t 46))⟩])
     (.seq (.block 3 (.seq (.region false [] [
         ⟨(some 48), none, (.mov (.t 11))⟩,
         ⟨(some 49), none, (.bin .lss 3 (.t 48) (.v (.int .i64 0)))⟩,
         ⟨(some 47), none, (.mov (.t 49))⟩])
      (.cond (.t 47)
        (.seq (.region false [] [
           ⟨(some 50), none, (.build (.agg #[(.slice none 0 0), (.slice none 0 0), (.slice none 0 0), (.slice none 0 0), (.slice none 0 0), (.slice none 0 0)]) [])⟩,
           ⟨none, none, (.store 6 (.t 6) (.t 50))⟩,
           ⟨(some 7), none, (.mov (.v (.int .i64 6)))⟩])
        .ret)
        (.seq (.region false [] [
           ⟨(some 52), none, (.fld 1 (.t 3))⟩,
           ⟨(some 53), none, (.load 1 false (.t 52))⟩,
           ⟨(some 54), none, (.mov (.t 11))⟩,
           ⟨(some 55), none, (.idx 5 (.t 53) (.t 54))⟩,
           ⟨(some 56), none, (.fld 4 (.t 55))⟩,
           ⟨(some 57), none, (.load 1 false (.t 56))⟩,
           ⟨(some 58), none, (.un .not (.t 57))⟩,
           ⟨(some 51), none, (.mov (.t 58))⟩])
        (.cond (.t 51)
          (.seq (.region false [] [
             ⟨(some 59), none, (.build (.agg #[(.slice none 0 0), (.slice none 0 0), (.slice none 0 0), (.slice none 0 0), (.slice none 0 0), (.slice none 0 0)]) [])⟩,
             ⟨none, none, (.store 6 (.t 6) (.t 59))⟩,
             ⟨(some 7), none, (.mov (.v (.int .i64 11)))⟩])
          .ret)
          .skip)))))
     (.region false [] [
        ⟨(some 61), none, (.load 6 true (.t 3))⟩,
        ⟨(some 62), none, (.load 1 false (.t 10))⟩,
        ⟨(some 63), none, (.call 11 [(.t 61), (.t 62), (.v (.bool false))])⟩,
        ⟨(some 60), none, (.mov (.t 63))⟩,
        ⟨(some 64), none, (.ext 0 (.t 60))⟩,
        ⟨(some 65), none, (.ext 1 (.t 60))⟩,
        ⟨none, none, (.store 6 (.t 3) (.t 64))⟩])))))
    (.region false [] [
       ⟨(some 66), none, (.bin .add 3 (.t 39) (.v (.int .i64 1)))⟩,
       ⟨(some 39), none, (.mov (.t 66))⟩])))))))
  (.seq (.seq (.region false [] [
     ⟨(some 67), none, (.mov (.t 1))⟩,
     ⟨(some 68), none, (.len (.t 67))⟩,
     ⟨(some 69), none, (.mov (.v (.int .i64 0)))⟩])
  (.block 4 (.loop (.seq (.region false [] [
       ⟨(some 70), none, (.bin .lss 3 (.t 69) (.t 68))⟩])
    (.seq (.cond (.t 70)
      .skip
      (.exit 4))
    (.seq (.block 5 (.seq (.region false [] [
        ⟨(some 71), none, (.idx 1 (.t 67) (.t 69))⟩,
        ⟨(some 72), none, (.load 1 false (.t 71))⟩,
        ⟨(some 13), none, (.mov (.t 72))⟩])
     (.seq (.region true [[], [], [1], [], [], [3, 4], [2, 5], [6], [7], [], [9], [], [10, 11], [12], [13], [0, 8, 14, 5], [15], [16], [16], [17, 15, 0, 1, 2, 3, 4, 5, 6, 7, 8, 9, 10, 11, 12, 13, 14, 15, 16, 17], [18, 19, 0, 1, 2, 3, 4, 5, 6, 7, 8, 9, 10, 11, 12, 13, 14, 15, 16, 17, 18, 19]] [
        ⟨(some 74), none, (.load 6 true (.t 3))⟩,
        ⟨(some 75), none, (.fld 3 (.t 3))⟩,
        ⟨(some 76), none, (.load 1 false (.t 75))⟩,
        ⟨(some 77), none, (.load 6 true (.t 3))⟩,
        ⟨(some 78), none, (.mov (.t 13))⟩,
        ⟨(some 79), none, (.call 60 [(.t 77), (.t 78)])⟩,
        ⟨(some 80), none, (.idx 5 (.t 76) (.t 79))⟩,
        ⟨(some 81), none, (.fld 1 (.t 80))⟩,
        ⟨(some 82), none, (.load 1 false (.t 81))⟩,
        ⟨(some 83), none, (.fld 3 (.t 3))⟩,
        ⟨(some 84), none, (.load 1 false (.t 83))⟩,
        ⟨(some 85), none, (.mov (.t 8))⟩,
        ⟨(some 86), none, (.idx 5 (.t 84) (.t 85))⟩,
        ⟨(some 87), none, (.fld 1 (.t 86))⟩,
        ⟨(some 88), none, (.load 1 false (.t 87))⟩,
        ⟨(some 89), none, (.call 28 [(.t 74), (.t 82), (.t 88)])⟩,
        ⟨(some 73), none, (.mov (.t 89))⟩,
        ⟨(some 90), none, (.ext 0 (.t 73))⟩,
        ⟨(some 91), none, (.ext 1 (.t 73))⟩,
        ⟨(some 14), none, (.mov (.t 90))⟩,
        ⟨(some 15), none, (.mov (.t 91))⟩])
     (.seq (.region false [] [
        ⟨(some 92), none, (.mov (.t 15))⟩,
        ⟨(some 93), none, (.mov (.t 92))⟩,
        ⟨(some 94), (some (93, true)), (.mov (.t 14))⟩,
        ⟨(some 95), (some (93, true)), (.len (.t 94))⟩,
        ⟨(some 96), (some (93, true)), (.bin .eql 3 (.t 95) (.v (.int .i64 0)))⟩,
        ⟨(some 97), none, (.pick (.t 93) (.t 96) (.v (.bool false)))⟩])
     (.cond (.t 97)
       (.seq (.region false [] [
          ⟨(some 98), none, (.load 6 true (.t 3))⟩,
          ⟨none, none, (.store 6 (.t 6) (.t 98))⟩,
          ⟨(some 7), none, (.mov (.v (.int .i64 0)))⟩])
       .ret)
       .skip)))))
    (.region false [] [
       ⟨(some 99), none, (.bin .add 3 (.t 69) (.v (.int .i64 1)))⟩,
       ⟨(some 69), none, (.mov (.t 99))⟩])))))))
  (.seq (.region false [] [
     ⟨(some 100), none, (.build (.agg #[(.slice none 0 0), (.slice none 0 0), (.slice none 0 0), (.slice none 0 0), (.slice none 0 0), (.slice none 0 0)]) [])⟩,
     ⟨none, none, (.store 6 (.t 6) (.t 100))⟩,
     ⟨(some 7), none, (.mov (.v (.int .i64 15)))⟩])
  .ret))))))
theorem k35 : FnIs Try.prog 35 101 [.c 6 6 true, .t 7] a35 := ⟨_, _, Try.func35, rfl, by kernel_rfl, by kernel_rfl, rfl⟩

theorem s61 (x : Swi) (s : ByteArray) : Aw.Spec Try.prog 61 [] [.agg (swc x), .pim [S s]] (Gives (· = B (seq x.name s))) := by
  refine Aw.Spec.givesD k61 mixed rfl rfl rfl fun E hn hnp hp => ?_
  unfold a61
  simp (config := { maxSteps := 2000000 }) only [go_sem, ↓reduceIte, Int.reduceToNat, Nat.reduceMul, Int.reduceBEq, Int.reduceBNe, Nat.reduceBEq, Nat.reduceAdd, Nat.reduceSub, Nat.reduceLeDiff, Nat.reduceEqDiff, Nat.reduceLT, reduceCtorEq]
  rfl
/-- Switches that are open when they come to be closed. -/
def OpenL (n : Net) : List ByteArray → Prop
  | [] => True
  | s :: r => SwName n s ∧ (n.sws.l.getD (swK n s) default).opn = true ∧ OpenL (setS n s) r
theorem OpenL.names : ∀ {L : List ByteArray} {n : Net}, NetV n → OpenL n L → ∀ s ∈ L, SwName n s
  | [], _, _, _ => fun s h => by cases h
  | x :: r, n, hv, ⟨h1, h2, h3⟩ => fun s hs => by
    rcases List.mem_cons.1 hs with rfl | hs
    · exact h1
    · obtain ⟨f1, _⟩ := find_sw hv h1
      have := OpenL.names (set_v hv f1) h3 s hs
      rw [SwName_iff] at this ⊢
      rw [← set_names f1]; exact this
theorem ix_sw2 {n : Net} (hv : NetV n) {s : ByteArray} (h : SwName n s) : fIndex (fun x => seq x.name s) 0 n.sws.l = (swK n s : Int) := by
  obtain ⟨x, hx, rfl⟩ := h
  obtain ⟨i, hi, rfl⟩ := List.mem_iff_getElem.1 hx
  have h1 := ix_sw hv hi
  show ixSw n _ = ((ixSw n _).toNat : Int)
  rw [h1]; rfl
def joinR (m : Net) (r g : ByteArray) : Bool := match wayN m (nodG m r) (nodG m g) with
  | some l => l.isEmpty
  | none => false
def cellsN (o : Option Net) : List AV := match o with
  | some m => netc m
  | none => nil6
def perfF (m : Net) (run : List ByteArray) (st : Stp) : Option Net := if run.any (fun r => joinR (closeL m st.2) r st.1) = true then some (closeL m st.2) else none
def perfE (m : Net) (run : List ByteArray) (st : Stp) : Int := if run.any (fun r => joinR (closeL m st.2) r st.1) = true then 0 else 15
set_option maxRecDepth 20000 in
set_option maxHeartbeats 4000000 in
theorem s35 (n : Net) (hk : NetOk n) (hv : NetV n) (run : List ByteArray) (st : Stp) (hr : ∀ r ∈ run, GenName n r) (hg : GenName n st.1) (hnot : run.any (seq st.1) = false) (hop : OpenL n st.2) (hst : st.2.length ≤ 32) (hrl : run.length ≤ 1000) :
    SpecK Try.prog 35 [.arr 9 1 (run.map sc)] [neta n, .hnd 0 0 run.length run.length false, .agg (stc st)] (fun rg v => rg = [.arr 9 1 (run.map sc), .box 29 (cellsN (perfF n run st))] ∧ v = .tup [.agg (cellsN (perfF n run st)), I (perfE n run st)]) := by
  refine SpecK.regsW k35 rfl rfl fun E hn hnp hp => ?_
  unfold a35
  obtain ⟨g1, g2, g3⟩ := ix_gen hg
  obtain ⟨gi, hgi⟩ : ∃ gi : Nat, ixGe n st.1 = gi := ⟨(ixGe n st.1).toNat, by omega⟩
  have c0 : decide ((gi : Int) < 0) = false := decide_eq_false (by omega)
  have c1 : decide ((st.2.length : Int) > 32) = false := decide_eq_false (by omega)
  refine AWp.ofD [999] [] hn mixed rfl ?_
  simp (config := { maxSteps := 2000000 }) only [go_sem, ↓reduceIte, Int.reduceToNat, Nat.reduceMul, Int.reduceBEq, Int.reduceBNe, Nat.reduceBEq, Nat.reduceAdd, Nat.reduceSub, Nat.reduceLeDiff, Nat.reduceEqDiff, Nat.reduceLT, reduceCtorEq]
  (refine AWpL.calle (s60 n hv.nge st.1) rfl (by rw [hn]; rfl) (by simp (config := { maxSteps := 2000000 }) only [go_sem, ↓reduceIte, Int.reduceToNat, Nat.reduceMul, Int.reduceBEq, Int.reduceBNe, Nat.reduceBEq, Nat.reduceAdd, Nat.reduceSub, Nat.reduceLeDiff, Nat.reduceEqDiff, Nat.reduceLT, reduceCtorEq]) (AWpL.ofM hn rfl ?_); simp (config := { maxSteps := 2000000 }) only [go_sem, ↓reduceIte, Int.reduceToNat, Nat.reduceMul, Int.reduceBEq, Int.reduceBNe, Nat.reduceBEq, Nat.reduceAdd, Nat.reduceSub, Nat.reduceLeDiff, Nat.reduceEqDiff, Nat.reduceLT, reduceCtorEq])
  simp (config := { maxSteps := 2000000 }) only [go_sem, ↓reduceIte, Int.reduceToNat, Nat.reduceMul, Int.reduceBEq, Int.reduceBNe, Nat.reduceBEq, Nat.reduceAdd, Nat.reduceSub, Nat.reduceLeDiff, Nat.reduceEqDiff, Nat.reduceLT, reduceCtorEq, hgi, c0]
  refine AWpL.calle (y := B (run.any (seq st.1))) (by
    have h := s39 none false run st.1 (by omega)
    have tk : (run.map sc).take run.length = run.map sc := List.take_of_length_le (by rw [List.length_map]; exact Nat.le_refl _)
    simp (config := { maxSteps := 2000000 }) only [go_sem, ↓reduceIte, Int.reduceToNat, Nat.reduceMul, Int.reduceBEq, Int.reduceBNe, Nat.reduceBEq, Nat.reduceAdd, Nat.reduceSub, Nat.reduceLeDiff, Nat.reduceEqDiff, Nat.reduceLT, reduceCtorEq, Aw.borA, List.map_cons, List.map_nil, List.drop_zero, tk]
    exact h) rfl (by rw [hn]; rfl) (by simp (config := { maxSteps := 2000000 }) only [go_sem, ↓reduceIte, Int.reduceToNat, Nat.reduceMul, Int.reduceBEq, Int.reduceBNe, Nat.reduceBEq, Nat.reduceAdd, Nat.reduceSub, Nat.reduceLeDiff, Nat.reduceEqDiff, Nat.reduceLT, reduceCtorEq, Nat.le_refl]) (AWpL.ofM hn rfl ?_)
  simp (config := { maxSteps := 2000000 }) only [go_sem, ↓reduceIte, Int.reduceToNat, Nat.reduceMul, Int.reduceBEq, Int.reduceBNe, Nat.reduceBEq, Nat.reduceAdd, Nat.reduceSub, Nat.reduceLeDiff, Nat.reduceEqDiff, Nat.reduceLT, reduceCtorEq, hnot, c1]
  refine AWp.loop (fun k s => ∃ (i : Nat) (m : Net), i + k = st.2.length ∧ NetOk m ∧ NetV m ∧ m.gens.l = n.gens.l ∧ m.nodes.l = n.nodes.l ∧ closeL m (st.2.drop i) = closeL n st.2 ∧ OpenL m (st.2.drop i) ∧ Weak E s ⟨[(1, .hnd 0 0 run.length run.length false), (3, .ptr 1 0 0), (5, .ptr 2 0 0), (6, .ptr 3 0 0), (8, I gi), (37, ss none false st.2), (38, I st.2.length), (39, I i)], [.arr 9 1 (run.map sc), .box 29 (netc m), .box 50 (stc st), .box 29 nil6]⟩) (n := st.2.length)
    ⟨0, n, by omega, hk, hv, rfl, rfl, rfl, hop, weak_to [0, 1, 2, 3] hp hnp rfl (by simp (config := { maxSteps := 2000000 }) only [go_sem, ↓reduceIte, Int.reduceToNat, Nat.reduceMul, Int.reduceBEq, Int.reduceBNe, Nat.reduceBEq, Nat.reduceAdd, Nat.reduceSub, Nat.reduceLeDiff, Nat.reduceEqDiff, Nat.reduceLT, reduceCtorEq, Int.natCast_zero, Aw.pos] <;> rfl) (by simp (config := { maxSteps := 2000000 }) only [go_sem, ↓reduceIte, Int.reduceToNat, Nat.reduceMul, Int.reduceBEq, Int.reduceBNe, Nat.reduceBEq, Nat.reduceAdd, Nat.reduceSub, Nat.reduceLeDiff, Nat.reduceEqDiff, Nat.reduceLT, reduceCtorEq, Aw.renR, Aw.pos] <;> rfl)⟩ ?_
  rintro k s ⟨i, m, hik, hmk, hmv, hmg, hmn, hcl, hmo, hw⟩
  refine AWp.weak hw (AWp.ofD [999] [] hn mixed rfl ?_)
  rcases Nat.lt_or_ge i st.2.length with hlt | hge
  · have e0 : decide ((i : Int) < (st.2.length : Int)) = true := decide_eq_true (by omega)
    have e1 := getD_mapD default sc hlt
    have e2 : IntKind.i64.wrap ((i : Int) + 1) = ((i + 1 : Nat) : Int) := by rw [w64 (by omega) (by omega)]; omega
    rw [List.drop_eq_getElem_cons hlt] at hcl hmo
    have hd : st.2[i] = st.2.getD i default := by rw [List.getD_eq_getElem?_getD, List.getElem?_eq_getElem hlt]; rfl
    rw [hd] at hcl hmo
    generalize st.2.getD i default = x at *
    obtain ⟨o1, o2, o3⟩ := hmo
    obtain ⟨f1, f2, f3⟩ := find_sw hmv o1
    have hix := ix_sw2 hmv o1
    have e3 := getD_mapD default swc f1
    have c2 : decide ((swK m x : Int) < 0) = false := decide_eq_false (by omega)
    simp (config := { maxSteps := 2000000 }) only [go_sem, ↓reduceIte, Int.reduceToNat, Nat.reduceMul, Int.reduceBEq, Int.reduceBNe, Nat.reduceBEq, Nat.reduceAdd, Nat.reduceSub, Nat.reduceLeDiff, Nat.reduceEqDiff, Nat.reduceLT, reduceCtorEq, e0, e1]
    (repeat (refine And.intro (by first | omega | (refine ⟨by omega, by omega⟩) | (refine ⟨by omega, by omega, by omega⟩) | (simp only [List.length_map, List.length_range, List.length_append, List.length_cons, List.length_nil, List.length_replicate, List.length_set]; omega) | (simp; omega) | (intro hgd; cases hgd) | (intro hgd; refine ⟨hgd, ?_⟩; first | omega | (refine ⟨by omega, by omega⟩) | (simp; omega))) ?_))
    refine AWpL.calle (s44 m.sws.nl m.sws.fl m.sws.l 61 [.pim [S x]] (fun y => seq y.name x) (by kernel_rfl) rfl (fun y _ => s61 y x) (by have := hmv.nsw; omega)) rfl (by rw [hn]; rfl) (by simp (config := { maxSteps := 2000000 }) only [go_sem, ↓reduceIte, Int.reduceToNat, Nat.reduceMul, Int.reduceBEq, Int.reduceBNe, Nat.reduceBEq, Nat.reduceAdd, Nat.reduceSub, Nat.reduceLeDiff, Nat.reduceEqDiff, Nat.reduceLT, reduceCtorEq]) (AWpL.ofM hn rfl ?_)
    simp (config := { maxSteps := 2000000 }) only [go_sem, ↓reduceIte, Int.reduceToNat, Nat.reduceMul, Int.reduceBEq, Int.reduceBNe, Nat.reduceBEq, Nat.reduceAdd, Nat.reduceSub, Nat.reduceLeDiff, Nat.reduceEqDiff, Nat.reduceLT, reduceCtorEq, hix, c2, e3, o2]
    (repeat (refine And.intro (by first | omega | (refine ⟨by omega, by omega⟩) | (refine ⟨by omega, by omega, by omega⟩) | (simp only [List.length_map, List.length_range, List.length_append, List.length_cons, List.length_nil, List.length_replicate, List.length_set]; omega) | (simp; omega) | (intro hgd; cases hgd) | (intro hgd; refine ⟨hgd, ?_⟩; first | omega | (refine ⟨by omega, by omega⟩) | (simp; omega))) ?_))
    refine AWpL.callA [] (s11 m hmk hmv x (swK m x) f1 f2) rfl rfl (by rw [hn]; rfl) rfl (fun r hr => by cases hr) fun rg v hv' => ?_
    obtain ⟨rfl, rfl⟩ := hv'
    refine ⟨Nat.zero_le _, ?_⟩
    rw [retS_new]
    refine AWpL.ofM hn rfl ?_
    simp (config := { maxSteps := 2000000 }) only [go_sem, ↓reduceIte, Int.reduceToNat, Nat.reduceMul, Int.reduceBEq, Int.reduceBNe, Nat.reduceBEq, Nat.reduceAdd, Nat.reduceSub, Nat.reduceLeDiff, Nat.reduceEqDiff, Nat.reduceLT, reduceCtorEq, e2]
    exact ⟨k - 1, by omega, i + 1, setS m x, by omega, set_ok hmk f1, set_v hmv f1, hmg, hmn, hcl, o3, weak_to [0, 1, 2, 3] hp hnp rfl (by simp (config := { maxSteps := 2000000 }) only [go_sem, ↓reduceIte, Int.reduceToNat, Nat.reduceMul, Int.reduceBEq, Int.reduceBNe, Nat.reduceBEq, Nat.reduceAdd, Nat.reduceSub, Nat.reduceLeDiff, Nat.reduceEqDiff, Nat.reduceLT, reduceCtorEq, Aw.pos]) (by simp (config := { maxSteps := 2000000 }) only [go_sem, ↓reduceIte, Int.reduceToNat, Nat.reduceMul, Int.reduceBEq, Int.reduceBNe, Nat.reduceBEq, Nat.reduceAdd, Nat.reduceSub, Nat.reduceLeDiff, Nat.reduceEqDiff, Nat.reduceLT, reduceCtorEq, Aw.renR, Aw.pos] <;> rfl)⟩
  · have e0 : decide ((i : Int) < (st.2.length : Int)) = false := decide_eq_false (by omega)
    rw [List.drop_of_length_le hge] at hcl
    have hcl : m = closeL n st.2 := hcl
    have hgm : ∀ x, GenName m x ↔ GenName n x := fun x => by unfold GenName; rw [hmg]
    have hixm : ∀ x, ixGe m x = ixGe n x := fun x => by unfold ixGe; rw [hmg]
    have hgk : gi < m.gens.l.length := by rw [hmg]; rw [hgi] at g2; omega
    have f5 := getD_mapD default gec hgk
    have hnG : nodG m st.1 = (m.gens.l.getD gi default).node := by unfold nodG; rw [hixm, hgi]; rfl
    have hgin := nodG_in hmv ((hgm _).2 hg)
    have hF : perfF n run st = if run.any (fun r => joinR m r st.1) = true then some m else none := by unfold perfF; rw [← hcl]
    have hE : perfE n run st = if run.any (fun r => joinR m r st.1) = true then 0 else 15 := by unfold perfE; rw [← hcl]
    simp (config := { maxSteps := 2000000 }) only [go_sem, ↓reduceIte, Int.reduceToNat, Nat.reduceMul, Int.reduceBEq, Int.reduceBNe, Nat.reduceBEq, Nat.reduceAdd, Nat.reduceSub, Nat.reduceLeDiff, Nat.reduceEqDiff, Nat.reduceLT, reduceCtorEq, e0]
    refine AWp.loop (fun k s => ∃ j : Nat, j + k = run.length ∧ (run.take j).any (fun r => joinR m r st.1) = false ∧ Weak E s ⟨[(3, .ptr 1 0 0), (6, .ptr 3 0 0), (8, I gi), (67, .hnd 0 0 run.length run.length false), (68, I run.length), (69, I j)], [.arr 9 1 (run.map sc), .box 29 (netc m), .box 50 (stc st), .box 29 nil6]⟩) (n := run.length)
      ⟨0, by omega, rfl, weak_to [0, 1, 2, 3] hp hnp rfl (by simp (config := { maxSteps := 2000000 }) only [go_sem, ↓reduceIte, Int.reduceToNat, Nat.reduceMul, Int.reduceBEq, Int.reduceBNe, Nat.reduceBEq, Nat.reduceAdd, Nat.reduceSub, Nat.reduceLeDiff, Nat.reduceEqDiff, Nat.reduceLT, reduceCtorEq, Int.natCast_zero, Aw.pos] <;> rfl) (by simp (config := { maxSteps := 2000000 }) only [go_sem, ↓reduceIte, Int.reduceToNat, Nat.reduceMul, Int.reduceBEq, Int.reduceBNe, Nat.reduceBEq, Nat.reduceAdd, Nat.reduceSub, Nat.reduceLeDiff, Nat.reduceEqDiff, Nat.reduceLT, reduceCtorEq, Aw.renR, Aw.pos] <;> rfl)⟩ ?_
    rintro k2 s ⟨j, hjk, hja, hw⟩
    refine AWp.weak hw (AWp.ofD [999] [] hn mixed rfl ?_)
    rcases Nat.lt_or_ge j run.length with hjl | hjg
    · have d0 : decide ((j : Int) < (run.length : Int)) = true := decide_eq_true (by omega)
      have d1 := getD_mapD default sc hjl
      have d2 : IntKind.i64.wrap ((j : Int) + 1) = ((j + 1 : Nat) : Int) := by rw [w64 (by omega) (by omega)]; omega
      have hy : run.getD j default ∈ run := by
        rw [List.getD_eq_getElem?_getD, List.getElem?_eq_getElem hjl]
        exact List.getElem_mem _
      have hsu : (run.take (j + 1)).any (fun r => joinR m r st.1) = joinR m (run.getD j default) st.1 := by
        rw [take_get hjl, List.any_append, hja, List.getD_eq_getElem?_getD, List.getElem?_eq_getElem hjl]
        simp
      generalize run.getD j default = y at *
      have hyg := (hgm _).2 (hr y hy)
      obtain ⟨q1, q2, _⟩ := ix_gen hyg
      have hnd := nodG_in hmv hyg
      have hnY : nodG m y = (m.gens.l.getD (ixGe m y).toNat default).node := rfl
      obtain ⟨yi, hyi⟩ : ∃ yi : Nat, ixGe m y = yi := ⟨(ixGe m y).toNat, by omega⟩
      rw [hyi, Int.toNat_natCast] at q2 hnY
      have f6 := getD_mapD default gec q2
      simp (config := { maxSteps := 2000000 }) only [go_sem, ↓reduceIte, Int.reduceToNat, Nat.reduceMul, Int.reduceBEq, Int.reduceBNe, Nat.reduceBEq, Nat.reduceAdd, Nat.reduceSub, Nat.reduceLeDiff, Nat.reduceEqDiff, Nat.reduceLT, reduceCtorEq, d0, d1]
      (repeat (refine And.intro (by first | omega | (refine ⟨by omega, by omega⟩) | (refine ⟨by omega, by omega, by omega⟩) | (simp only [List.length_map, List.length_range, List.length_append, List.length_cons, List.length_nil, List.length_replicate, List.length_set]; omega) | (simp; omega) | (intro hgd; cases hgd) | (intro hgd; refine ⟨hgd, ?_⟩; first | omega | (refine ⟨by omega, by omega⟩) | (simp; omega))) ?_))
      refine AWp.plan (.take 0 [false, true, true, true, true, true, true, true, true, true, true, true, true, true, true, false, false, false, false, false, false] (.take 1 [true, false, false, true, true, true, false, false, false, true, true, true, true, true, true, false, false, false, false, false, false] (.take 2 [true, true, false, true, true, true, false, false, false, true, true, true, true, true, true, false, false, false, false, false, false] (.take 3 [true, true, true, false, true, false, false, false, false, true, true, true, true, true, true, false, false, false, false, false, false] (.take 4 [true, true, true, true, false, false, false, false, false, true, true, true, true, true, true, false, false, false, false, false, false] (.take 9 [true, true, true, true, true, true, true, true, true, false, false, true, false, false, false, false, false, false, false, false, false] (.take 10 [true, true, true, true, true, true, true, true, true, true, false, true, false, false, false, false, false, false, false, false, false] (.take 11 [true, true, true, true, true, true, true, true, true, true, true, false, false, false, false, false, false, false, false, false, false] (.take 12 [true, true, true, true, true, true, true, true, true, true, true, true, false, false, false, false, false, false, false, false, false] (.take 13 [true, true, true, true, true, true, true, true, true, true, true, true, true, false, false, false, false, false, false, false, false] (.take 14 [true, true, true, true, true, true, true, true, true, true, true, true, true, true, false, false, false, false, false, false, false] (.one 5 (.take 6 [true, true, true, true, true, true, false, false, false, true, true, true, true, true, true, false, false, false, false, false, false] (.take 7 [true, true, true, true, true, true, true, false, false, true, true, true, true, true, true, false, false, false, false, false, false] (.take 8 [true, true, true, true, true, true, true, true, false, true, true, true, true, true, true, false, false, false, false, false, false] (.one 15 (.take 16 [true, true, true, true, true, true, true, true, true, true, true, true, true, true, true, true, false, false, false, false, false] (.take 17 [true, true, true, true, true, true, true, true, true, true, true, true, true, true, true, true, true, false, true, false, false] (.take 18 [true, true, true, true, true, true, true, true, true, true, true, true, true, true, true, true, true, true, false, true, false] (.take 19 [true, true, true, true, true, true, true, true, true, true, true, true, true, true, true, true, true, true, true, false, false] (.take 20 [true, true, true, true, true, true, true, true, true, true, true, true, true, true, true, true, true, true, true, true, false] .done))))))))))))))))))))) [true, true, true, true, true, true, true, true, true, true, true, true, true, true, true, true, true, true, true, true, true] mixed hn rfl rfl ?_
      simp (config := { maxSteps := 2000000 }) only [go_sem, ↓reduceIte, Int.reduceToNat, Nat.reduceMul, Int.reduceBEq, Int.reduceBNe, Nat.reduceBEq, Nat.reduceAdd, Nat.reduceSub, Nat.reduceLeDiff, Nat.reduceEqDiff, Nat.reduceLT, reduceCtorEq, f5, ← hnG]
      refine ⟨by omega, ?_⟩
      refine AOne.calle (s60 m hmv.nge y) rfl (by rw [hn]; rfl) (by simp (config := { maxSteps := 2000000 }) only [go_sem, ↓reduceIte, Int.reduceToNat, Nat.reduceMul, Int.reduceBEq, Int.reduceBNe, Nat.reduceBEq, Nat.reduceAdd, Nat.reduceSub, Nat.reduceLeDiff, Nat.reduceEqDiff, Nat.reduceLT, reduceCtorEq]) ?_
      simp (config := { maxSteps := 2000000 }) only [go_sem, ↓reduceIte, Int.reduceToNat, Nat.reduceMul, Int.reduceBEq, Int.reduceBNe, Nat.reduceBEq, Nat.reduceAdd, Nat.reduceSub, Nat.reduceLeDiff, Nat.reduceEqDiff, Nat.reduceLT, reduceCtorEq, hyi, f6, ← hnY]
      refine ⟨by omega, ?_⟩
      refine AOne.callA (s28 m hmk hmv (nodG m y) (nodG m st.1) hnd hgin) rfl (by rw [hn]; rfl) fun rg v hv' => ?_
      obtain ⟨rfl, rfl⟩ := hv'
      rw [retS_nil]
      have hJ : joinR m y st.1 = (match wayN m (nodG m y) (nodG m st.1) with
        | some l => l.isEmpty
        | none => false) := rfl
      cases hw : wayN m (nodG m y) (nodG m st.1) with
      | none =>
        rw [hw] at hJ
        rw [show joinR m y st.1 = false from hJ] at hsu
        simp (config := { maxSteps := 2000000 }) only [go_sem, ↓reduceIte, Int.reduceToNat, Nat.reduceMul, Int.reduceBEq, Int.reduceBNe, Nat.reduceBEq, Nat.reduceAdd, Nat.reduceSub, Nat.reduceLeDiff, Nat.reduceEqDiff, Nat.reduceLT, reduceCtorEq, Option.isSome_none, Option.getD_none, List.map_nil, d2]
        exact ⟨k2 - 1, by omega, j + 1, by omega, hsu, weak_to [0, 1, 2, 3] hp hnp rfl (by simp (config := { maxSteps := 2000000 }) only [go_sem, ↓reduceIte, Int.reduceToNat, Nat.reduceMul, Int.reduceBEq, Int.reduceBNe, Nat.reduceBEq, Nat.reduceAdd, Nat.reduceSub, Nat.reduceLeDiff, Nat.reduceEqDiff, Nat.reduceLT, reduceCtorEq, Aw.pos]) (by simp (config := { maxSteps := 2000000 }) only [go_sem, ↓reduceIte, Int.reduceToNat, Nat.reduceMul, Int.reduceBEq, Int.reduceBNe, Nat.reduceBEq, Nat.reduceAdd, Nat.reduceSub, Nat.reduceLeDiff, Nat.reduceEqDiff, Nat.reduceLT, reduceCtorEq, Aw.renR, Aw.pos] <;> rfl)⟩
      | some q =>
        rw [hw] at hJ
        simp (config := { maxSteps := 2000000 }) only [go_sem, ↓reduceIte, Int.reduceToNat, Nat.reduceMul, Int.reduceBEq, Int.reduceBNe, Nat.reduceBEq, Nat.reduceAdd, Nat.reduceSub, Nat.reduceLeDiff, Nat.reduceEqDiff, Nat.reduceLT, reduceCtorEq, Option.isSome_some, Option.getD_some, d2]
        refine ⟨fun h5 => ?_, fun h5 => ?_⟩
        · have hq : q = [] := by
            rw [beq_iff_eq] at h5
            exact List.eq_nil_of_length_eq_zero (by omega)
          subst hq
          have hany : run.any (fun r => joinR m r st.1) = true := List.any_eq_true.2 ⟨y, hy, hJ⟩
          rw [hF, hE, if_pos hany, if_pos hany]
          refine Retn.ret (π := [0, 3]) hp hnp ⟨rfl, ?_⟩
          simp (config := { maxSteps := 2000000 }) only [go_sem, ↓reduceIte, Int.reduceToNat, Nat.reduceMul, Int.reduceBEq, Int.reduceBNe, Nat.reduceBEq, Nat.reduceAdd, Nat.reduceSub, Nat.reduceLeDiff, Nat.reduceEqDiff, Nat.reduceLT, reduceCtorEq, Aw.renR, Aw.pos]
          exact ⟨rfl, rfl⟩
        · have hJf : joinR m y st.1 = false := by
            rw [hJ]
            cases q with
            | nil => cases h5
            | cons a r => rfl
          rw [hJf] at hsu
          exact ⟨k2 - 1, by omega, j + 1, by omega, hsu, weak_to [0, 1, 2, 3] hp hnp rfl (by simp (config := { maxSteps := 2000000 }) only [go_sem, ↓reduceIte, Int.reduceToNat, Nat.reduceMul, Int.reduceBEq, Int.reduceBNe, Nat.reduceBEq, Nat.reduceAdd, Nat.reduceSub, Nat.reduceLeDiff, Nat.reduceEqDiff, Nat.reduceLT, reduceCtorEq, Aw.pos]) (by simp (config := { maxSteps := 2000000 }) only [go_sem, ↓reduceIte, Int.reduceToNat, Nat.reduceMul, Int.reduceBEq, Int.reduceBNe, Nat.reduceBEq, Nat.reduceAdd, Nat.reduceSub, Nat.reduceLeDiff, Nat.reduceEqDiff, Nat.reduceLT, reduceCtorEq, Aw.renR, Aw.pos] <;> rfl)⟩
    · have d0 : decide ((j : Int) < (run.length : Int)) = false := decide_eq_false (by omega)
      rw [List.take_of_length_le hjg] at hja
      rw [hF, hE, hja, if_neg (by decide), if_neg (by decide)]
      simp (config := { maxSteps := 2000000 }) only [go_sem, ↓reduceIte, Int.reduceToNat, Nat.reduceMul, Int.reduceBEq, Int.reduceBNe, Nat.reduceBEq, Nat.reduceAdd, Nat.reduceSub, Nat.reduceLeDiff, Nat.reduceEqDiff, Nat.reduceLT, reduceCtorEq, d0]
      refine Retn.ret (π := [0, 3]) hp hnp ⟨rfl, ?_⟩
      simp (config := { maxSteps := 2000000 }) only [go_sem, ↓reduceIte, Int.reduceToNat, Nat.reduceMul, Int.reduceBEq, Int.reduceBNe, Nat.reduceBEq, Nat.reduceAdd, Nat.reduceSub, Nat.reduceLeDiff, Nat.reduceEqDiff, Nat.reduceLT, reduceCtorEq, Aw.renR, Aw.pos]
      exact ⟨rfl, rfl⟩
end Go.Proofs.Ytmginfhlohenhaa
