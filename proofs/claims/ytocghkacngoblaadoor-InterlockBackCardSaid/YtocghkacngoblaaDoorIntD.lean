/- Interlocks: the law of further rules. -/
import Derived.Test.YtocghkacngoblaaDoorAwZl
import Derived.Test.YtocghkacngoblaaDoorIntC
set_option linter.unusedVariables false
set_option linter.unusedSimpArgs false
namespace Go.Proofs.YtocghkacngoblaaDoor
open Go.Proofs.YtocghkacngoblaaDoor.Aw
attribute [local go_sem] Int.natCast_zero Int.natCast_one bne_self_eq_false beq_self_eq_true Bool.not_true Bool.not_false Option.isSome_none Option.isSome_some Aw.bkM_nil Option.getD_some Option.getD_none Nat.sub_zero Int.toNat_zero Aw.frzS Aw.frzT Aw.frzA Aw.frzL Aw.frzR Aw.frzO Aw.frzOL Aw.frzOT Aw.frzOR Aw.killS Aw.mapT Aw.mapR Aw.killM Aw.resAVs Aw.resAV Aw.quietOps Aw.wpP Aw.wpT Aw.wpS Aw.AOp.mild List.getElem?_cons_zero List.getElem?_cons_succ Bool.and_false Bool.and_self Bool.false_and Aw.opOb Aw.gdB Aw.Rnd Aw.subTm List.length_map Int.toNat_natCast and_self Aw.SeqC Aw.stops Aw.Ends Aw.looks Aw.renA Aw.renL Aw.renT Aw.renS Aw.wpO Aw.aop Aw.putTm Aw.St.ev Aw.St.put Aw.St.putO Aw.binAV Aw.intBin Aw.strBin Aw.pickAV Aw.optInt Aw.AV.strip Aw.AV.guard Aw.AV.cells Aw.gdOb Aw.AOp.opds Aw.AOp.still Aw.ptrCells Aw.St.reg Aw.fillAV Aw.fillOb Aw.elsOb Aw.splice Aw.firm Aw.cellish Aw.AV.shut Aw.shutAll Aw.Seq Aw.Blk Aw.retS_nil Aw.mapA Aw.mapL Aw.borA Aw.borOb Aw.allOb Aw.tupOf Aw.params Aw.Opd.of Array.toList Value.cells List.map_cons List.map_nil List.getD_cons_zero List.getD_cons_succ List.getD_nil List.length_cons List.length_nil List.take_succ_cons List.take_zero List.take_nil List.drop_zero List.drop_succ_cons List.drop_nil List.set_cons_zero List.set_cons_succ List.append_nil List.nil_append List.cons_append List.all_cons List.all_nil cond_false cond_true if_true if_false true_and and_true Bool.and_true Bool.true_and Option.map_some Option.map_none false_implies forall_const implies_true forall_eq imp_self Bool.cond_false_right Bool.cond_true_left beq_true beq_false Bool.not_eq_true' Bool.false_eq_true Nat.zero_add Nat.add_zero Aw.eqCells Aw.stopDraw Aw.skipS Aw.exactCap Aw.revealS Aw.srcEls Aw.srcSz
attribute [local go_sem ↓] Aw.look_nil Aw.look_ite Aw.wpL_nil Aw.wpL_op Aw.wpL_gd Aw.wpQ_nil Aw.wpQ_op Aw.wpQ_gd Aw.wpC_draw Aw.wpC_reg Aw.wpC_skip Aw.wpC_ret Aw.wpC_exit Aw.wpC_seq Aw.wpC_block Aw.wpC_loop Aw.wpC_cond Aw.stopAt_nil Aw.stopAt_cons Aw.wpD_skip Aw.wpD_ret Aw.wpD_exit Aw.wpD_region Aw.wpD_draw Aw.wpM_nil Aw.wpM_op Aw.wpM_gd Aw.wpD_seq Aw.wpD_block Aw.wpD_loop Aw.wpD_cond
/- slices.Grow[[]gridhall/api.InterlockRule,gridhall/api.InterlockRule] -/
def a24 : ACode :=
  (.seq (.region false [] [
     ⟨(some 4), none, (.mov (.v (.slice none 0 0)))⟩])
  (.seq (.seq (.region false [] [
     ⟨(some 5), none, (.mov (.t 1))⟩,
     ⟨(some 6), none, (.bin .lss 3 (.t 5) (.v (.int .i64 0)))⟩])
  (.cond (.t 6)
    (.region false [] [
       ⟨(some 7), none, (.bad none [])⟩,
       ⟨none, none, (.bad none [])⟩])
    .skip))
  (.seq (.seq (.region false [] [
     ⟨(some 8), none, (.mov (.t 1))⟩,
     ⟨(some 9), none, (.mov (.t 0))⟩,
     ⟨(some 10), none, (.cap (.t 9))⟩,
     ⟨(some 11), none, (.mov (.t 0))⟩,
     ⟨(some 12), none, (.len (.t 11))⟩,
     ⟨(some 13), none, (.bin .sub 3 (.t 10) (.t 12))⟩,
     ⟨(some 14), none, (.bin .sub 3 (.t 8) (.t 13))⟩,
     ⟨(some 1), none, (.mov (.t 14))⟩])
  (.seq (.region false [] [
     ⟨(some 15), none, (.mov (.t 1))⟩,
     ⟨(some 16), none, (.bin .gtr 3 (.t 15) (.v (.int .i64 0)))⟩])
  (.cond (.t 16)
    (.region false [] [
       ⟨(some 17), none, (.mov (.t 0))⟩,
       ⟨(some 18), none, (.mov (.t 0))⟩,
       ⟨(some 19), none, (.cap (.t 18))⟩,
       ⟨(some 20), none, (.slc 3 (.t 17) none (some (.t 19)) none)⟩,
       ⟨(some 21), none, (.mov (.t 1))⟩,
       ⟨(some 22), none, (.appz 24 3 48 (.agg #[(.bool false), (.string ⟨#[]⟩), (.slice none 0 0)]) (.t 20) (.t 21))⟩,
       ⟨(some 23), none, (.mov (.t 0))⟩,
       ⟨(some 24), none, (.len (.t 23))⟩,
       ⟨(some 25), none, (.slc 3 (.t 22) none (some (.t 24)) none)⟩,
       ⟨(some 0), none, (.mov (.t 25))⟩])
    .skip)))
  (.seq (.region false [] [
     ⟨(some 26), none, (.mov (.t 0))⟩,
     ⟨(some 4), none, (.mov (.t 26))⟩])
  .ret))))
theorem k24 : FnIs Tryd.prog 24 27 [.t 4] a24 := ⟨_, _, Tryd.func24, rfl, by kernel_rfl, by kernel_rfl, rfl⟩
/- slices.Concat[[]gridhall/api.InterlockRule,gridhall/api.InterlockRule] -/
def a13 : ACode :=
  (.seq (.region false [] [
     ⟨(some 2), none, (.mov (.v (.slice none 0 0)))⟩])
  (.seq (.region false [] [
     ⟨(some 3), none, (.mov (.v (.int .i64 0)))⟩])
  (.seq (.seq (.region false [] [
     ⟨(some 9), none, (.mov (.t 0))⟩,
     ⟨(some 10), none, (.len (.t 9))⟩,
     ⟨(some 11), none, (.mov (.v (.int .i64 0)))⟩])
  (.block 0 (.loop (.seq (.region false [] [
       ⟨(some 12), none, (.bin .lss 3 (.t 11) (.t 10))⟩])
    (.seq (.cond (.t 12)
      .skip
      (.exit 0))
    (.seq (.block 1 (.seq (.region false [] [
        ⟨(some 13), none, (.idx 1 (.t 9) (.t 11))⟩,
        ⟨(some 14), none, (.load 1 false (.t 13))⟩,
        ⟨(some 5), none, (.mov (.t 14))⟩])
     (.seq (.region false [] [
        ⟨(some 15), none, (.mov (.t 3))⟩,
        ⟨(some 16), none, (.mov (.t 5))⟩,
        ⟨(some 17), none, (.len (.t 16))⟩,
        ⟨(some 18), none, (.bin .add 3 (.t 15) (.t 17))⟩,
        ⟨(some 3), none, (.mov (.t 18))⟩])
     (.seq (.region false [] [
        ⟨(some 19), none, (.mov (.t 3))⟩,
        ⟨(some 20), none, (.bin .lss 3 (.t 19) (.v (.int .i64 0)))⟩])
     (.cond (.t 20)
       (.region false [] [
          ⟨(some 21), none, (.bad none [])⟩,
          ⟨none, none, (.bad none [])⟩])
       .skip)))))
    (.region false [] [
       ⟨(some 22), none, (.bin .add 3 (.t 11) (.v (.int .i64 1)))⟩,
       ⟨(some 11), none, (.mov (.t 22))⟩])))))))
  (.seq (.region false [] [
     ⟨(some 23), none, (.mov (.t 3))⟩,
     ⟨(some 24), none, (.call 24 [(.v (.slice none 0 0)), (.t 23)])⟩,
     ⟨(some 6), none, (.mov (.t 24))⟩])
  (.seq (.seq (.region false [] [
     ⟨(some 25), none, (.mov (.t 0))⟩,
     ⟨(some 26), none, (.len (.t 25))⟩,
     ⟨(some 27), none, (.mov (.v (.int .i64 0)))⟩])
  (.block 2 (.loop (.seq (.region false [] [
       ⟨(some 28), none, (.bin .lss 3 (.t 27) (.t 26))⟩])
    (.seq (.cond (.t 28)
      .skip
      (.exit 2))
    (.seq (.block 3 (.seq (.region false [] [
        ⟨(some 29), none, (.idx 1 (.t 25) (.t 27))⟩,
        ⟨(some 30), none, (.load 1 false (.t 29))⟩,
        ⟨(some 8), none, (.mov (.t 30))⟩])
     (.region false [] [
        ⟨(some 31), none, (.mov (.t 6))⟩,
        ⟨(some 32), none, (.mov (.t 8))⟩,
        ⟨(some 33), none, (.app 24 3 48 (.agg #[(.bool false), (.string ⟨#[]⟩), (.slice none 0 0)]) (.t 31) (.t 32))⟩,
        ⟨(some 6), none, (.mov (.t 33))⟩])))
    (.region false [] [
       ⟨(some 34), none, (.bin .add 3 (.t 27) (.v (.int .i64 1)))⟩,
       ⟨(some 27), none, (.mov (.t 34))⟩])))))))
  (.seq (.region false [] [
     ⟨(some 35), none, (.mov (.t 6))⟩,
     ⟨(some 2), none, (.mov (.t 35))⟩])
  .ret))))))
theorem k13 : FnIs Tryd.prog 13 36 [.t 2] a13 := ⟨_, _, Tryd.func13, rfl, by kernel_rfl, by kernel_rfl, rfl⟩
/- gridhall/gridhallkeep4.InterlockMore -/
def a5 : ACode :=
  (.seq (.region false [] [
     ⟨(some 10), none, (.mov (.v (.bool false)))⟩])
  (.seq (.region false [] [
     ⟨(some 16), none, (.mov (.t 0))⟩,
     ⟨(some 17), none, (.mov (.t 2))⟩,
     ⟨(some 18), none, (.mov (.t 3))⟩,
     ⟨(some 19), none, (.mov (.t 4))⟩,
     ⟨(some 20), none, (.call 12 [(.t 16), (.t 17), (.t 18), (.t 19)])⟩,
     ⟨(some 15), none, (.mov (.t 20))⟩,
     ⟨(some 21), none, (.ext 0 (.t 15))⟩,
     ⟨(some 22), none, (.ext 1 (.t 15))⟩,
     ⟨(some 11), none, (.mov (.t 21))⟩,
     ⟨(some 12), none, (.mov (.t 22))⟩])
  (.seq (.region false [] [
     ⟨(some 24), none, (.mov (.t 0))⟩,
     ⟨(some 25), none, (.mov (.t 1))⟩,
     ⟨(some 26), none, (.bsl 30 1 2 [(0, (.t 24)), (1, (.t 25))])⟩,
     ⟨(some 27), none, (.call 13 [(.t 26)])⟩,
     ⟨(some 28), none, (.mov (.t 2))⟩,
     ⟨(some 29), none, (.mov (.t 3))⟩,
     ⟨(some 30), none, (.mov (.t 4))⟩,
     ⟨(some 31), none, (.call 12 [(.t 27), (.t 28), (.t 29), (.t 30)])⟩,
     ⟨(some 23), none, (.mov (.t 31))⟩,
     ⟨(some 32), none, (.ext 0 (.t 23))⟩,
     ⟨(some 33), none, (.ext 1 (.t 23))⟩,
     ⟨(some 13), none, (.mov (.t 32))⟩,
     ⟨(some 14), none, (.mov (.t 33))⟩])
  (.seq (.seq (.region false [] [
     ⟨(some 34), none, (.mov (.t 12))⟩,
     ⟨(some 35), none, (.bin .neq 27 (.t 34) (.v (.int .i64 0)))⟩,
     ⟨(some 36), none, (.mov (.t 35))⟩,
     ⟨(some 37), (some (36, false)), (.mov (.t 14))⟩,
     ⟨(some 38), (some (36, false)), (.bin .neq 27 (.t 37) (.v (.int .i64 0)))⟩,
     ⟨(some 39), none, (.pick (.t 36) (.v (.bool true)) (.t 38))⟩])
  (.cond (.t 39)
    (.seq (.region false [] [
       ⟨(some 40), none, (.call 9 [])⟩,
       ⟨(some 41), none, (.mov (.t 40))⟩,
       ⟨(some 42), (some (41, true)), (.mov (.t 13))⟩,
       ⟨(some 43), (some (41, true)), (.len (.t 42))⟩,
       ⟨(some 44), (some (41, true)), (.bin .eql 3 (.t 43) (.v (.int .i64 0)))⟩,
       ⟨(some 45), none, (.pick (.t 41) (.t 44) (.v (.bool false)))⟩,
       ⟨(some 10), none, (.mov (.t 45))⟩])
    .ret)
    .skip))
  (.seq (.region false [] [
     ⟨(some 46), none, (.call 9 [])⟩,
     ⟨(some 47), none, (.mov (.t 46))⟩,
     ⟨(some 48), (some (47, true)), (.mov (.t 13))⟩,
     ⟨(some 49), (some (47, true)), (.len (.t 48))⟩,
     ⟨(some 50), (some (47, true)), (.mov (.t 11))⟩,
     ⟨(some 51), (some (47, true)), (.len (.t 50))⟩,
     ⟨(some 52), (some (47, true)), (.bin .geq 3 (.t 49) (.t 51))⟩,
     ⟨(some 53), none, (.pick (.t 47) (.t 52) (.v (.bool false)))⟩,
     ⟨(some 54), none, (.mov (.t 53))⟩,
     ⟨(some 55), (some (54, true)), (.mov (.t 13))⟩,
     ⟨(some 56), (some (54, true)), (.mov (.t 11))⟩,
     ⟨(some 57), (some (54, true)), (.len (.t 56))⟩,
     ⟨(some 58), (some (54, true)), (.slc 1 (.t 55) none (some (.t 57)) none)⟩,
     ⟨(some 59), (some (54, true)), (.mov (.t 11))⟩,
     ⟨(some 60), (some (54, true)), (.call 14 [(.t 58), (.t 59)])⟩,
     ⟨(some 61), none, (.pick (.t 54) (.t 60) (.v (.bool false)))⟩,
     ⟨(some 10), none, (.mov (.t 61))⟩])
  .ret)))))
theorem k5 : FnIs Tryd.prog 5 62 [.t 10] a5 := ⟨_, _, Tryd.func5, rfl, by kernel_rfl, by kernel_rfl, rfl⟩


theorem s24 (n : Nat) (hn63 : n * 48 ≤ 281474976710656) (hn64 : n ≤ 281474976710656) : Aw.Spec Tryd.prog 24 [] [.val (.slice none 0 0), I n] (fun rg v => (n = 0 → rg = [] ∧ v = .val (.slice none 0 0)) ∧ (0 < n → rg = [.arr 24 3 (List.replicate n [B false, S ⟨#[]⟩, .val (.slice none 0 0)])] ∧ v = .hnd 0 0 0 n false)) := by
  refine Aw.Spec.regsD k24 mixed rfl rfl rfl fun E hn hnp hp => ?_
  unfold a24
  have e1 : IntKind.i64.wrap ((n : Int) - IntKind.i64.wrap (0 - 0)) = n := by rw [w64 (n := 0 - 0) (by omega) (by omega), w64 (by omega) (by omega)]; omega
  simp (config := { maxSteps := 2000000 }) only [go_sem, ↓reduceIte, Int.reduceToNat, Nat.reduceMul, Int.reduceBEq, Int.reduceBNe, Nat.reduceBEq, Nat.reduceAdd, Nat.reduceSub, Nat.reduceLeDiff, Nat.reduceEqDiff, Nat.reduceLT, reduceCtorEq, e1, Int.natCast_zero]
  simp only [decide_eq_true_eq, decide_eq_false_iff_not]
  refine ⟨fun h => by omega, fun h => ⟨fun h2 => ?_, fun h2 => ?_⟩⟩
  · (repeat (refine And.intro (by first | omega | (refine ⟨by omega, by omega⟩) | (refine ⟨by omega, by omega, by omega⟩) | (simp only [List.length_map, List.length_range, List.length_append, List.length_cons, List.length_nil, List.length_replicate, List.length_set]; omega) | (simp; omega) | (intro hgd; cases hgd) | (intro hgd; refine ⟨hgd, ?_⟩; first | omega | (refine ⟨by omega, by omega⟩) | (simp; omega))) ?_))
    refine AWpL.appzZero (els := []) (m := n) rfl rfl trivial rfl rfl (by rw [hn]; rfl) (by omega) (by simp only [List.length_nil, Int.toNat_natCast]; omega) (by simp only [List.length_nil, Int.toNat_natCast]; omega) (AWpL.ofM hn rfl ?_)
    simp (config := { maxSteps := 2000000 }) only [go_sem, ↓reduceIte, Int.reduceToNat, Nat.reduceMul, Int.reduceBEq, Int.reduceBNe, Nat.reduceBEq, Nat.reduceAdd, Nat.reduceSub, Nat.reduceLeDiff, Nat.reduceEqDiff, Nat.reduceLT, reduceCtorEq, Int.natCast_zero]
    (repeat (refine And.intro (by first | omega | (refine ⟨by omega, by omega⟩) | (refine ⟨by omega, by omega, by omega⟩) | (simp only [List.length_map, List.length_range, List.length_append, List.length_cons, List.length_nil, List.length_replicate, List.length_set]; omega) | (simp; omega) | (intro hgd; cases hgd) | (intro hgd; refine ⟨hgd, ?_⟩; first | omega | (refine ⟨by omega, by omega⟩) | (simp; omega))) ?_))
    refine Retn.ret (π := [0]) hp hnp ⟨rfl, ?_⟩
    simp (config := { maxSteps := 2000000 }) only [go_sem, ↓reduceIte, Int.reduceToNat, Nat.reduceMul, Int.reduceBEq, Int.reduceBNe, Nat.reduceBEq, Nat.reduceAdd, Nat.reduceSub, Nat.reduceLeDiff, Nat.reduceEqDiff, Nat.reduceLT, reduceCtorEq, Aw.renR, Aw.pos]
    exact fun h0 => by omega
  · refine Retn.ret (π := []) hp hnp ⟨rfl, ?_⟩
    simp (config := { maxSteps := 2000000 }) only [go_sem, ↓reduceIte, Int.reduceToNat, Nat.reduceMul, Int.reduceBEq, Int.reduceBNe, Nat.reduceBEq, Nat.reduceAdd, Nat.reduceSub, Nat.reduceLeDiff, Nat.reduceEqDiff, Nat.reduceLT, reduceCtorEq, Aw.renR, Aw.pos]
    exact fun h0 => by omega

theorem over13 {done l : List Rul} {n : Nat} (h : done.length + l.length ≤ n) : overEls (done.map rlc ++ List.replicate (n - done.length) [B false, S ⟨#[]⟩, .val (.slice none 0 0)]) done.length (l.map rlc) = (done ++ l).map rlc ++ List.replicate (n - (done ++ l).length) [B false, S ⟨#[]⟩, .val (.slice none 0 0)] := by
  unfold overEls
  rw [List.take_left' (by simp), List.length_map, List.drop_append, List.length_map, List.drop_of_length_le (by simp), List.nil_append, Nat.add_sub_cancel_left, List.drop_replicate, List.map_append, List.append_assoc, List.length_append]
  congr 3; omega
theorem s13 (nl fl) (L : List (List Rul)) (hL : L.length ≤ 1000000) (hb : L.flatten.length * 48 ≤ 281474976710656) : Aw.Spec Tryd.prog 13 [] [.imm nl fl 1 (L.map fun l => [(fun l => rs none false l) l])] (fun rg v => rg = [] ∧ v = .imm none false 3 (L.flatten.map rlc)) := by
  refine Aw.Spec.regsD k13 mixed rfl rfl rfl fun E hn hnp hp => ?_
  unfold a13
  have hsum : ∀ i, (L.take i).flatten.length ≤ L.flatten.length := by
    intro i
    have h4 : L = L.take i ++ L.drop i := (List.take_append_drop _ _).symm
    have h5 := congrArg (fun l => l.flatten.length) h4
    simp only [List.flatten_append, List.length_append] at h5
    omega
  simp (config := { maxSteps := 2000000 }) only [go_sem, ↓reduceIte, Int.reduceToNat, Nat.reduceMul, Int.reduceBEq, Int.reduceBNe, Nat.reduceBEq, Nat.reduceAdd, Nat.reduceSub, Nat.reduceLeDiff, Nat.reduceEqDiff, Nat.reduceLT, reduceCtorEq]
  refine AWp.loop (fun k s => ∃ i : Nat, i + k = L.length ∧ Weak E s ⟨[(0, .imm nl fl 1 (L.map fun l => [(fun l => rs none false l) l])), (3, I (L.take i).flatten.length), (9, .imm nl fl 1 (L.map fun l => [(fun l => rs none false l) l])), (10, I L.length), (11, I i)], []⟩) (n := L.length)
    ⟨0, by omega, weak_to [] hp hnp rfl (by simp (config := { maxSteps := 2000000 }) only [go_sem, ↓reduceIte, Int.reduceToNat, Nat.reduceMul, Int.reduceBEq, Int.reduceBNe, Nat.reduceBEq, Nat.reduceAdd, Nat.reduceSub, Nat.reduceLeDiff, Nat.reduceEqDiff, Nat.reduceLT, reduceCtorEq, Int.natCast_zero, List.flatten_nil]) rfl⟩ ?_
  rintro k s ⟨i, hi, hw⟩
  refine AWp.weak hw (AWp.ofD [] [] hn mixed rfl ?_)
  rcases Nat.lt_or_ge i L.length with hlt | hge
  · have e0 : decide ((i : Int) < (L.length : Int)) = true := by simp; omega
    have e1 := getD_map (fun l => [(fun l => rs none false l) l]) hlt
    have e2 : IntKind.i64.wrap ((i : Int) + 1) = ((i + 1 : Nat) : Int) := by rw [w64 (by omega) (by omega)]; omega
    have h1 := hsum i
    have h2 : (L.take i).flatten.length + L[i].length ≤ L.flatten.length := by
      have h3 := hsum (i + 1)
      rw [take_get hlt, List.flatten_append, List.length_append] at h3
      simp only [List.flatten_cons, List.flatten_nil, List.append_nil] at h3
      omega
    have e3 : IntKind.i64.wrap (((L.take i).flatten.length : Int) + (L[i].length : Int)) = ((L.take (i + 1)).flatten.length : Int) := by
      rw [w64 (by omega) (by omega), take_get hlt, List.flatten_append, List.length_append]; simp
    have e4 : decide (((L.take (i + 1)).flatten.length : Int) < 0) = false := by simp
    simp (config := { maxSteps := 2000000 }) only [go_sem, ↓reduceIte, Int.reduceToNat, Nat.reduceMul, Int.reduceBEq, Int.reduceBNe, Nat.reduceBEq, Nat.reduceAdd, Nat.reduceSub, Nat.reduceLeDiff, Nat.reduceEqDiff, Nat.reduceLT, reduceCtorEq, e0, e1, e2, e3, e4]
    (repeat (refine And.intro (by first | omega | (refine ⟨by omega, by omega⟩) | (refine ⟨by omega, by omega, by omega⟩) | (simp only [List.length_map, List.length_range, List.length_append, List.length_cons, List.length_nil, List.length_replicate, List.length_set]; omega) | (simp; omega) | (intro hgd; cases hgd) | (intro hgd; refine ⟨hgd, ?_⟩; first | omega | (refine ⟨by omega, by omega⟩) | (simp; omega))) ?_))
    exact ⟨k - 1, by omega, i + 1, by omega, weak_to [] hp hnp rfl (by simp (config := { maxSteps := 2000000 }) only [go_sem, ↓reduceIte, Int.reduceToNat, Nat.reduceMul, Int.reduceBEq, Int.reduceBNe, Nat.reduceBEq, Nat.reduceAdd, Nat.reduceSub, Nat.reduceLeDiff, Nat.reduceEqDiff, Nat.reduceLT, reduceCtorEq]) rfl⟩
  have e0 : decide ((i : Int) < (L.length : Int)) = false := by simp; omega
  have eL : L.take i = L := List.take_of_length_le hge
  simp (config := { maxSteps := 2000000 }) only [go_sem, ↓reduceIte, Int.reduceToNat, Nat.reduceMul, Int.reduceBEq, Int.reduceBNe, Nat.reduceBEq, Nat.reduceAdd, Nat.reduceSub, Nat.reduceLeDiff, Nat.reduceEqDiff, Nat.reduceLT, reduceCtorEq, e0, eL]
  generalize hN : L.flatten.length = N at *
  refine AWpL.callA [] (s24 N (by omega) (by omega)) rfl rfl (by rw [hn]; rfl) rfl (fun r hr => by cases hr) fun rg v hv => ?_
  refine ⟨Nat.zero_le _, ?_⟩
  rcases Nat.eq_zero_or_pos N with h0 | h0
  · obtain ⟨rfl, rfl⟩ := hv.1 h0
    have hnil : ∀ l ∈ L, l = [] := fun l hl => by
      have h3 : L.flatten = [] := List.eq_nil_of_length_eq_zero (by omega)
      rw [List.flatten_eq_nil_iff] at h3
      exact h3 l hl
    rw [retS_nil]
    refine AWpL.ofM hn rfl ?_
    simp (config := { maxSteps := 2000000 }) only [go_sem, ↓reduceIte, Int.reduceToNat, Nat.reduceMul, Int.reduceBEq, Int.reduceBNe, Nat.reduceBEq, Nat.reduceAdd, Nat.reduceSub, Nat.reduceLeDiff, Nat.reduceEqDiff, Nat.reduceLT, reduceCtorEq]
    refine AWp.loop (fun k s => ∃ i : Nat, i + k = L.length ∧ Weak E s ⟨[(6, .val (.slice none 0 0)), (25, .imm nl fl 1 (L.map fun l => [(fun l => rs none false l) l])), (26, I L.length), (27, I i)], []⟩) (n := L.length)
      ⟨0, by omega, weak_to [] hp hnp rfl (by simp (config := { maxSteps := 2000000 }) only [go_sem, ↓reduceIte, Int.reduceToNat, Nat.reduceMul, Int.reduceBEq, Int.reduceBNe, Nat.reduceBEq, Nat.reduceAdd, Nat.reduceSub, Nat.reduceLeDiff, Nat.reduceEqDiff, Nat.reduceLT, reduceCtorEq, Int.natCast_zero]) rfl⟩ ?_
    rintro k s ⟨i, hi, hw⟩
    refine AWp.weak hw (AWp.ofD [] [] hn mixed rfl ?_)
    rcases Nat.lt_or_ge i L.length with hlt | hge
    · have e0 : decide ((i : Int) < (L.length : Int)) = true := by simp; omega
      have e1 := getD_map (fun l => [(fun l => rs none false l) l]) hlt
      have e2 : IntKind.i64.wrap ((i : Int) + 1) = ((i + 1 : Nat) : Int) := by rw [w64 (by omega) (by omega)]; omega
      have h3 := hnil _ (List.getElem_mem hlt)
      simp (config := { maxSteps := 2000000 }) only [go_sem, ↓reduceIte, Int.reduceToNat, Nat.reduceMul, Int.reduceBEq, Int.reduceBNe, Nat.reduceBEq, Nat.reduceAdd, Nat.reduceSub, Nat.reduceLeDiff, Nat.reduceEqDiff, Nat.reduceLT, reduceCtorEq, e0, e1, h3, List.map_nil]
      (repeat (refine And.intro (by first | omega | (refine ⟨by omega, by omega⟩) | (refine ⟨by omega, by omega, by omega⟩) | (simp only [List.length_map, List.length_range, List.length_append, List.length_cons, List.length_nil, List.length_replicate, List.length_set]; omega) | (simp; omega) | (intro hgd; cases hgd) | (intro hgd; refine ⟨hgd, ?_⟩; first | omega | (refine ⟨by omega, by omega⟩) | (simp; omega))) ?_))
      refine AWpL.appNil (els := []) rfl rfl trivial rfl rfl (by rw [hn]; rfl) trivial (AWpL.ofM hn rfl ?_)
      simp (config := { maxSteps := 2000000 }) only [go_sem, ↓reduceIte, Int.reduceToNat, Nat.reduceMul, Int.reduceBEq, Int.reduceBNe, Nat.reduceBEq, Nat.reduceAdd, Nat.reduceSub, Nat.reduceLeDiff, Nat.reduceEqDiff, Nat.reduceLT, reduceCtorEq, e2]
      exact ⟨k - 1, by omega, i + 1, by omega, weak_to [] hp hnp rfl (by simp (config := { maxSteps := 2000000 }) only [go_sem, ↓reduceIte, Int.reduceToNat, Nat.reduceMul, Int.reduceBEq, Int.reduceBNe, Nat.reduceBEq, Nat.reduceAdd, Nat.reduceSub, Nat.reduceLeDiff, Nat.reduceEqDiff, Nat.reduceLT, reduceCtorEq]) rfl⟩
    · have e0 : decide ((i : Int) < (L.length : Int)) = false := by simp; omega
      simp (config := { maxSteps := 2000000 }) only [go_sem, ↓reduceIte, Int.reduceToNat, Nat.reduceMul, Int.reduceBEq, Int.reduceBNe, Nat.reduceBEq, Nat.reduceAdd, Nat.reduceSub, Nat.reduceLeDiff, Nat.reduceEqDiff, Nat.reduceLT, reduceCtorEq, e0]
      have h3 : L.flatten = [] := List.eq_nil_of_length_eq_zero (by omega)
      refine Retn.weak (weak_ent 2 (by rfl) (Ent.ofnil0 3)) _ (Retn.ret (π := []) hp hnp ⟨rfl, ?_⟩)
      simp (config := { maxSteps := 2000000 }) only [go_sem, ↓reduceIte, Int.reduceToNat, Nat.reduceMul, Int.reduceBEq, Int.reduceBNe, Nat.reduceBEq, Nat.reduceAdd, Nat.reduceSub, Nat.reduceLeDiff, Nat.reduceEqDiff, Nat.reduceLT, reduceCtorEq, h3]
  · obtain ⟨rfl, rfl⟩ := hv.2 h0
    rw [retS_new]
    refine AWpL.ofM hn rfl ?_
    simp (config := { maxSteps := 2000000 }) only [go_sem, ↓reduceIte, Int.reduceToNat, Nat.reduceMul, Int.reduceBEq, Int.reduceBNe, Nat.reduceBEq, Nat.reduceAdd, Nat.reduceSub, Nat.reduceLeDiff, Nat.reduceEqDiff, Nat.reduceLT, reduceCtorEq]
    refine AWp.loop (fun k s => ∃ i : Nat, i + k = L.length ∧ Weak E s ⟨[(6, .hnd 0 0 (L.take i).flatten.length N false), (25, .imm nl fl 1 (L.map fun l => [(fun l => rs none false l) l])), (26, I L.length), (27, I i)], [.arr 24 3 ((L.take i).flatten.map rlc ++ List.replicate (N - (L.take i).flatten.length) [B false, S ⟨#[]⟩, .val (.slice none 0 0)])]⟩) (n := L.length)
      ⟨0, by omega, weak_to [0] hp hnp rfl (by simp (config := { maxSteps := 2000000 }) only [go_sem, ↓reduceIte, Int.reduceToNat, Nat.reduceMul, Int.reduceBEq, Int.reduceBNe, Nat.reduceBEq, Nat.reduceAdd, Nat.reduceSub, Nat.reduceLeDiff, Nat.reduceEqDiff, Nat.reduceLT, reduceCtorEq, Int.natCast_zero, Aw.pos, List.flatten_nil]) (by simp (config := { maxSteps := 2000000 }) only [go_sem, ↓reduceIte, Int.reduceToNat, Nat.reduceMul, Int.reduceBEq, Int.reduceBNe, Nat.reduceBEq, Nat.reduceAdd, Nat.reduceSub, Nat.reduceLeDiff, Nat.reduceEqDiff, Nat.reduceLT, reduceCtorEq, Aw.renR, Aw.pos, List.flatten_nil])⟩ ?_
    rintro k s ⟨i, hi, hw⟩
    refine AWp.weak hw (AWp.ofD [] [] hn mixed rfl ?_)
    rcases Nat.lt_or_ge i L.length with hlt | hge
    · have e0 : decide ((i : Int) < (L.length : Int)) = true := by simp; omega
      have e1 := getD_map (fun l => [(fun l => rs none false l) l]) hlt
      have e2 : IntKind.i64.wrap ((i : Int) + 1) = ((i + 1 : Nat) : Int) := by rw [w64 (by omega) (by omega)]; omega
      have h3 : (L.take i).flatten.length + L[i].length ≤ N := by
        have h4 : L = L.take (i + 1) ++ L.drop (i + 1) := (List.take_append_drop _ _).symm
        have h5 := congrArg (fun l => l.flatten.length) h4
        rw [take_get hlt] at h5
        simp only [List.flatten_append, List.length_append, List.flatten_cons, List.flatten_nil, List.append_nil] at h5
        omega
      have hfl : (L.take (i + 1)).flatten = (L.take i).flatten ++ L[i] := by rw [take_get hlt, List.flatten_append]; simp
      have hov := over13 (done := (L.take i).flatten) (l := L[i]) (n := N) h3
      simp (config := { maxSteps := 2000000 }) only [go_sem, ↓reduceIte, Int.reduceToNat, Nat.reduceMul, Int.reduceBEq, Int.reduceBNe, Nat.reduceBEq, Nat.reduceAdd, Nat.reduceSub, Nat.reduceLeDiff, Nat.reduceEqDiff, Nat.reduceLT, reduceCtorEq, e0, e1]
      (repeat (refine And.intro (by first | omega | (refine ⟨by omega, by omega⟩) | (refine ⟨by omega, by omega, by omega⟩) | (simp only [List.length_map, List.length_range, List.length_append, List.length_cons, List.length_nil, List.length_replicate, List.length_set]; omega) | (simp; omega) | (intro hgd; cases hgd) | (intro hgd; refine ⟨hgd, ?_⟩; first | omega | (refine ⟨by omega, by omega⟩) | (simp; omega))) ?_))
      refine AWpL.appIn (r := 0) (ys := L[i].map rlc) rfl rfl rfl rfl (by rw [hn]; rfl) trivial (fun el hm y hy => ?_) (by simp only [List.length_map]; omega) (by simp only [List.length_map, List.length_append, List.length_replicate]; omega) h0 (AWpL.ofM hn rfl ?_)
      · obtain ⟨z, _, rfl⟩ := List.mem_map.1 hm
        simp only [List.mem_cons, List.not_mem_nil, or_false] at hy
        first | (subst hy; rfl) | (rcases hy with rfl | rfl | rfl; all_goals rfl) | (rcases hy with rfl | rfl | rfl | rfl; all_goals rfl) | (rcases hy with rfl | rfl | rfl | rfl | rfl; all_goals rfl)
      rw [Nat.zero_add, hov]
      simp (config := { maxSteps := 2000000 }) only [go_sem, ↓reduceIte, Int.reduceToNat, Nat.reduceMul, Int.reduceBEq, Int.reduceBNe, Nat.reduceBEq, Nat.reduceAdd, Nat.reduceSub, Nat.reduceLeDiff, Nat.reduceEqDiff, Nat.reduceLT, reduceCtorEq, e2]
      exact ⟨k - 1, by omega, i + 1, by omega, weak_to [0] hp hnp rfl (by simp (config := { maxSteps := 2000000 }) only [go_sem, ↓reduceIte, Int.reduceToNat, Nat.reduceMul, Int.reduceBEq, Int.reduceBNe, Nat.reduceBEq, Nat.reduceAdd, Nat.reduceSub, Nat.reduceLeDiff, Nat.reduceEqDiff, Nat.reduceLT, reduceCtorEq, Aw.pos, hfl, List.length_append, List.length_map]) (by simp (config := { maxSteps := 2000000 }) only [go_sem, ↓reduceIte, Int.reduceToNat, Nat.reduceMul, Int.reduceBEq, Int.reduceBNe, Nat.reduceBEq, Nat.reduceAdd, Nat.reduceSub, Nat.reduceLeDiff, Nat.reduceEqDiff, Nat.reduceLT, reduceCtorEq, Aw.renR, Aw.pos, hfl])⟩
    · have e0 : decide ((i : Int) < (L.length : Int)) = false := by simp; omega
      have ht : L.take i = L := List.take_of_length_le hge
      have hz : N - L.flatten.length = 0 := by omega
      simp (config := { maxSteps := 2000000 }) only [go_sem, ↓reduceIte, Int.reduceToNat, Nat.reduceMul, Int.reduceBEq, Int.reduceBNe, Nat.reduceBEq, Nat.reduceAdd, Nat.reduceSub, Nat.reduceLeDiff, Nat.reduceEqDiff, Nat.reduceLT, reduceCtorEq, e0, ht, hN, Nat.sub_self, List.replicate_zero]
      refine Retn.weak (weak_freeze 0 rfl (hp.none hnp (Nat.zero_le _)) ?_) _ ?_
      · simp (config := { maxSteps := 2000000 }) only [go_sem, ↓reduceIte, Int.reduceToNat, Nat.reduceMul, Int.reduceBEq, Int.reduceBNe, Nat.reduceBEq, Nat.reduceAdd, Nat.reduceSub, Nat.reduceLeDiff, Nat.reduceEqDiff, Nat.reduceLT, reduceCtorEq, Nat.le_refl]
        omega
      refine Retn.weak (weak_ent 2 (by rfl) (Ent.plain _ _ _ _)) _ (Retn.ret (π := []) hp hnp ⟨rfl, ?_⟩)
      simp (config := { maxSteps := 2000000 }) only [go_sem, ↓reduceIte, Int.reduceToNat, Nat.reduceMul, Int.reduceBEq, Int.reduceBNe, Nat.reduceBEq, Nat.reduceAdd, Nat.reduceSub, Nat.reduceLeDiff, Nat.reduceEqDiff, Nat.reduceLT, reduceCtorEq]
      rw [List.take_of_length_le (by rw [List.length_map, hN]; exact Nat.le_refl _)]

theorem checkGo_append : ∀ {r m : List Rul}, checkGo (r ++ m) = 0 → checkGo r = 0
  | [], _, _ => rfl
  | x :: r, m, h => by
    have h1 : (if ruleE x ≠ 0 then ruleE x else checkGo (r ++ m)) = 0 := h
    show (if ruleE x ≠ 0 then ruleE x else checkGo r) = 0
    split at h1
    · rename_i h2; exact absurd h1 h2
    · rename_i h2; rw [if_neg h2]; exact checkGo_append h1
theorem checkF_append {r m : List Rul} (h : checkF (r ++ m) = 0) : checkF r = 0 := by
  unfold checkF at *
  rw [List.length_append] at h
  split at h
  · cases h
  · rw [if_neg (by omega)]; exact checkGo_append h
theorem explE_zero {l : List Rul} {sts : List Sta} {n : ByteArray} : explE l sts n = 0 ↔ checkF l = 0 ∧ statesF sts = 0 ∧ 0 ≤ findF sts n := by
  unfold explE
  constructor
  · intro h
    split at h
    · rename_i h1; exact absurd h h1
    rename_i h1
    split at h
    · rename_i h2; exact absurd h h2
    rename_i h2
    split at h
    · cases h
    · exact ⟨by simpa using h1, by simpa using h2, by omega⟩
  · rintro ⟨h1, h2, h3⟩
    rw [if_neg (by simp [h1]), if_neg (by simp [h2]), if_neg (by omega)]
theorem expl_more {l m : List Rul} {sts : List Sta} {cl : Bool} {n : ByteArray} (h : explE (l ++ m) sts n = 0) :
    explE l sts n = 0 ∧ ∃ r, explL (l ++ m) sts cl n = explL l sts cl n ++ r := by
  obtain ⟨g1, g2, g3⟩ := explE_zero.1 h
  have h3 := explE_zero.2 ⟨checkF_append g1, g2, g3⟩
  exact ⟨h3, explGo sts cl n (0 + l.length) m, by unfold explL; rw [if_pos h, if_pos h3, explGo_append]⟩
theorem explL_nil {l : List Rul} {sts : List Sta} {cl : Bool} {n : ByteArray} (h : explE l sts n ≠ 0) : explL l sts cl n = [] := if_neg h
theorem explL_le {l : List Rul} {sts : List Sta} {cl : Bool} {n : ByteArray} : (explL l sts cl n).length ≤ 24 := by
  unfold explL
  split
  · rename_i h
    have h1 := explGo_le sts cl n l 0
    have h2 := (checkF_ok (explE_zero.1 h).1).1
    omega
  · exact Nat.zero_le _
set_option maxRecDepth 20000 in
set_option maxHeartbeats 1000000 in
theorem s5 (nr fr) (r0 : List Rul) (nm' fm) (m0 : List Rul) (na fa) (a : List Sta) (cl : Bool) (n : ByteArray) (hr : ∀ r ∈ r0, RulOk r) (hm : ∀ r ∈ m0, RulOk r)
    (ha : ∀ x ∈ a, x.name.size ≤ 9223372036854775807) (hlr : r0.length * 48 ≤ 140737488351232) (hlm : m0.length * 48 ≤ 140737488351232) :
    Aw.Spec Tryd.prog 5 [] [rs nr fr r0, rs nm' fm m0, sts' na fa a, B cl, S n] (Gives (· = B true)) := by
  refine Aw.Spec.givesW k5 rfl rfl fun E hn hnp hp => ?_
  unfold a5
  have pin : ∀ r, E.pin r = none := fun r => hp.none hnp (Nat.zero_le _)
  refine AWp.ofD [] [] hn mixed rfl ?_
  simp (config := { maxSteps := 2000000 }) only [go_sem, ↓reduceIte, Int.reduceToNat, Nat.reduceMul, Int.reduceBEq, Int.reduceBNe, Nat.reduceBEq, Nat.reduceAdd, Nat.reduceSub, Nat.reduceLeDiff, Nat.reduceEqDiff, Nat.reduceLT, reduceCtorEq]
  refine AWpL.callA [] (s12 nr fr r0 na fa a cl n hr ha) rfl rfl (by rw [hn]; rfl) rfl (fun r hr => by cases hr) fun rg v hv => ?_
  obtain ⟨rfl, rfl⟩ := hv
  refine ⟨Nat.zero_le _, ?_⟩
  rw [retS_nil]
  refine AWpL.weak (weak_ent 0 (by rfl) (Ent.plain nr fr 3 (r0.map rlc))) ?_
  refine AWpL.weak (weak_ent 1 (by rfl) (Ent.plain nm' fm 3 (m0.map rlc))) (AWpL.ofM hn rfl ?_)
  simp (config := { maxSteps := 2000000 }) only [go_sem, ↓reduceIte, Int.reduceToNat, Nat.reduceMul, Int.reduceBEq, Int.reduceBNe, Nat.reduceBEq, Nat.reduceAdd, Nat.reduceSub, Nat.reduceLeDiff, Nat.reduceEqDiff, Nat.reduceLT, reduceCtorEq]
  refine AWpL.weak (weak_freeze 0 rfl (pin 0) (by simp (config := { maxSteps := 2000000 }) only [go_sem, ↓reduceIte, Int.reduceToNat, Nat.reduceMul, Int.reduceBEq, Int.reduceBNe, Nat.reduceBEq, Nat.reduceAdd, Nat.reduceSub, Nat.reduceLeDiff, Nat.reduceEqDiff, Nat.reduceLT, reduceCtorEq, Nat.le_refl])) (AWpL.ofM hn rfl ?_)
  simp (config := { maxSteps := 2000000 }) only [go_sem, ↓reduceIte, Int.reduceToNat, Nat.reduceMul, Int.reduceBEq, Int.reduceBNe, Nat.reduceBEq, Nat.reduceAdd, Nat.reduceSub, Nat.reduceLeDiff, Nat.reduceEqDiff, Nat.reduceLT, reduceCtorEq]
  have hall : ∀ r ∈ r0 ++ m0, RulOk r := fun r h => by
    rcases List.mem_append.1 h with h | h
    · exact hr r h
    · exact hm r h
  have hfl : ([r0, m0] : List (List Rul)).flatten = r0 ++ m0 := by simp
  have hcc := s13 none true [r0, m0] (by simp) (by rw [hfl, List.length_append]; omega)
  rw [hfl] at hcc
  refine AWpL.callA [] hcc rfl rfl (by rw [hn]; rfl) rfl (fun r hr => by cases hr) fun rg v hv => ?_
  obtain ⟨rfl, rfl⟩ := hv
  refine ⟨Nat.zero_le _, AWpL.ofM hn rfl ?_⟩
  simp (config := { maxSteps := 2000000 }) only [go_sem, ↓reduceIte, Int.reduceToNat, Nat.reduceMul, Int.reduceBEq, Int.reduceBNe, Nat.reduceBEq, Nat.reduceAdd, Nat.reduceSub, Nat.reduceLeDiff, Nat.reduceEqDiff, Nat.reduceLT, reduceCtorEq, Aw.retS, Aw.retRg, Aw.kpM, Aw.bkM, Aw.pos, Aw.isBox]
  refine AWpL.callA [] (s12 none false (r0 ++ m0) na fa a cl n hall ha) rfl rfl (by rw [hn]; rfl) rfl (fun r hr => by cases hr) fun rg v hv => ?_
  obtain ⟨rfl, rfl⟩ := hv
  refine ⟨Nat.zero_le _, AWpL.ofM hn rfl ?_⟩
  simp (config := { maxSteps := 2000000 }) only [go_sem, ↓reduceIte, Int.reduceToNat, Nat.reduceMul, Int.reduceBEq, Int.reduceBNe, Nat.reduceBEq, Nat.reduceAdd, Nat.reduceSub, Nat.reduceLeDiff, Nat.reduceEqDiff, Nat.reduceLT, reduceCtorEq, Aw.retS, Aw.retRg, Aw.kpM, Aw.bkM, Aw.pos, Aw.isBox]
  have hth : explE (r0 ++ m0) a n = 0 → explE r0 a n = 0 ∧ ∃ r, explL (r0 ++ m0) a cl n = explL r0 a cl n ++ r := fun h1 => expl_more h1
  have hne : explE (r0 ++ m0) a n ≠ 0 → explL (r0 ++ m0) a cl n = [] := fun h => if_neg h
  have l1 := explL_le (l := r0) (sts := a) (cl := cl) (n := n)
  generalize explE (r0 ++ m0) a n = e1 at *
  generalize explE r0 a n = e2 at *
  generalize explL (r0 ++ m0) a cl n = x at *
  generalize explL r0 a cl n = y at *
  simp only [Bool.or_eq_true, Bool.or_eq_false_iff, bne_iff_ne, bne_eq_false_iff_eq, ne_eq]
  refine ⟨fun h => ?_, fun h => ?_⟩
  · have he : e1 ≠ 0 := fun h1 => by
      rcases h with h | h
      · exact h (hth h1).1
      · exact h h1
    (refine AWpL.calle (s9) rfl (by rw [hn]; rfl) (by simp (config := { maxSteps := 2000000 }) only [go_sem, ↓reduceIte, Int.reduceToNat, Nat.reduceMul, Int.reduceBEq, Int.reduceBNe, Nat.reduceBEq, Nat.reduceAdd, Nat.reduceSub, Nat.reduceLeDiff, Nat.reduceEqDiff, Nat.reduceLT, reduceCtorEq]) (AWpL.ofM hn rfl ?_); simp (config := { maxSteps := 2000000 }) only [go_sem, ↓reduceIte, Int.reduceToNat, Nat.reduceMul, Int.reduceBEq, Int.reduceBNe, Nat.reduceBEq, Nat.reduceAdd, Nat.reduceSub, Nat.reduceLeDiff, Nat.reduceEqDiff, Nat.reduceLT, reduceCtorEq])
    rw [hne he]
    rfl
  obtain ⟨h1, h2⟩ := h
  obtain ⟨h3, r, h4⟩ := hth h2
  subst h4
  have e6 : decide (((y ++ r).length : Int) ≥ (y.length : Int)) = true := decide_eq_true (by rw [List.length_append]; omega)
  (refine AWpL.calle (s9) rfl (by rw [hn]; rfl) (by simp (config := { maxSteps := 2000000 }) only [go_sem, ↓reduceIte, Int.reduceToNat, Nat.reduceMul, Int.reduceBEq, Int.reduceBNe, Nat.reduceBEq, Nat.reduceAdd, Nat.reduceSub, Nat.reduceLeDiff, Nat.reduceEqDiff, Nat.reduceLT, reduceCtorEq]) (AWpL.ofM hn rfl ?_); simp (config := { maxSteps := 2000000 }) only [go_sem, ↓reduceIte, Int.reduceToNat, Nat.reduceMul, Int.reduceBEq, Int.reduceBNe, Nat.reduceBEq, Nat.reduceAdd, Nat.reduceSub, Nat.reduceLeDiff, Nat.reduceEqDiff, Nat.reduceLT, reduceCtorEq])
  simp (config := { maxSteps := 2000000 }) only [go_sem, ↓reduceIte, Int.reduceToNat, Nat.reduceMul, Int.reduceBEq, Int.reduceBNe, Nat.reduceBEq, Nat.reduceAdd, Nat.reduceSub, Nat.reduceLeDiff, Nat.reduceEqDiff, Nat.reduceLT, reduceCtorEq, e6, Option.toList_none, Option.toList_some]
  have e7 : List.take y.length ((y ++ r).map ic) = y.map ic := by rw [List.map_append, List.take_left' (by simp)]
  refine ⟨⟨by omega, by omega, by rw [List.length_append]; omega⟩, ?_⟩
  rw [e7]
  refine AWpL.guardT rfl (AWpL.weak (weak_opt 58 rfl) (AWpL.weak (weak_opt 59 rfl) ?_))
  refine AWpL.calle (s14 none false none false y (by omega)) rfl (by rw [hn]; rfl) (by simp (config := { maxSteps := 2000000 }) only [go_sem, ↓reduceIte, Int.reduceToNat, Nat.reduceMul, Int.reduceBEq, Int.reduceBNe, Nat.reduceBEq, Nat.reduceAdd, Nat.reduceSub, Nat.reduceLeDiff, Nat.reduceEqDiff, Nat.reduceLT, reduceCtorEq]) (AWpL.ofM hn rfl ?_)
  simp (config := { maxSteps := 2000000 }) only [go_sem, ↓reduceIte, Int.reduceToNat, Nat.reduceMul, Int.reduceBEq, Int.reduceBNe, Nat.reduceBEq, Nat.reduceAdd, Nat.reduceSub, Nat.reduceLeDiff, Nat.reduceEqDiff, Nat.reduceLT, reduceCtorEq]
end Go.Proofs.YtocghkacngoblaaDoor
