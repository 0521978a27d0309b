/- Networks: what Check computes. -/
import Derived.Test.YtmginfhlohenhaaAwZk
import Derived.Test.YtmginfhlohenhaaNetA
set_option linter.unusedVariables false
set_option linter.unusedSimpArgs false
namespace Go.Proofs.Ytmginfhlohenhaa
open Go.Proofs.Ytmginfhlohenhaa.Aw
attribute [local go_sem] Int.natCast_zero Int.natCast_one bne_self_eq_false beq_self_eq_true Bool.not_true Bool.not_false Option.isSome_none Option.isSome_some Aw.bkM_nil Option.getD_some Option.getD_none Nat.sub_zero Int.toNat_zero Aw.frzS Aw.frzT Aw.frzA Aw.frzL Aw.frzR Aw.frzO Aw.frzOL Aw.frzOT Aw.frzOR Aw.killS Aw.mapT Aw.mapR Aw.killM Aw.resAVs Aw.resAV Aw.quietOps Aw.wpP Aw.wpT Aw.wpS Aw.AOp.mild List.getElem?_cons_zero List.getElem?_cons_succ Bool.and_false Bool.and_self Bool.false_and Aw.opOb Aw.gdB Aw.Rnd Aw.subTm List.length_map Int.toNat_natCast and_self Aw.SeqC Aw.stops Aw.Ends Aw.looks Aw.renA Aw.renL Aw.renT Aw.renS Aw.wpO Aw.aop Aw.putTm Aw.St.ev Aw.St.put Aw.St.putO Aw.binAV Aw.intBin Aw.strBin Aw.pickAV Aw.optInt Aw.AV.strip Aw.AV.guard Aw.AV.cells Aw.gdOb Aw.AOp.opds Aw.AOp.still Aw.ptrCells Aw.St.reg Aw.fillAV Aw.fillOb Aw.elsOb Aw.splice Aw.firm Aw.cellish Aw.AV.shut Aw.shutAll Aw.Seq Aw.Blk Aw.retS_nil Aw.mapA Aw.mapL Aw.borA Aw.borOb Aw.allOb Aw.tupOf Aw.params Aw.Opd.of Array.toList Value.cells List.map_cons List.map_nil List.getD_cons_zero List.getD_cons_succ List.getD_nil List.length_cons List.length_nil List.take_succ_cons List.take_zero List.take_nil List.drop_zero List.drop_succ_cons List.drop_nil List.set_cons_zero List.set_cons_succ List.append_nil List.nil_append List.cons_append List.all_cons List.all_nil cond_false cond_true if_true if_false true_and and_true Bool.and_true Bool.true_and Option.map_some Option.map_none false_implies forall_const implies_true forall_eq imp_self Bool.cond_false_right Bool.cond_true_left beq_true beq_false Bool.not_eq_true' Bool.false_eq_true Nat.zero_add Nat.add_zero Aw.eqCells Aw.stopDraw Aw.skipS Aw.exactCap Aw.revealS Aw.srcEls Aw.srcSz
attribute [local go_sem ↓] Aw.look_nil Aw.look_ite Aw.wpL_nil Aw.wpL_op Aw.wpL_gd Aw.wpQ_nil Aw.wpQ_op Aw.wpQ_gd Aw.wpC_draw Aw.wpC_reg Aw.wpC_skip Aw.wpC_ret Aw.wpC_exit Aw.wpC_seq Aw.wpC_block Aw.wpC_loop Aw.wpC_cond Aw.stopAt_nil Aw.stopAt_cons Aw.wpD_skip Aw.wpD_ret Aw.wpD_exit Aw.wpD_region Aw.wpD_draw Aw.wpM_nil Aw.wpM_op Aw.wpM_gd Aw.wpD_seq Aw.wpD_block Aw.wpD_loop Aw.wpD_cond
/- gridhall/netmodel.device -/
def a24 : ACode :=
  (.seq (.region false [] [
     ⟨(some 4), none, (.box 29 (.t 0))⟩,
     ⟨(some 8), none, (.mov (.v (.int .i64 0)))⟩])
  (.seq (.seq (.region false [] [
     ⟨(some 10), none, (.mov (.t 1))⟩,
     ⟨(some 11), none, (.mov (.t 2))⟩,
     ⟨(some 12), none, (.call 23 [(.t 10), (.t 11)])⟩,
     ⟨(some 9), none, (.mov (.t 12))⟩])
  (.seq (.region false [] [
     ⟨(some 13), none, (.mov (.t 9))⟩,
     ⟨(some 14), none, (.bin .neq 30 (.t 13) (.v (.int .i64 0)))⟩])
  (.cond (.t 14)
    (.seq (.region false [] [
       ⟨(some 15), none, (.mov (.t 9))⟩,
       ⟨(some 8), none, (.mov (.t 15))⟩])
    .ret)
    .skip)))
  (.seq (.region false [] [
     ⟨(some 16), none, (.load 6 true (.t 4))⟩,
     ⟨(some 17), none, (.mov (.t 3))⟩,
     ⟨(some 18), none, (.call 40 [(.t 16), (.t 17)])⟩,
     ⟨(some 8), none, (.mov (.t 18))⟩])
  .ret)))
theorem k24 : FnIs Try.prog 24 19 [.t 8] a24 := ⟨_, _, Try.func24, rfl, by kernel_rfl, by kernel_rfl, rfl⟩
/- gridhall/netmodel.sources -/
def a26 : ACode :=
  (.seq (.region false [] [
     ⟨(some 2), none, (.box 29 (.t 0))⟩,
     ⟨(some 4), none, (.mov (.v (.int .i64 0)))⟩])
  (.seq (.seq (.region false [] [
     ⟨(some 14), none, (.fld 3 (.t 2))⟩,
     ⟨(some 15), none, (.load 1 false (.t 14))⟩,
     ⟨(some 16), none, (.len (.t 15))⟩,
     ⟨(some 17), none, (.mov (.v (.int .i64 0)))⟩])
  (.block 0 (.loop (.seq (.region false [] [
       ⟨(some 18), none, (.bin .lss 3 (.t 17) (.t 16))⟩])
    (.seq (.cond (.t 18)
      .skip
      (.exit 0))
    (.seq (.block 1 (.seq (.region false [] [
        ⟨(some 19), none, (.idx 5 (.t 15) (.t 17))⟩,
        ⟨(some 20), none, (.load 5 true (.t 19))⟩,
        ⟨(some 6), none, (.alloc 55 (.agg #[(.string ⟨#[]⟩), (.string ⟨#[]⟩), (.int .i64 0), (.int .i64 0), (.int .i64 0)]))⟩,
        ⟨none, none, (.store 5 (.t 6) (.t 20))⟩])
     (.seq (.seq (.region false [] [
        ⟨(some 21), none, (.load 6 true (.t 2))⟩,
        ⟨(some 22), none, (.mov (.t 1))⟩,
        ⟨(some 23), none, (.fld 0 (.t 6))⟩,
        ⟨(some 24), none, (.load 1 false (.t 23))⟩,
        ⟨(some 25), none, (.fld 1 (.t 6))⟩,
        ⟨(some 26), none, (.load 1 false (.t 25))⟩,
        ⟨(some 27), none, (.bsl 9 1 1 [(0, (.t 26))])⟩,
        ⟨(some 28), none, (.call 24 [(.t 21), (.t 22), (.t 24), (.t 27)])⟩,
        ⟨(some 7), none, (.mov (.t 28))⟩])
     (.seq (.region false [] [
        ⟨(some 29), none, (.mov (.t 7))⟩,
        ⟨(some 30), none, (.bin .neq 30 (.t 29) (.v (.int .i64 0)))⟩])
     (.cond (.t 30)
       (.seq (.region false [] [
          ⟨(some 31), none, (.mov (.t 7))⟩,
          ⟨(some 4), none, (.mov (.t 31))⟩])
       .ret)
       .skip)))
     (.seq (.region false [] [
        ⟨(some 32), none, (.fld 2 (.t 6))⟩,
        ⟨(some 33), none, (.load 1 false (.t 32))⟩,
        ⟨(some 34), none, (.call 41 [(.t 33), (.v (.int .i64 0)), (.v (.int .i64 100000))])⟩,
        ⟨(some 35), none, (.un .not (.t 34))⟩,
        ⟨(some 36), none, (.mov (.t 35))⟩,
        ⟨(some 37), (some (36, false)), (.fld 3 (.t 6))⟩,
        ⟨(some 38), (some (36, false)), (.load 1 false (.t 37))⟩,
        ⟨(some 39), (some (36, false)), (.fld 2 (.t 6))⟩,
        ⟨(some 40), (some (36, false)), (.load 1 false (.t 39))⟩,
        ⟨(some 41), (some (36, false)), (.call 41 [(.t 38), (.t 40), (.v (.int .i64 100000))])⟩,
        ⟨(some 42), (some (36, false)), (.un .not (.t 41))⟩,
        ⟨(some 43), none, (.pick (.t 36) (.v (.bool true)) (.t 42))⟩,
        ⟨(some 44), none, (.mov (.t 43))⟩,
        ⟨(some 45), (some (44, false)), (.fld 4 (.t 6))⟩,
        ⟨(some 46), (some (44, false)), (.load 1 false (.t 45))⟩,
        ⟨(some 47), (some (44, false)), (.call 41 [(.t 46), (.v (.int .i64 0)), (.v (.int .i64 100000))])⟩,
        ⟨(some 48), (some (44, false)), (.un .not (.t 47))⟩,
        ⟨(some 49), none, (.pick (.t 44) (.v (.bool true)) (.t 48))⟩])
     (.cond (.t 49)
       (.seq (.region false [] [
          ⟨(some 4), none, (.mov (.v (.int .i64 4)))⟩])
       .ret)
       .skip)))))
    (.region false [] [
       ⟨(some 50), none, (.bin .add 3 (.t 17) (.v (.int .i64 1)))⟩,
       ⟨(some 17), none, (.mov (.t 50))⟩])))))))
  (.seq (.seq (.region false [] [
     ⟨(some 51), none, (.fld 4 (.t 2))⟩,
     ⟨(some 52), none, (.load 1 false (.t 51))⟩,
     ⟨(some 53), none, (.len (.t 52))⟩,
     ⟨(some 54), none, (.mov (.v (.int .i64 0)))⟩])
  (.block 2 (.loop (.seq (.region false [] [
       ⟨(some 55), none, (.bin .lss 3 (.t 54) (.t 53))⟩])
    (.seq (.cond (.t 55)
      .skip
      (.exit 2))
    (.seq (.block 3 (.seq (.region false [] [
        ⟨(some 56), none, (.idx 3 (.t 52) (.t 54))⟩,
        ⟨(some 57), none, (.load 3 true (.t 56))⟩,
        ⟨(some 9), none, (.alloc 92 (.agg #[(.string ⟨#[]⟩), (.string ⟨#[]⟩), (.int .i64 0)]))⟩,
        ⟨none, none, (.store 3 (.t 9) (.t 57))⟩])
     (.seq (.seq (.region false [] [
        ⟨(some 58), none, (.load 6 true (.t 2))⟩,
        ⟨(some 59), none, (.mov (.t 1))⟩,
        ⟨(some 60), none, (.fld 0 (.t 9))⟩,
        ⟨(some 61), none, (.load 1 false (.t 60))⟩,
        ⟨(some 62), none, (.fld 1 (.t 9))⟩,
        ⟨(some 63), none, (.load 1 false (.t 62))⟩,
        ⟨(some 64), none, (.bsl 9 1 1 [(0, (.t 63))])⟩,
        ⟨(some 65), none, (.call 24 [(.t 58), (.t 59), (.t 61), (.t 64)])⟩,
        ⟨(some 10), none, (.mov (.t 65))⟩])
     (.seq (.region false [] [
        ⟨(some 66), none, (.mov (.t 10))⟩,
        ⟨(some 67), none, (.bin .neq 30 (.t 66) (.v (.int .i64 0)))⟩])
     (.cond (.t 67)
       (.seq (.region false [] [
          ⟨(some 68), none, (.mov (.t 10))⟩,
          ⟨(some 4), none, (.mov (.t 68))⟩])
       .ret)
       .skip)))
     (.seq (.region false [] [
        ⟨(some 69), none, (.fld 2 (.t 9))⟩,
        ⟨(some 70), none, (.load 1 false (.t 69))⟩,
        ⟨(some 71), none, (.call 41 [(.t 70), (.v (.int .i64 0)), (.v (.int .i64 100000))])⟩,
        ⟨(some 72), none, (.un .not (.t 71))⟩])
     (.cond (.t 72)
       (.seq (.region false [] [
          ⟨(some 4), none, (.mov (.v (.int .i64 4)))⟩])
       .ret)
       .skip)))))
    (.region false [] [
       ⟨(some 73), none, (.bin .add 3 (.t 54) (.v (.int .i64 1)))⟩,
       ⟨(some 54), none, (.mov (.t 73))⟩])))))))
  (.seq (.seq (.region false [] [
     ⟨(some 74), none, (.fld 5 (.t 2))⟩,
     ⟨(some 75), none, (.load 1 false (.t 74))⟩,
     ⟨(some 76), none, (.len (.t 75))⟩,
     ⟨(some 77), none, (.mov (.v (.int .i64 0)))⟩])
  (.block 4 (.loop (.seq (.region false [] [
       ⟨(some 78), none, (.bin .lss 3 (.t 77) (.t 76))⟩])
    (.seq (.cond (.t 78)
      .skip
      (.exit 4))
    (.seq (.block 5 (.seq (.region false [] [
        ⟨(some 79), none, (.idx 5 (.t 75) (.t 77))⟩,
        ⟨(some 80), none, (.load 5 true (.t 79))⟩,
        ⟨(some 12), none, (.alloc 94 (.agg #[(.string ⟨#[]⟩), (.string ⟨#[]⟩), (.int .i64 0), (.int .i64 0), (.int .i64 0)]))⟩,
        ⟨none, none, (.store 5 (.t 12) (.t 80))⟩])
     (.seq (.seq (.region false [] [
        ⟨(some 81), none, (.load 6 true (.t 2))⟩,
        ⟨(some 82), none, (.mov (.t 1))⟩,
        ⟨(some 83), none, (.fld 0 (.t 12))⟩,
        ⟨(some 84), none, (.load 1 false (.t 83))⟩,
        ⟨(some 85), none, (.fld 1 (.t 12))⟩,
        ⟨(some 86), none, (.load 1 false (.t 85))⟩,
        ⟨(some 87), none, (.bsl 9 1 1 [(0, (.t 86))])⟩,
        ⟨(some 88), none, (.call 24 [(.t 81), (.t 82), (.t 84), (.t 87)])⟩,
        ⟨(some 13), none, (.mov (.t 88))⟩])
     (.seq (.region false [] [
        ⟨(some 89), none, (.mov (.t 13))⟩,
        ⟨(some 90), none, (.bin .neq 30 (.t 89) (.v (.int .i64 0)))⟩])
     (.cond (.t 90)
       (.seq (.region false [] [
          ⟨(some 91), none, (.mov (.t 13))⟩,
          ⟨(some 4), none, (.mov (.t 91))⟩])
       .ret)
       .skip)))
     (.seq (.region false [] [
        ⟨(some 92), none, (.fld 2 (.t 12))⟩,
        ⟨(some 93), none, (.load 1 false (.t 92))⟩,
        ⟨(some 94), none, (.call 41 [(.t 93), (.v (.int .i64 0)), (.v (.int .i64 100000))])⟩,
        ⟨(some 95), none, (.un .not (.t 94))⟩,
        ⟨(some 96), none, (.mov (.t 95))⟩,
        ⟨(some 97), (some (96, false)), (.fld 3 (.t 12))⟩,
        ⟨(some 98), (some (96, false)), (.load 1 false (.t 97))⟩,
        ⟨(some 99), (some (96, false)), (.call 41 [(.t 98), (.v (.int .i64 0)), (.v (.int .i64 100000))])⟩,
        ⟨(some 100), (some (96, false)), (.un .not (.t 99))⟩,
        ⟨(some 101), none, (.pick (.t 96) (.v (.bool true)) (.t 100))⟩,
        ⟨(some 102), none, (.mov (.t 101))⟩,
        ⟨(some 103), (some (102, false)), (.fld 4 (.t 12))⟩,
        ⟨(some 104), (some (102, false)), (.load 1 false (.t 103))⟩,
        ⟨(some 105), (some (102, false)), (.call 41 [(.t 104), (.v (.int .i64 0)), (.v (.int .i64 100000))])⟩,
        ⟨(some 106), (some (102, false)), (.un .not (.t 105))⟩,
        ⟨(some 107), none, (.pick (.t 102) (.v (.bool true)) (.t 106))⟩])
     (.cond (.t 107)
       (.seq (.region false [] [
          ⟨(some 4), none, (.mov (.v (.int .i64 4)))⟩])
       .ret)
       .skip)))))
    (.region false [] [
       ⟨(some 108), none, (.bin .add 3 (.t 77) (.v (.int .i64 1)))⟩,
       ⟨(some 77), none, (.mov (.t 108))⟩])))))))
  (.seq (.region false [] [
     ⟨(some 4), none, (.mov (.v (.int .i64 0)))⟩])
  .ret)))))
theorem k26 : FnIs Try.prog 26 109 [.t 4] a26 := ⟨_, _, Try.func26, rfl, by kernel_rfl, by kernel_rfl, rfl⟩

theorem addL_length (l : List ByteArray) (s : ByteArray) : (addL l s).length ≤ l.length + 1 := by
  unfold addL
  split
  · rw [List.length_append]; exact Nat.le_refl _
  · omega
def devE (n : Net) (l : List ByteArray) (name : ByteArray) (nodes : List ByteArray) : Int := if addE l name ≠ 0 then addE l name else endsF n nodes
theorem s24 (n : Net) (l : List ByteArray) (name : ByteArray) (nl fl) (nodes : List ByteArray) (hn' : n.nodes.l.length ≤ 9223372036854775807) (hs : name.size ≤ 9223372036854775807) (hl : l.length ≤ 1000) (hd : nodes.length ≤ 1000) :
    Aw.Spec Try.prog 24 (metR l) [neta n, .ptr 0 0 0, S name, ss nl fl nodes] (fun rg v => rg = metR (addL l name) ∧ v = I (devE n l name nodes)) := by
  refine Aw.Spec.of k24 rfl fun E hn hnp hp => ?_
  replace hnp : E.np = 2 := hnp
  have pin1 := hp.arr 1 rfl
  have hD : devE n l name nodes = if addE l name ≠ 0 then addE l name else endsF n nodes := rfl
  unfold a24
  refine AWp.ofD [] [] hn mixed rfl ?_
  simp (config := { maxSteps := 2000000 }) only [go_sem, ↓reduceIte, Int.reduceToNat, Nat.reduceMul, Int.reduceBEq, Int.reduceBNe, Nat.reduceBEq, Nat.reduceAdd, Nat.reduceSub, Nat.reduceLeDiff, Nat.reduceEqDiff, Nat.reduceLT, reduceCtorEq]
  refine AWpL.callA [0, 1] (s23 l name hs hl) rfl rfl (by rw [hn]; rfl) rfl (fun r hr => by
    rcases List.mem_cons.1 hr with rfl | hr
    · exact .inl rfl
    · cases List.mem_singleton.1 hr; exact .inr pin1) fun rg v hv => ?_
  obtain ⟨rfl, rfl⟩ := hv
  refine ⟨Nat.le_refl _, AWpL.ofM hn rfl ?_⟩
  simp (config := { maxSteps := 2000000 }) only [go_sem, ↓reduceIte, Int.reduceToNat, Nat.reduceMul, Int.reduceBEq, Int.reduceBNe, Nat.reduceBEq, Nat.reduceAdd, Nat.reduceSub, Nat.reduceLeDiff, Nat.reduceEqDiff, Nat.reduceLT, reduceCtorEq, Aw.retS, Aw.retRg, Aw.kpM, Aw.bkM, Aw.pos, Aw.isBox]
  simp only [bne_iff_ne, ne_eq, bne_eq_false_iff_eq]
  refine ⟨fun h => ?_, fun h => ?_⟩
  · rw [if_pos h] at hD
    rw [hD]
    refine Retn.ret (π := [0, 1]) hp hnp ⟨rfl, ?_⟩
    simp (config := { maxSteps := 2000000 }) only [go_sem, ↓reduceIte, Int.reduceToNat, Nat.reduceMul, Int.reduceBEq, Int.reduceBNe, Nat.reduceBEq, Nat.reduceAdd, Nat.reduceSub, Nat.reduceLeDiff, Nat.reduceEqDiff, Nat.reduceLT, reduceCtorEq, Aw.renR, Aw.pos]
  rw [if_neg (by simpa using h)] at hD
  rw [hD]
  (refine AWpL.calle (s40 n nl fl nodes hn' (by omega)) rfl (by rw [hn]; rfl) (by simp (config := { maxSteps := 2000000 }) only [go_sem, ↓reduceIte, Int.reduceToNat, Nat.reduceMul, Int.reduceBEq, Int.reduceBNe, Nat.reduceBEq, Nat.reduceAdd, Nat.reduceSub, Nat.reduceLeDiff, Nat.reduceEqDiff, Nat.reduceLT, reduceCtorEq]) (AWpL.ofM hn rfl ?_); simp (config := { maxSteps := 2000000 }) only [go_sem, ↓reduceIte, Int.reduceToNat, Nat.reduceMul, Int.reduceBEq, Int.reduceBNe, Nat.reduceBEq, Nat.reduceAdd, Nat.reduceSub, Nat.reduceLeDiff, Nat.reduceEqDiff, Nat.reduceLT, reduceCtorEq])
  refine Retn.ret (π := [0, 1]) hp hnp ⟨rfl, ?_⟩
  simp (config := { maxSteps := 2000000 }) only [go_sem, ↓reduceIte, Int.reduceToNat, Nat.reduceMul, Int.reduceBEq, Int.reduceBNe, Nat.reduceBEq, Nat.reduceAdd, Nat.reduceSub, Nat.reduceLeDiff, Nat.reduceEqDiff, Nat.reduceLT, reduceCtorEq, Aw.renR, Aw.pos]
theorem addL_dev {n : Net} {l : List ByteArray} {name : ByteArray} {nodes : List ByteArray} (h : devE n l name nodes = 0) : addL l name = l ++ [name] := by
  unfold devE at h
  split at h
  · rename_i h1; exact absurd h h1
  · rename_i h1; unfold addL; rw [if_pos (by simpa using h1)]
/-- A device or a node: its name, its ends, what else is wrong with it. -/
structure Item where
  name : ByteArray
  ends : List ByteArray
  e : Int
def itemsE (n : Net) : List ByteArray → List Item → Int
  | _, [] => 0
  | met, x :: r => if devE n met x.name x.ends ≠ 0 then devE n met x.name x.ends else if x.e ≠ 0 then x.e else itemsE n (met ++ [x.name]) r
theorem itemsE_dev {n : Net} {met : List ByteArray} {x : Item} {r : List Item} (h : devE n met x.name x.ends ≠ 0) : itemsE n met (x :: r) = devE n met x.name x.ends := if_pos h
theorem itemsE_e {n : Net} {met : List ByteArray} {x : Item} {r : List Item} (h : devE n met x.name x.ends = 0) (h2 : x.e ≠ 0) : itemsE n met (x :: r) = x.e := by
  show (if _ then _ else if _ then _ else _) = _
  rw [if_neg (by simpa using h), if_pos h2]
theorem itemsE_ok {n : Net} {met : List ByteArray} {x : Item} {r : List Item} (h : devE n met x.name x.ends = 0) (h2 : x.e = 0) : itemsE n met (x :: r) = itemsE n (met ++ [x.name]) r := by
  show (if _ then _ else if _ then _ else _) = _
  rw [if_neg (by simpa using h), if_neg (by simpa using h2)]
def genE (g : Gen) : Int := if (!inR g.least 0 100000 || !inR g.most g.least 100000 || !inR g.ramp 0 100000) = true then 4 else 0
def loaE (g : Loa) : Int := if (!inR g.demand 0 100000) = true then 4 else 0
def stoE (g : Sto) : Int := if (!inR g.charge 0 100000 || !inR g.dis 0 100000 || !inR g.cap 0 100000) = true then 4 else 0
def genI (g : Gen) : Item := ⟨g.name, [g.node], genE g⟩
def loaI (g : Loa) : Item := ⟨g.name, [g.node], loaE g⟩
def stoI (g : Sto) : Item := ⟨g.name, [g.node], stoE g⟩
theorem map_drop {α β : Type} (f : α → β) {l : List α} {i : Nat} (h : i < l.length) (r : List β) : (l.drop i).map f ++ r = f l[i] :: ((l.drop (i + 1)).map f ++ r) := by
  rw [List.drop_eq_getElem_cons h]; rfl
theorem map_dropE {α β : Type} (f : α → β) {l : List α} {i : Nat} (h : l.length ≤ i) (r : List β) : (l.drop i).map f ++ r = r := by
  rw [List.drop_of_length_le h]; rfl

set_option maxRecDepth 20000 in
set_option maxHeartbeats 1000000 in
theorem s26 (n : Net) (l : List ByteArray) (hk : NetOk n) (hg : n.gens.l.length ≤ 10) (hlo : n.loads.l.length ≤ 12) (hst : n.stores.l.length ≤ 4) (hl : l.length ≤ 100) :
    Aw.Spec Try.prog 26 (metR l) [neta n, .ptr 0 0 0] (fun rg v => ∃ l', rg = metR l' ∧ v = I (itemsE n l (n.gens.l.map genI ++ (n.loads.l.map loaI ++ n.stores.l.map stoI)))) := by
  refine Aw.Spec.of k26 rfl fun E hn hnp hp => ?_
  replace hnp : E.np = 2 := hnp
  have pin1 := hp.arr 1 rfl
  unfold a26
  refine AWp.ofD [] [] hn mixed rfl ?_
  simp (config := { maxSteps := 2000000 }) only [go_sem, ↓reduceIte, Int.reduceToNat, Nat.reduceMul, Int.reduceBEq, Int.reduceBNe, Nat.reduceBEq, Nat.reduceAdd, Nat.reduceSub, Nat.reduceLeDiff, Nat.reduceEqDiff, Nat.reduceLT, reduceCtorEq]
  obtain ⟨R0, hR⟩ : ∃ R : List Item, R = [] := ⟨_, rfl⟩
  generalize hA : (n.gens.l.map genI ++ (n.loads.l.map loaI ++ n.stores.l.map stoI)) = all
  have hall : itemsE n l all = itemsE n l ((n.gens.l.drop 0).map genI ++ (n.loads.l.map loaI ++ (n.stores.l.map stoI ++ R0))) := by rw [hA.symm, hR, List.append_nil]; rfl
  clear hA
  refine AWp.loop (fun k s => ∃ i : Nat, ∃ met1 : List ByteArray, i + k = n.gens.l.length ∧ met1.length = l.length + i ∧ itemsE n l all = itemsE n met1 ((n.gens.l.drop i).map genI ++ (n.loads.l.map loaI ++ (n.stores.l.map stoI ++ R0)))
      ∧ Weak E s ⟨[(2, .ptr 2 0 0), (1, .ptr 0 0 0), (15, n.gens.av 5 gec), (16, I n.gens.l.length), (17, I i)], metR met1 ++ [.box 29 (netc n)]⟩) (n := n.gens.l.length)
    ⟨0, l, by omega, rfl, hall, weak_to [0, 1, 2] hp hnp rfl (by simp (config := { maxSteps := 2000000 }) only [go_sem, ↓reduceIte, Int.reduceToNat, Nat.reduceMul, Int.reduceBEq, Int.reduceBNe, Nat.reduceBEq, Nat.reduceAdd, Nat.reduceSub, Nat.reduceLeDiff, Nat.reduceEqDiff, Nat.reduceLT, reduceCtorEq, Int.natCast_zero, Aw.pos]) (by simp (config := { maxSteps := 2000000 }) only [go_sem, ↓reduceIte, Int.reduceToNat, Nat.reduceMul, Int.reduceBEq, Int.reduceBNe, Nat.reduceBEq, Nat.reduceAdd, Nat.reduceSub, Nat.reduceLeDiff, Nat.reduceEqDiff, Nat.reduceLT, reduceCtorEq, Aw.renR, Aw.pos])⟩ ?_
  rintro k s ⟨i, met1, hik, hml, hc, hw⟩
  refine AWp.weak hw (AWp.ofD [] [] hn mixed rfl ?_)
  rcases Nat.lt_or_ge i n.gens.l.length with hlt | hge
  · have e0 : decide ((i : Int) < (n.gens.l.length : Int)) = true := decide_eq_true (by omega)
    have e1 := getD_map gec hlt
    have e2 : IntKind.i64.wrap ((i : Int) + 1) = ((i + 1 : Nat) : Int) := by rw [w64 (by omega) (by omega)]; omega
    rw [map_drop genI hlt] at hc
    have hx := hk.gens _ (List.getElem_mem hlt)
    generalize n.gens.l[i] = x at e1 hc hx
    simp (config := { maxSteps := 2000000 }) only [go_sem, ↓reduceIte, Int.reduceToNat, Nat.reduceMul, Int.reduceBEq, Int.reduceBNe, Nat.reduceBEq, Nat.reduceAdd, Nat.reduceSub, Nat.reduceLeDiff, Nat.reduceEqDiff, Nat.reduceLT, reduceCtorEq, e0, e1]
    (repeat (refine And.intro (by first | omega | (refine ⟨by omega, by omega⟩) | (refine ⟨by omega, by omega, by omega⟩) | (simp only [List.length_map, List.length_range, List.length_append, List.length_cons, List.length_nil, List.length_replicate, List.length_set]; omega) | (simp; omega) | (intro hgd; cases hgd) | (intro hgd; refine ⟨hgd, ?_⟩; first | omega | (refine ⟨by omega, by omega⟩) | (simp; omega))) ?_))
    refine AWpL.weak (weak_freeze 4 rfl (hp.none hnp (by omega)) (by simp (config := { maxSteps := 2000000 }) only [go_sem, ↓reduceIte, Int.reduceToNat, Nat.reduceMul, Int.reduceBEq, Int.reduceBNe, Nat.reduceBEq, Nat.reduceAdd, Nat.reduceSub, Nat.reduceLeDiff, Nat.reduceEqDiff, Nat.reduceLT, reduceCtorEq, Nat.le_refl])) (AWpL.ofM hn rfl ?_)
    simp (config := { maxSteps := 2000000 }) only [go_sem, ↓reduceIte, Int.reduceToNat, Nat.reduceMul, Int.reduceBEq, Int.reduceBNe, Nat.reduceBEq, Nat.reduceAdd, Nat.reduceSub, Nat.reduceLeDiff, Nat.reduceEqDiff, Nat.reduceLT, reduceCtorEq]
    refine AWpL.callA [0, 1] (s24 n met1 x.name none true (genI x).ends hk.nlen hx (by omega) (by simp [genI])) rfl rfl (by rw [hn]; rfl) rfl (fun r hr => by
      rcases List.mem_cons.1 hr with rfl | hr
      · exact .inl rfl
      · cases List.mem_singleton.1 hr; exact .inr pin1) fun rg v hv => ?_
    obtain ⟨rfl, rfl⟩ := hv
    refine ⟨Nat.le_refl _, AWpL.ofM hn rfl ?_⟩
    simp (config := { maxSteps := 2000000 }) only [go_sem, ↓reduceIte, Int.reduceToNat, Nat.reduceMul, Int.reduceBEq, Int.reduceBNe, Nat.reduceBEq, Nat.reduceAdd, Nat.reduceSub, Nat.reduceLeDiff, Nat.reduceEqDiff, Nat.reduceLT, reduceCtorEq, Aw.retS, Aw.retRg, Aw.kpM, Aw.bkM, Aw.pos, Aw.isBox]
    simp only [bne_iff_ne, ne_eq, bne_eq_false_iff_eq]
    refine ⟨fun h => ?_, fun h => ?_⟩
    · rw [hc, itemsE_dev (x := genI x) h]
      refine Retn.ret (π := [0, 1]) hp hnp ⟨rfl, ?_⟩
      simp (config := { maxSteps := 2000000 }) only [go_sem, ↓reduceIte, Int.reduceToNat, Nat.reduceMul, Int.reduceBEq, Int.reduceBNe, Nat.reduceBEq, Nat.reduceAdd, Nat.reduceSub, Nat.reduceLeDiff, Nat.reduceEqDiff, Nat.reduceLT, reduceCtorEq, Aw.renR, Aw.pos]
      exact ⟨_, rfl, rfl⟩
    rw [addL_dev h]
    ((refine AWpL.calle (s41 x.least 0 100000) rfl (by rw [hn]; rfl) (by simp (config := { maxSteps := 2000000 }) only [go_sem, ↓reduceIte, Int.reduceToNat, Nat.reduceMul, Int.reduceBEq, Int.reduceBNe, Nat.reduceBEq, Nat.reduceAdd, Nat.reduceSub, Nat.reduceLeDiff, Nat.reduceEqDiff, Nat.reduceLT, reduceCtorEq]) (AWpL.ofM hn rfl ?_); simp (config := { maxSteps := 2000000 }) only [go_sem, ↓reduceIte, Int.reduceToNat, Nat.reduceMul, Int.reduceBEq, Int.reduceBNe, Nat.reduceBEq, Nat.reduceAdd, Nat.reduceSub, Nat.reduceLeDiff, Nat.reduceEqDiff, Nat.reduceLT, reduceCtorEq]); (refine AWpL.gcalle rfl (fun _ => (s41 x.most x.least 100000)) rfl (by rw [hn]; rfl) (fun hb => by simp (config := { maxSteps := 2000000 }) only [go_sem, ↓reduceIte, Int.reduceToNat, Nat.reduceMul, Int.reduceBEq, Int.reduceBNe, Nat.reduceBEq, Nat.reduceAdd, Nat.reduceSub, Nat.reduceLeDiff, Nat.reduceEqDiff, Nat.reduceLT, reduceCtorEq, hb] <;> simpa using hb) (AWpL.ofM hn rfl ?_); simp (config := { maxSteps := 2000000 }) only [go_sem, ↓reduceIte, Int.reduceToNat, Nat.reduceMul, Int.reduceBEq, Int.reduceBNe, Nat.reduceBEq, Nat.reduceAdd, Nat.reduceSub, Nat.reduceLeDiff, Nat.reduceEqDiff, Nat.reduceLT, reduceCtorEq]); (refine AWpL.gcalle rfl (fun _ => (s41 x.ramp 0 100000)) rfl (by rw [hn]; rfl) (fun hb => by simp (config := { maxSteps := 2000000 }) only [go_sem, ↓reduceIte, Int.reduceToNat, Nat.reduceMul, Int.reduceBEq, Int.reduceBNe, Nat.reduceBEq, Nat.reduceAdd, Nat.reduceSub, Nat.reduceLeDiff, Nat.reduceEqDiff, Nat.reduceLT, reduceCtorEq, hb] <;> simpa using hb) (AWpL.ofM hn rfl ?_); simp (config := { maxSteps := 2000000 }) only [go_sem, ↓reduceIte, Int.reduceToNat, Nat.reduceMul, Int.reduceBEq, Int.reduceBNe, Nat.reduceBEq, Nat.reduceAdd, Nat.reduceSub, Nat.reduceLeDiff, Nat.reduceEqDiff, Nat.reduceLT, reduceCtorEq]))
    refine ⟨fun h2 => ?_, fun h2 => ?_⟩
    · rw [hc, itemsE_e (x := genI x) h (by show genE x ≠ 0; unfold genE; rw [if_pos (by simpa using h2)]; decide), show (genI x).e = 4 from if_pos (by simpa using h2)]
      refine Retn.ret (π := [0, 1]) hp hnp ⟨rfl, ?_⟩
      simp (config := { maxSteps := 2000000 }) only [go_sem, ↓reduceIte, Int.reduceToNat, Nat.reduceMul, Int.reduceBEq, Int.reduceBNe, Nat.reduceBEq, Nat.reduceAdd, Nat.reduceSub, Nat.reduceLeDiff, Nat.reduceEqDiff, Nat.reduceLT, reduceCtorEq, Aw.renR, Aw.pos]
      exact ⟨_, rfl⟩
    rw [itemsE_ok (x := genI x) h (if_neg (by simpa using h2))] at hc
    rw [e2]
    exact ⟨k - 1, by omega, i + 1, met1 ++ [x.name], by omega, by rw [List.length_append, List.length_singleton]; omega, hc, weak_to [0, 1, 2] hp hnp rfl (by simp (config := { maxSteps := 2000000 }) only [go_sem, ↓reduceIte, Int.reduceToNat, Nat.reduceMul, Int.reduceBEq, Int.reduceBNe, Nat.reduceBEq, Nat.reduceAdd, Nat.reduceSub, Nat.reduceLeDiff, Nat.reduceEqDiff, Nat.reduceLT, reduceCtorEq, Aw.pos]) (by simp (config := { maxSteps := 2000000 }) only [go_sem, ↓reduceIte, Int.reduceToNat, Nat.reduceMul, Int.reduceBEq, Int.reduceBNe, Nat.reduceBEq, Nat.reduceAdd, Nat.reduceSub, Nat.reduceLeDiff, Nat.reduceEqDiff, Nat.reduceLT, reduceCtorEq, Aw.renR, Aw.pos])⟩
  have e0 : decide ((i : Int) < (n.gens.l.length : Int)) = false := decide_eq_false (by omega)
  simp (config := { maxSteps := 2000000 }) only [go_sem, ↓reduceIte, Int.reduceToNat, Nat.reduceMul, Int.reduceBEq, Int.reduceBNe, Nat.reduceBEq, Nat.reduceAdd, Nat.reduceSub, Nat.reduceLeDiff, Nat.reduceEqDiff, Nat.reduceLT, reduceCtorEq, e0]
  rw [map_dropE genI hge] at hc
  have hml2 : met1.length ≤ l.length + n.gens.l.length := by omega
  clear hw hml hik hge e0 hall
  have hall := hc
  clear hc

  refine AWp.loop (fun k s => ∃ i : Nat, ∃ met2 : List ByteArray, i + k = n.loads.l.length ∧ met2.length = met1.length + i ∧ itemsE n l all = itemsE n met2 ((n.loads.l.drop i).map loaI ++ (n.stores.l.map stoI ++ R0))
      ∧ Weak E s ⟨[(2, .ptr 2 0 0), (1, .ptr 0 0 0), (52, n.loads.av 3 loc), (53, I n.loads.l.length), (54, I i)], metR met2 ++ [.box 29 (netc n)]⟩) (n := n.loads.l.length)
    ⟨0, met1, by omega, rfl, hall, weak_to [0, 1, 2] hp hnp rfl (by simp (config := { maxSteps := 2000000 }) only [go_sem, ↓reduceIte, Int.reduceToNat, Nat.reduceMul, Int.reduceBEq, Int.reduceBNe, Nat.reduceBEq, Nat.reduceAdd, Nat.reduceSub, Nat.reduceLeDiff, Nat.reduceEqDiff, Nat.reduceLT, reduceCtorEq, Int.natCast_zero, Aw.pos]) (by simp (config := { maxSteps := 2000000 }) only [go_sem, ↓reduceIte, Int.reduceToNat, Nat.reduceMul, Int.reduceBEq, Int.reduceBNe, Nat.reduceBEq, Nat.reduceAdd, Nat.reduceSub, Nat.reduceLeDiff, Nat.reduceEqDiff, Nat.reduceLT, reduceCtorEq, Aw.renR, Aw.pos])⟩ ?_
  rintro k s ⟨i, met2, hik, hml, hc, hw⟩
  refine AWp.weak hw (AWp.ofD [] [] hn mixed rfl ?_)
  rcases Nat.lt_or_ge i n.loads.l.length with hlt | hge
  · have e0 : decide ((i : Int) < (n.loads.l.length : Int)) = true := decide_eq_true (by omega)
    have e1 := getD_map loc hlt
    have e2 : IntKind.i64.wrap ((i : Int) + 1) = ((i + 1 : Nat) : Int) := by rw [w64 (by omega) (by omega)]; omega
    rw [map_drop loaI hlt] at hc
    have hx := hk.loads _ (List.getElem_mem hlt)
    generalize n.loads.l[i] = x at e1 hc hx
    simp (config := { maxSteps := 2000000 }) only [go_sem, ↓reduceIte, Int.reduceToNat, Nat.reduceMul, Int.reduceBEq, Int.reduceBNe, Nat.reduceBEq, Nat.reduceAdd, Nat.reduceSub, Nat.reduceLeDiff, Nat.reduceEqDiff, Nat.reduceLT, reduceCtorEq, e0, e1]
    (repeat (refine And.intro (by first | omega | (refine ⟨by omega, by omega⟩) | (refine ⟨by omega, by omega, by omega⟩) | (simp only [List.length_map, List.length_range, List.length_append, List.length_cons, List.length_nil, List.length_replicate, List.length_set]; omega) | (simp; omega) | (intro hgd; cases hgd) | (intro hgd; refine ⟨hgd, ?_⟩; first | omega | (refine ⟨by omega, by omega⟩) | (simp; omega))) ?_))
    refine AWpL.weak (weak_freeze 4 rfl (hp.none hnp (by omega)) (by simp (config := { maxSteps := 2000000 }) only [go_sem, ↓reduceIte, Int.reduceToNat, Nat.reduceMul, Int.reduceBEq, Int.reduceBNe, Nat.reduceBEq, Nat.reduceAdd, Nat.reduceSub, Nat.reduceLeDiff, Nat.reduceEqDiff, Nat.reduceLT, reduceCtorEq, Nat.le_refl])) (AWpL.ofM hn rfl ?_)
    simp (config := { maxSteps := 2000000 }) only [go_sem, ↓reduceIte, Int.reduceToNat, Nat.reduceMul, Int.reduceBEq, Int.reduceBNe, Nat.reduceBEq, Nat.reduceAdd, Nat.reduceSub, Nat.reduceLeDiff, Nat.reduceEqDiff, Nat.reduceLT, reduceCtorEq]
    refine AWpL.callA [0, 1] (s24 n met2 x.name none true (loaI x).ends hk.nlen hx (by omega) (by simp [loaI])) rfl rfl (by rw [hn]; rfl) rfl (fun r hr => by
      rcases List.mem_cons.1 hr with rfl | hr
      · exact .inl rfl
      · cases List.mem_singleton.1 hr; exact .inr pin1) fun rg v hv => ?_
    obtain ⟨rfl, rfl⟩ := hv
    refine ⟨Nat.le_refl _, AWpL.ofM hn rfl ?_⟩
    simp (config := { maxSteps := 2000000 }) only [go_sem, ↓reduceIte, Int.reduceToNat, Nat.reduceMul, Int.reduceBEq, Int.reduceBNe, Nat.reduceBEq, Nat.reduceAdd, Nat.reduceSub, Nat.reduceLeDiff, Nat.reduceEqDiff, Nat.reduceLT, reduceCtorEq, Aw.retS, Aw.retRg, Aw.kpM, Aw.bkM, Aw.pos, Aw.isBox]
    simp only [bne_iff_ne, ne_eq, bne_eq_false_iff_eq]
    refine ⟨fun h => ?_, fun h => ?_⟩
    · rw [hc, itemsE_dev (x := loaI x) h]
      refine Retn.ret (π := [0, 1]) hp hnp ⟨rfl, ?_⟩
      simp (config := { maxSteps := 2000000 }) only [go_sem, ↓reduceIte, Int.reduceToNat, Nat.reduceMul, Int.reduceBEq, Int.reduceBNe, Nat.reduceBEq, Nat.reduceAdd, Nat.reduceSub, Nat.reduceLeDiff, Nat.reduceEqDiff, Nat.reduceLT, reduceCtorEq, Aw.renR, Aw.pos]
      exact ⟨_, rfl, rfl⟩
    rw [addL_dev h]
    ((refine AWpL.calle (s41 x.demand 0 100000) rfl (by rw [hn]; rfl) (by simp (config := { maxSteps := 2000000 }) only [go_sem, ↓reduceIte, Int.reduceToNat, Nat.reduceMul, Int.reduceBEq, Int.reduceBNe, Nat.reduceBEq, Nat.reduceAdd, Nat.reduceSub, Nat.reduceLeDiff, Nat.reduceEqDiff, Nat.reduceLT, reduceCtorEq]) (AWpL.ofM hn rfl ?_); simp (config := { maxSteps := 2000000 }) only [go_sem, ↓reduceIte, Int.reduceToNat, Nat.reduceMul, Int.reduceBEq, Int.reduceBNe, Nat.reduceBEq, Nat.reduceAdd, Nat.reduceSub, Nat.reduceLeDiff, Nat.reduceEqDiff, Nat.reduceLT, reduceCtorEq]))
    refine ⟨fun h2 => ?_, fun h2 => ?_⟩
    · rw [hc, itemsE_e (x := loaI x) h (by show loaE x ≠ 0; unfold loaE; rw [if_pos (by simpa using h2)]; decide), show (loaI x).e = 4 from if_pos (by simpa using h2)]
      refine Retn.ret (π := [0, 1]) hp hnp ⟨rfl, ?_⟩
      simp (config := { maxSteps := 2000000 }) only [go_sem, ↓reduceIte, Int.reduceToNat, Nat.reduceMul, Int.reduceBEq, Int.reduceBNe, Nat.reduceBEq, Nat.reduceAdd, Nat.reduceSub, Nat.reduceLeDiff, Nat.reduceEqDiff, Nat.reduceLT, reduceCtorEq, Aw.renR, Aw.pos]
      exact ⟨_, rfl⟩
    rw [itemsE_ok (x := loaI x) h (if_neg (by simpa using h2))] at hc
    rw [e2]
    exact ⟨k - 1, by omega, i + 1, met2 ++ [x.name], by omega, by rw [List.length_append, List.length_singleton]; omega, hc, weak_to [0, 1, 2] hp hnp rfl (by simp (config := { maxSteps := 2000000 }) only [go_sem, ↓reduceIte, Int.reduceToNat, Nat.reduceMul, Int.reduceBEq, Int.reduceBNe, Nat.reduceBEq, Nat.reduceAdd, Nat.reduceSub, Nat.reduceLeDiff, Nat.reduceEqDiff, Nat.reduceLT, reduceCtorEq, Aw.pos]) (by simp (config := { maxSteps := 2000000 }) only [go_sem, ↓reduceIte, Int.reduceToNat, Nat.reduceMul, Int.reduceBEq, Int.reduceBNe, Nat.reduceBEq, Nat.reduceAdd, Nat.reduceSub, Nat.reduceLeDiff, Nat.reduceEqDiff, Nat.reduceLT, reduceCtorEq, Aw.renR, Aw.pos])⟩
  have e0 : decide ((i : Int) < (n.loads.l.length : Int)) = false := decide_eq_false (by omega)
  simp (config := { maxSteps := 2000000 }) only [go_sem, ↓reduceIte, Int.reduceToNat, Nat.reduceMul, Int.reduceBEq, Int.reduceBNe, Nat.reduceBEq, Nat.reduceAdd, Nat.reduceSub, Nat.reduceLeDiff, Nat.reduceEqDiff, Nat.reduceLT, reduceCtorEq, e0]
  rw [map_dropE loaI hge] at hc
  have hml2 : met2.length ≤ met1.length + n.loads.l.length := by omega
  clear hw hml hik hge e0 hall
  have hall := hc
  clear hc

  refine AWp.loop (fun k s => ∃ i : Nat, ∃ met3 : List ByteArray, i + k = n.stores.l.length ∧ met3.length = met2.length + i ∧ itemsE n l all = itemsE n met3 ((n.stores.l.drop i).map stoI ++ R0)
      ∧ Weak E s ⟨[(2, .ptr 2 0 0), (1, .ptr 0 0 0), (75, n.stores.av 5 stoc), (76, I n.stores.l.length), (77, I i)], metR met3 ++ [.box 29 (netc n)]⟩) (n := n.stores.l.length)
    ⟨0, met2, by omega, rfl, hall, weak_to [0, 1, 2] hp hnp rfl (by simp (config := { maxSteps := 2000000 }) only [go_sem, ↓reduceIte, Int.reduceToNat, Nat.reduceMul, Int.reduceBEq, Int.reduceBNe, Nat.reduceBEq, Nat.reduceAdd, Nat.reduceSub, Nat.reduceLeDiff, Nat.reduceEqDiff, Nat.reduceLT, reduceCtorEq, Int.natCast_zero, Aw.pos]) (by simp (config := { maxSteps := 2000000 }) only [go_sem, ↓reduceIte, Int.reduceToNat, Nat.reduceMul, Int.reduceBEq, Int.reduceBNe, Nat.reduceBEq, Nat.reduceAdd, Nat.reduceSub, Nat.reduceLeDiff, Nat.reduceEqDiff, Nat.reduceLT, reduceCtorEq, Aw.renR, Aw.pos])⟩ ?_
  rintro k s ⟨i, met3, hik, hml, hc, hw⟩
  refine AWp.weak hw (AWp.ofD [] [] hn mixed rfl ?_)
  rcases Nat.lt_or_ge i n.stores.l.length with hlt | hge
  · have e0 : decide ((i : Int) < (n.stores.l.length : Int)) = true := decide_eq_true (by omega)
    have e1 := getD_map stoc hlt
    have e2 : IntKind.i64.wrap ((i : Int) + 1) = ((i + 1 : Nat) : Int) := by rw [w64 (by omega) (by omega)]; omega
    rw [map_drop stoI hlt] at hc
    have hx := hk.stores _ (List.getElem_mem hlt)
    generalize n.stores.l[i] = x at e1 hc hx
    simp (config := { maxSteps := 2000000 }) only [go_sem, ↓reduceIte, Int.reduceToNat, Nat.reduceMul, Int.reduceBEq, Int.reduceBNe, Nat.reduceBEq, Nat.reduceAdd, Nat.reduceSub, Nat.reduceLeDiff, Nat.reduceEqDiff, Nat.reduceLT, reduceCtorEq, e0, e1]
    (repeat (refine And.intro (by first | omega | (refine ⟨by omega, by omega⟩) | (refine ⟨by omega, by omega, by omega⟩) | (simp only [List.length_map, List.length_range, List.length_append, List.length_cons, List.length_nil, List.length_replicate, List.length_set]; omega) | (simp; omega) | (intro hgd; cases hgd) | (intro hgd; refine ⟨hgd, ?_⟩; first | omega | (refine ⟨by omega, by omega⟩) | (simp; omega))) ?_))
    refine AWpL.weak (weak_freeze 4 rfl (hp.none hnp (by omega)) (by simp (config := { maxSteps := 2000000 }) only [go_sem, ↓reduceIte, Int.reduceToNat, Nat.reduceMul, Int.reduceBEq, Int.reduceBNe, Nat.reduceBEq, Nat.reduceAdd, Nat.reduceSub, Nat.reduceLeDiff, Nat.reduceEqDiff, Nat.reduceLT, reduceCtorEq, Nat.le_refl])) (AWpL.ofM hn rfl ?_)
    simp (config := { maxSteps := 2000000 }) only [go_sem, ↓reduceIte, Int.reduceToNat, Nat.reduceMul, Int.reduceBEq, Int.reduceBNe, Nat.reduceBEq, Nat.reduceAdd, Nat.reduceSub, Nat.reduceLeDiff, Nat.reduceEqDiff, Nat.reduceLT, reduceCtorEq]
    refine AWpL.callA [0, 1] (s24 n met3 x.name none true (stoI x).ends hk.nlen hx (by omega) (by simp [stoI])) rfl rfl (by rw [hn]; rfl) rfl (fun r hr => by
      rcases List.mem_cons.1 hr with rfl | hr
      · exact .inl rfl
      · cases List.mem_singleton.1 hr; exact .inr pin1) fun rg v hv => ?_
    obtain ⟨rfl, rfl⟩ := hv
    refine ⟨Nat.le_refl _, AWpL.ofM hn rfl ?_⟩
    simp (config := { maxSteps := 2000000 }) only [go_sem, ↓reduceIte, Int.reduceToNat, Nat.reduceMul, Int.reduceBEq, Int.reduceBNe, Nat.reduceBEq, Nat.reduceAdd, Nat.reduceSub, Nat.reduceLeDiff, Nat.reduceEqDiff, Nat.reduceLT, reduceCtorEq, Aw.retS, Aw.retRg, Aw.kpM, Aw.bkM, Aw.pos, Aw.isBox]
    simp only [bne_iff_ne, ne_eq, bne_eq_false_iff_eq]
    refine ⟨fun h => ?_, fun h => ?_⟩
    · rw [hc, itemsE_dev (x := stoI x) h]
      refine Retn.ret (π := [0, 1]) hp hnp ⟨rfl, ?_⟩
      simp (config := { maxSteps := 2000000 }) only [go_sem, ↓reduceIte, Int.reduceToNat, Nat.reduceMul, Int.reduceBEq, Int.reduceBNe, Nat.reduceBEq, Nat.reduceAdd, Nat.reduceSub, Nat.reduceLeDiff, Nat.reduceEqDiff, Nat.reduceLT, reduceCtorEq, Aw.renR, Aw.pos]
      exact ⟨_, rfl, rfl⟩
    rw [addL_dev h]
    ((refine AWpL.calle (s41 x.charge 0 100000) rfl (by rw [hn]; rfl) (by simp (config := { maxSteps := 2000000 }) only [go_sem, ↓reduceIte, Int.reduceToNat, Nat.reduceMul, Int.reduceBEq, Int.reduceBNe, Nat.reduceBEq, Nat.reduceAdd, Nat.reduceSub, Nat.reduceLeDiff, Nat.reduceEqDiff, Nat.reduceLT, reduceCtorEq]) (AWpL.ofM hn rfl ?_); simp (config := { maxSteps := 2000000 }) only [go_sem, ↓reduceIte, Int.reduceToNat, Nat.reduceMul, Int.reduceBEq, Int.reduceBNe, Nat.reduceBEq, Nat.reduceAdd, Nat.reduceSub, Nat.reduceLeDiff, Nat.reduceEqDiff, Nat.reduceLT, reduceCtorEq]); (refine AWpL.gcalle rfl (fun _ => (s41 x.dis 0 100000)) rfl (by rw [hn]; rfl) (fun hb => by simp (config := { maxSteps := 2000000 }) only [go_sem, ↓reduceIte, Int.reduceToNat, Nat.reduceMul, Int.reduceBEq, Int.reduceBNe, Nat.reduceBEq, Nat.reduceAdd, Nat.reduceSub, Nat.reduceLeDiff, Nat.reduceEqDiff, Nat.reduceLT, reduceCtorEq, hb] <;> simpa using hb) (AWpL.ofM hn rfl ?_); simp (config := { maxSteps := 2000000 }) only [go_sem, ↓reduceIte, Int.reduceToNat, Nat.reduceMul, Int.reduceBEq, Int.reduceBNe, Nat.reduceBEq, Nat.reduceAdd, Nat.reduceSub, Nat.reduceLeDiff, Nat.reduceEqDiff, Nat.reduceLT, reduceCtorEq]); (refine AWpL.gcalle rfl (fun _ => (s41 x.cap 0 100000)) rfl (by rw [hn]; rfl) (fun hb => by simp (config := { maxSteps := 2000000 }) only [go_sem, ↓reduceIte, Int.reduceToNat, Nat.reduceMul, Int.reduceBEq, Int.reduceBNe, Nat.reduceBEq, Nat.reduceAdd, Nat.reduceSub, Nat.reduceLeDiff, Nat.reduceEqDiff, Nat.reduceLT, reduceCtorEq, hb] <;> simpa using hb) (AWpL.ofM hn rfl ?_); simp (config := { maxSteps := 2000000 }) only [go_sem, ↓reduceIte, Int.reduceToNat, Nat.reduceMul, Int.reduceBEq, Int.reduceBNe, Nat.reduceBEq, Nat.reduceAdd, Nat.reduceSub, Nat.reduceLeDiff, Nat.reduceEqDiff, Nat.reduceLT, reduceCtorEq]))
    refine ⟨fun h2 => ?_, fun h2 => ?_⟩
    · rw [hc, itemsE_e (x := stoI x) h (by show stoE x ≠ 0; unfold stoE; rw [if_pos (by simpa using h2)]; decide), show (stoI x).e = 4 from if_pos (by simpa using h2)]
      refine Retn.ret (π := [0, 1]) hp hnp ⟨rfl, ?_⟩
      simp (config := { maxSteps := 2000000 }) only [go_sem, ↓reduceIte, Int.reduceToNat, Nat.reduceMul, Int.reduceBEq, Int.reduceBNe, Nat.reduceBEq, Nat.reduceAdd, Nat.reduceSub, Nat.reduceLeDiff, Nat.reduceEqDiff, Nat.reduceLT, reduceCtorEq, Aw.renR, Aw.pos]
      exact ⟨_, rfl⟩
    rw [itemsE_ok (x := stoI x) h (if_neg (by simpa using h2))] at hc
    rw [e2]
    exact ⟨k - 1, by omega, i + 1, met3 ++ [x.name], by omega, by rw [List.length_append, List.length_singleton]; omega, hc, weak_to [0, 1, 2] hp hnp rfl (by simp (config := { maxSteps := 2000000 }) only [go_sem, ↓reduceIte, Int.reduceToNat, Nat.reduceMul, Int.reduceBEq, Int.reduceBNe, Nat.reduceBEq, Nat.reduceAdd, Nat.reduceSub, Nat.reduceLeDiff, Nat.reduceEqDiff, Nat.reduceLT, reduceCtorEq, Aw.pos]) (by simp (config := { maxSteps := 2000000 }) only [go_sem, ↓reduceIte, Int.reduceToNat, Nat.reduceMul, Int.reduceBEq, Int.reduceBNe, Nat.reduceBEq, Nat.reduceAdd, Nat.reduceSub, Nat.reduceLeDiff, Nat.reduceEqDiff, Nat.reduceLT, reduceCtorEq, Aw.renR, Aw.pos])⟩
  have e0 : decide ((i : Int) < (n.stores.l.length : Int)) = false := decide_eq_false (by omega)
  simp (config := { maxSteps := 2000000 }) only [go_sem, ↓reduceIte, Int.reduceToNat, Nat.reduceMul, Int.reduceBEq, Int.reduceBNe, Nat.reduceBEq, Nat.reduceAdd, Nat.reduceSub, Nat.reduceLeDiff, Nat.reduceEqDiff, Nat.reduceLT, reduceCtorEq, e0]
  rw [map_dropE stoI hge] at hc
  have hml2 : met3.length ≤ met2.length + n.stores.l.length := by omega
  clear hw hml hik hge e0 hall
  have hall := hc
  clear hc

  rw [hall, hR]
  refine Retn.ret (π := [0, 1]) hp hnp ⟨rfl, ?_⟩
  simp (config := { maxSteps := 2000000 }) only [go_sem, ↓reduceIte, Int.reduceToNat, Nat.reduceMul, Int.reduceBEq, Int.reduceBNe, Nat.reduceBEq, Nat.reduceAdd, Nat.reduceSub, Nat.reduceLeDiff, Nat.reduceEqDiff, Nat.reduceLT, reduceCtorEq, Aw.renR, Aw.pos]
  exact ⟨_, rfl, rfl⟩
end Go.Proofs.Ytmginfhlohenhaa
