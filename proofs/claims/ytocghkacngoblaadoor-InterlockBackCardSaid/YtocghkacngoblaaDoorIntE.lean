/- Interlocks: an operation sets one switch. -/
import Derived.Test.YtocghkacngoblaaDoorAwZl
import Derived.Test.YtocghkacngoblaaDoorIntD
set_option linter.unusedVariables false
set_option linter.unusedSimpArgs false
namespace Go.Proofs.YtocghkacngoblaaDoor
open Go.Proofs.YtocghkacngoblaaDoor.Aw
attribute [local go_sem] Int.natCast_zero Int.natCast_one bne_self_eq_false beq_self_eq_true Bool.not_true Bool.not_false Option.isSome_none Option.isSome_some Aw.bkM_nil Option.getD_some Option.getD_none Nat.sub_zero Int.toNat_zero Aw.frzS Aw.frzT Aw.frzA Aw.frzL Aw.frzR Aw.frzO Aw.frzOL Aw.frzOT Aw.frzOR Aw.killS Aw.mapT Aw.mapR Aw.killM Aw.resAVs Aw.resAV Aw.quietOps Aw.wpP Aw.wpT Aw.wpS Aw.AOp.mild List.getElem?_cons_zero List.getElem?_cons_succ Bool.and_false Bool.and_self Bool.false_and Aw.opOb Aw.gdB Aw.Rnd Aw.subTm List.length_map Int.toNat_natCast and_self Aw.SeqC Aw.stops Aw.Ends Aw.looks Aw.renA Aw.renL Aw.renT Aw.renS Aw.wpO Aw.aop Aw.putTm Aw.St.ev Aw.St.put Aw.St.putO Aw.binAV Aw.intBin Aw.strBin Aw.pickAV Aw.optInt Aw.AV.strip Aw.AV.guard Aw.AV.cells Aw.gdOb Aw.AOp.opds Aw.AOp.still Aw.ptrCells Aw.St.reg Aw.fillAV Aw.fillOb Aw.elsOb Aw.splice Aw.firm Aw.cellish Aw.AV.shut Aw.shutAll Aw.Seq Aw.Blk Aw.retS_nil Aw.mapA Aw.mapL Aw.borA Aw.borOb Aw.allOb Aw.tupOf Aw.params Aw.Opd.of Array.toList Value.cells List.map_cons List.map_nil List.getD_cons_zero List.getD_cons_succ List.getD_nil List.length_cons List.length_nil List.take_succ_cons List.take_zero List.take_nil List.drop_zero List.drop_succ_cons List.drop_nil List.set_cons_zero List.set_cons_succ List.append_nil List.nil_append List.cons_append List.all_cons List.all_nil cond_false cond_true if_true if_false true_and and_true Bool.and_true Bool.true_and Option.map_some Option.map_none false_implies forall_const implies_true forall_eq imp_self Bool.cond_false_right Bool.cond_true_left beq_true beq_false Bool.not_eq_true' Bool.false_eq_true Nat.zero_add Nat.add_zero Aw.eqCells Aw.stopDraw Aw.skipS Aw.exactCap Aw.revealS Aw.srcEls Aw.srcSz
attribute [local go_sem ↓] Aw.look_nil Aw.look_ite Aw.wpL_nil Aw.wpL_op Aw.wpL_gd Aw.wpQ_nil Aw.wpQ_op Aw.wpQ_gd Aw.wpC_draw Aw.wpC_reg Aw.wpC_skip Aw.wpC_ret Aw.wpC_exit Aw.wpC_seq Aw.wpC_block Aw.wpC_loop Aw.wpC_cond Aw.stopAt_nil Aw.stopAt_cons Aw.wpD_skip Aw.wpD_ret Aw.wpD_exit Aw.wpD_region Aw.wpD_draw Aw.wpM_nil Aw.wpM_op Aw.wpM_gd Aw.wpD_seq Aw.wpD_block Aw.wpD_loop Aw.wpD_cond
/- slices.Equal[[]gridhall/api.InterlockState,gridhall/api.InterlockState] -/
def a11 : ACode :=
  (.seq (.region false [] [
     ⟨(some 4), none, (.mov (.v (.bool false)))⟩])
  (.seq (.seq (.region false [] [
     ⟨(some 6), none, (.mov (.t 0))⟩,
     ⟨(some 7), none, (.len (.t 6))⟩,
     ⟨(some 8), none, (.mov (.t 1))⟩,
     ⟨(some 9), none, (.len (.t 8))⟩,
     ⟨(some 10), none, (.bin .neq 3 (.t 7) (.t 9))⟩])
  (.cond (.t 10)
    (.seq (.region false [] [
       ⟨(some 4), none, (.mov (.v (.bool false)))⟩])
    .ret)
    .skip))
  (.seq (.seq (.region false [] [
     ⟨(some 11), none, (.mov (.t 0))⟩,
     ⟨(some 12), none, (.len (.t 11))⟩,
     ⟨(some 13), none, (.mov (.v (.int .i64 0)))⟩])
  (.block 0 (.loop (.seq (.region false [] [
       ⟨(some 14), none, (.bin .lss 3 (.t 13) (.t 12))⟩])
    (.seq (.cond (.t 14)
      .skip
      (.exit 0))
    (.seq (.block 1 (.seq (.region false [] [
        ⟨(some 15), none, (.mov (.t 13))⟩,
        ⟨(some 5), none, (.mov (.t 15))⟩])
     (.seq (.region true [[], [], [0, 1], [2], [], [], [4, 5], [6], [3, 7]] [
        ⟨(some 16), none, (.mov (.t 0))⟩,
        ⟨(some 17), none, (.mov (.t 5))⟩,
        ⟨(some 18), none, (.idx 2 (.t 16) (.t 17))⟩,
        ⟨(some 19), none, (.load 2 true (.t 18))⟩,
        ⟨(some 20), none, (.mov (.t 1))⟩,
        ⟨(some 21), none, (.mov (.t 5))⟩,
        ⟨(some 22), none, (.idx 2 (.t 20) (.t 21))⟩,
        ⟨(some 23), none, (.load 2 true (.t 22))⟩,
        ⟨(some 24), none, (.aeq true [.s, .b] (.t 19) (.t 23))⟩])
     (.cond (.t 24)
       (.seq (.region false [] [
          ⟨(some 4), none, (.mov (.v (.bool false)))⟩])
       .ret)
       .skip))))
    (.region false [] [
       ⟨(some 25), none, (.bin .add 3 (.t 13) (.v (.int .i64 1)))⟩,
       ⟨(some 13), none, (.mov (.t 25))⟩])))))))
  (.seq (.region false [] [
     ⟨(some 4), none, (.mov (.v (.bool true)))⟩])
  .ret))))
theorem k11 : FnIs Tryd.prog 11 26 [.t 4] a11 := ⟨_, _, Tryd.func11, rfl, by kernel_rfl, by kernel_rfl, rfl⟩
/- gridhall/gridhallkeep4.InterlockSets -/
def a4 : ACode :=
  (.seq (.region false [] [
     ⟨(some 6), none, (.mov (.v (.bool false)))⟩])
  (.seq (.region false [] [
     ⟨(some 16), none, (.mov (.t 0))⟩,
     ⟨(some 17), none, (.mov (.t 1))⟩,
     ⟨(some 18), none, (.mov (.t 2))⟩,
     ⟨(some 19), none, (.call 10 [(.t 16), (.t 17), (.t 18)])⟩,
     ⟨(some 15), none, (.mov (.t 19))⟩,
     ⟨(some 20), none, (.ext 0 (.t 15))⟩,
     ⟨(some 21), none, (.ext 1 (.t 15))⟩,
     ⟨(some 7), none, (.mov (.t 20))⟩,
     ⟨(some 8), none, (.mov (.t 21))⟩])
  (.seq (.seq (.region false [] [
     ⟨(some 22), none, (.mov (.t 8))⟩,
     ⟨(some 23), none, (.bin .neq 27 (.t 22) (.v (.int .i64 0)))⟩])
  (.cond (.t 23)
    (.seq (.region false [] [
       ⟨(some 24), none, (.call 9 [])⟩,
       ⟨(some 25), none, (.mov (.t 24))⟩,
       ⟨(some 26), (some (25, true)), (.mov (.t 7))⟩,
       ⟨(some 27), (some (25, true)), (.len (.t 26))⟩,
       ⟨(some 28), (some (25, true)), (.bin .eql 3 (.t 27) (.v (.int .i64 0)))⟩,
       ⟨(some 29), none, (.pick (.t 25) (.t 28) (.v (.bool false)))⟩,
       ⟨(some 6), none, (.mov (.t 29))⟩])
    .ret)
    .skip))
  (.seq (.seq (.region false [] [
     ⟨(some 30), none, (.mov (.t 7))⟩,
     ⟨(some 31), none, (.len (.t 30))⟩,
     ⟨(some 32), none, (.mov (.t 0))⟩,
     ⟨(some 33), none, (.len (.t 32))⟩,
     ⟨(some 34), none, (.bin .neq 3 (.t 31) (.t 33))⟩])
  (.cond (.t 34)
    (.seq (.region false [] [
       ⟨(some 6), none, (.mov (.v (.bool false)))⟩])
    .ret)
    .skip))
  (.seq (.seq (.region false [] [
     ⟨(some 35), none, (.mov (.t 7))⟩,
     ⟨(some 36), none, (.len (.t 35))⟩,
     ⟨(some 37), none, (.mov (.v (.int .i64 0)))⟩])
  (.block 0 (.loop (.seq (.region false [] [
       ⟨(some 38), none, (.bin .lss 3 (.t 37) (.t 36))⟩])
    (.seq (.cond (.t 38)
      .skip
      (.exit 0))
    (.seq (.block 1 (.seq (.region false [] [
        ⟨(some 39), none, (.mov (.t 37))⟩,
        ⟨(some 40), none, (.idx 2 (.t 35) (.t 37))⟩,
        ⟨(some 41), none, (.load 2 true (.t 40))⟩,
        ⟨(some 10), none, (.alloc 36 (.agg #[(.string ⟨#[]⟩), (.bool false)]))⟩,
        ⟨(some 9), none, (.mov (.t 39))⟩,
        ⟨none, none, (.store 2 (.t 10) (.t 41))⟩])
     (.seq (.region true [[], [0], [], [], [2, 3], [4], [5], [1, 6], [7], [8], [9, 8], [8], [11, 8], [8], [12, 13, 8], [14, 8, 8], [15], [15, 16, 8], [17, 15, 8], [18], [19, 18], [18], [20, 21, 18], [22, 18, 18], [23], [23], [24, 25, 23], [26, 23], [27, 23], [23, 28, 18], [18, 29, 8], [10, 30, 8], [8, 31]] [
        ⟨(some 42), none, (.fld 0 (.t 10))⟩,
        ⟨(some 43), none, (.load 1 false (.t 42))⟩,
        ⟨(some 44), none, (.mov (.t 0))⟩,
        ⟨(some 45), none, (.mov (.t 9))⟩,
        ⟨(some 46), none, (.idx 2 (.t 44) (.t 45))⟩,
        ⟨(some 47), none, (.fld 0 (.t 46))⟩,
        ⟨(some 48), none, (.load 1 false (.t 47))⟩,
        ⟨(some 49), none, (.bin .neq 9 (.t 43) (.t 48))⟩,
        ⟨(some 50), none, (.mov (.t 49))⟩,
        ⟨(some 51), (some (50, false)), (.fld 1 (.t 10))⟩,
        ⟨(some 52), (some (50, false)), (.load 1 false (.t 51))⟩,
        ⟨(some 53), (some (50, false)), (.fld 0 (.t 10))⟩,
        ⟨(some 54), (some (50, false)), (.load 1 false (.t 53))⟩,
        ⟨(some 55), (some (50, false)), (.mov (.t 2))⟩,
        ⟨(some 56), (some (50, false)), (.bin .eql 9 (.t 54) (.t 55))⟩,
        ⟨(some 57), (some (50, false)), (.mov (.t 56))⟩,
        ⟨(some 58), (some (57, true)), (.mov (.t 1))⟩,
        ⟨(some 59), (some (50, false)), (.pick (.t 57) (.t 58) (.v (.bool false)))⟩,
        ⟨(some 60), (some (50, false)), (.mov (.t 59))⟩,
        ⟨(some 61), (some (60, false)), (.fld 0 (.t 10))⟩,
        ⟨(some 62), (some (60, false)), (.load 1 false (.t 61))⟩,
        ⟨(some 63), (some (60, false)), (.mov (.t 2))⟩,
        ⟨(some 64), (some (60, false)), (.bin .neq 9 (.t 62) (.t 63))⟩,
        ⟨(some 65), (some (60, false)), (.mov (.t 64))⟩,
        ⟨(some 66), (some (65, true)), (.mov (.t 0))⟩,
        ⟨(some 67), (some (65, true)), (.mov (.t 9))⟩,
        ⟨(some 68), (some (65, true)), (.idx 2 (.t 66) (.t 67))⟩,
        ⟨(some 69), (some (65, true)), (.fld 1 (.t 68))⟩,
        ⟨(some 70), (some (65, true)), (.load 1 false (.t 69))⟩,
        ⟨(some 71), (some (60, false)), (.pick (.t 65) (.t 70) (.v (.bool false)))⟩,
        ⟨(some 72), (some (50, false)), (.pick (.t 60) (.v (.bool true)) (.t 71))⟩,
        ⟨(some 73), (some (50, false)), (.beq true (.t 52) (.t 72))⟩,
        ⟨(some 74), none, (.pick (.t 50) (.v (.bool true)) (.t 73))⟩])
     (.cond (.t 74)
       (.seq (.region false [] [
          ⟨(some 6), none, (.mov (.v (.bool false)))⟩])
       .ret)
       .skip))))
    (.region false [] [
       ⟨(some 75), none, (.bin .add 3 (.t 37) (.v (.int .i64 1)))⟩,
       ⟨(some 37), none, (.mov (.t 75))⟩])))))))
  (.seq (.region false [] [
     ⟨(some 77), none, (.mov (.t 7))⟩,
     ⟨(some 78), none, (.mov (.t 1))⟩,
     ⟨(some 79), none, (.un .not (.t 78))⟩,
     ⟨(some 80), none, (.mov (.t 2))⟩,
     ⟨(some 81), none, (.call 10 [(.t 77), (.t 79), (.t 80)])⟩,
     ⟨(some 76), none, (.mov (.t 81))⟩,
     ⟨(some 82), none, (.ext 0 (.t 76))⟩,
     ⟨(some 83), none, (.ext 1 (.t 76))⟩,
     ⟨(some 11), none, (.mov (.t 82))⟩,
     ⟨(some 12), none, (.mov (.t 83))⟩])
  (.seq (.region false [] [
     ⟨(some 85), none, (.mov (.t 7))⟩,
     ⟨(some 86), none, (.mov (.t 1))⟩,
     ⟨(some 87), none, (.mov (.t 2))⟩,
     ⟨(some 88), none, (.call 10 [(.t 85), (.t 86), (.t 87)])⟩,
     ⟨(some 84), none, (.mov (.t 88))⟩,
     ⟨(some 89), none, (.ext 0 (.t 84))⟩,
     ⟨(some 90), none, (.ext 1 (.t 84))⟩,
     ⟨(some 13), none, (.mov (.t 89))⟩,
     ⟨(some 14), none, (.mov (.t 90))⟩])
  (.seq (.region false [] [
     ⟨(some 91), none, (.call 9 [])⟩,
     ⟨(some 92), none, (.mov (.t 91))⟩,
     ⟨(some 93), (some (92, true)), (.mov (.t 12))⟩,
     ⟨(some 94), (some (92, true)), (.bin .eql 27 (.t 93) (.v (.int .i64 0)))⟩,
     ⟨(some 95), none, (.pick (.t 92) (.t 94) (.v (.bool false)))⟩,
     ⟨(some 96), none, (.mov (.t 95))⟩,
     ⟨(some 97), (some (96, true)), (.mov (.t 14))⟩,
     ⟨(some 98), (some (96, true)), (.bin .eql 27 (.t 97) (.v (.int .i64 11)))⟩,
     ⟨(some 99), none, (.pick (.t 96) (.t 98) (.v (.bool false)))⟩,
     ⟨(some 100), none, (.mov (.t 99))⟩,
     ⟨(some 101), (some (100, true)), (.mov (.t 11))⟩,
     ⟨(some 102), (some (100, true)), (.mov (.t 0))⟩,
     ⟨(some 103), (some (100, true)), (.call 11 [(.t 101), (.t 102)])⟩,
     ⟨(some 104), none, (.pick (.t 100) (.t 103) (.v (.bool false)))⟩,
     ⟨(some 6), none, (.mov (.t 104))⟩])
  .ret))))))))
theorem k4 : FnIs Tryd.prog 4 105 [.t 6] a4 := ⟨_, _, Tryd.func4, rfl, by kernel_rfl, by kernel_rfl, rfl⟩

theorem seq_eq {a b : ByteArray} : seq a b = true ↔ a = b := by
  unfold seq
  rw [beq_iff_eq]
  constructor
  · intro h; exact ByteArray.ext (Array.toList_inj.1 (by rw [← ByteArray.toList_eq, ← ByteArray.toList_eq]; exact h))
  · intro h; rw [h]
theorem staGo_uniq : ∀ {l pre : List Sta}, staGo pre l = 0 → (∀ s ∈ l, ∀ t ∈ pre, seq t.name s.name = false) ∧ l.Pairwise fun s t => seq s.name t.name = false
  | [], _, _ => ⟨(fun s hs => by cases hs), List.Pairwise.nil⟩
  | x :: l, pre, h => by
    unfold staGo at h
    split at h
    · rename_i h1; exact absurd h h1
    rename_i h1
    have h2 : staE pre x = 0 := by simpa using h1
    unfold staE at h2
    split at h2
    · cases h2
    split at h2
    · cases h2
    rename_i h3 h4
    have h5 : ∀ t ∈ pre, seq t.name x.name = false := fun t ht => by
      cases hq : seq t.name x.name with
      | false => rfl
      | true => exact absurd (List.any_eq_true.2 ⟨t, ht, hq⟩) h4
    obtain ⟨g1, g2⟩ := staGo_uniq h
    refine ⟨fun s hs t ht => ?_, List.pairwise_cons.2 ⟨fun t ht => g1 t ht x (List.mem_append_right _ List.mem_cons_self), g2⟩⟩
    rcases List.mem_cons.1 hs with rfl | hs
    · exact h5 t ht
    · exact g1 s hs t (List.mem_append_left _ ht)
theorem statesF_uniq {l : List Sta} (h : statesF l = 0) {i j : Nat} (hi : i < l.length) (hj : j < l.length) (hn : seq (l.getD i default).name (l.getD j default).name = true) : i = j := by
  unfold statesF at h
  split at h
  · cases h
  have hp := List.pairwise_iff_getElem.1 (staGo_uniq h).2
  rw [List.getD_eq_getElem?_getD, List.getD_eq_getElem?_getD, List.getElem?_eq_getElem hi, List.getElem?_eq_getElem hj] at hn
  simp only [Option.getD_some] at hn
  rcases Nat.lt_trichotomy i j with hlt | rfl | hlt
  · rw [hp i j hi hj hlt] at hn; cases hn
  · rfl
  · have := hp j i hj hi hlt
    rw [seq_eq] at hn
    rw [hn, (seq_eq (a := l[j].name)).2 rfl] at this
    cases this
theorem fIndex_at {α : Type} {p : α → Bool} : ∀ {l : List α} {j k : Nat} (hk : k < l.length), p l[k] = true → (∀ i (hi : i < k), p (l[i]'(by omega)) = false) → fIndex p j l = (j + k : Nat)
  | x :: l, j, 0, _, h, _ => by
    unfold fIndex
    rw [if_pos (by simpa using h)]; rfl
  | x :: l, j, k + 1, hk, h, hb => by
    have h0 := hb 0 (by omega)
    unfold fIndex
    rw [if_neg (by simp only [List.getElem_cons_zero] at h0; rw [h0]; decide), fIndex_at (l := l) (j := j + 1) (k := k) (by simpa using hk) (by simpa using h) (fun i hi => by simpa using hb (i + 1) (by omega))]
    omega
theorem any_names (l : List Sta) (n : ByteArray) : l.any (fun t => seq t.name n) = (l.map (·.name)).any (fun x => seq x n) := by
  rw [List.any_map]; rfl
theorem staGo_congr : ∀ {l l' pre pre' : List Sta}, l.map (·.name) = l'.map (·.name) → pre.map (·.name) = pre'.map (·.name) → staGo pre l = staGo pre' l'
  | [], [], _, _, _, _ => rfl
  | [], _ :: _, _, _, h, _ => by cases h
  | _ :: _, [], _, _, h, _ => by cases h
  | x :: l, y :: l', pre, pre', h, hp => by
    simp only [List.map_cons, List.cons.injEq] at h
    have h1 : staE pre x = staE pre' y := by
      unfold staE
      rw [any_names, any_names, h.1, hp]
    have h2 := staGo_congr (pre := pre ++ [x]) (pre' := pre' ++ [y]) h.2 (by rw [List.map_append, List.map_append, hp, List.map_cons, List.map_cons, h.1])
    unfold staGo
    rw [h1, h2]
theorem statesF_congr {l l' : List Sta} (h : l.map (·.name) = l'.map (·.name)) : statesF l = statesF l' := by
  have hl : l.length = l'.length := by have := congrArg List.length h; simpa using this
  unfold statesF
  rw [hl, staGo_congr h rfl]
theorem setL_ok {now : List Sta} {cl : Bool} {n : ByteArray} (h : ∀ x ∈ now, x.name.size ≤ 9223372036854775807) (h0 : setE now cl n = 0) (hr : 0 ≤ findF now n) : ∀ x ∈ setL now cl n, x.name.size ≤ 9223372036854775807 := fun x hx => by
  unfold setL at hx
  rw [if_pos h0] at hx
  have hf := findF_range now n
  rcases List.mem_or_eq_of_mem_set hx with hx | rfl
  · exact h x hx
  · have hk : (findF now n).toNat < now.length := by omega
    dsimp only
    rw [List.getD_eq_getElem?_getD, List.getElem?_eq_getElem hk]
    exact h _ (List.getElem_mem hk)
theorem setE_ok {now : List Sta} {cl : Bool} {n : ByteArray} (h0 : setE now cl n = 0) : statesF now = 0 ∧ 0 ≤ findF now n := by
  unfold setE at h0
  split at h0
  · rename_i h1; exact absurd h0 h1
  rename_i h1
  split at h0
  · cases h0
  · exact ⟨by simpa using h1, by omega⟩
/-- A list is equal to itself. -/
theorem s11 (nl fl nm' fm) (l : List Sta) (hl : l.length ≤ 1000) : Aw.Spec Tryd.prog 11 [] [sts' nl fl l, sts' nm' fm l] (Gives (· = B true)) := by
  refine Aw.Spec.givesD k11 mixed rfl rfl rfl fun E hn hnp hp => ?_
  unfold a11
  have e9 : ((l.length : Int) != (l.length : Int)) = false := by simp
  simp (config := { maxSteps := 2000000 }) only [go_sem, ↓reduceIte, Int.reduceToNat, Nat.reduceMul, Int.reduceBEq, Int.reduceBNe, Nat.reduceBEq, Nat.reduceAdd, Nat.reduceSub, Nat.reduceLeDiff, Nat.reduceEqDiff, Nat.reduceLT, reduceCtorEq, e9]
  refine AWp.loop (fun k s => ∃ i : Nat, i + k = l.length ∧ Weak E s ⟨[(0, sts' nl fl l), (1, sts' nm' fm l), (12, I l.length), (13, I i)], []⟩) (n := l.length)
    ⟨0, by omega, weak_to [] hp hnp rfl (by simp (config := { maxSteps := 2000000 }) only [go_sem, ↓reduceIte, Int.reduceToNat, Nat.reduceMul, Int.reduceBEq, Int.reduceBNe, Nat.reduceBEq, Nat.reduceAdd, Nat.reduceSub, Nat.reduceLeDiff, Nat.reduceEqDiff, Nat.reduceLT, reduceCtorEq, Int.natCast_zero]) rfl⟩ ?_
  rintro k s ⟨i, hi, hw⟩
  refine AWp.weak hw (AWp.ofD [] [] hn mixed rfl ?_)
  rcases Nat.lt_or_ge i l.length with hlt | hge
  · have e0 : decide ((i : Int) < (l.length : Int)) = true := by simp; omega
    have e1 := getD_map stc hlt
    have e2 : IntKind.i64.wrap ((i : Int) + 1) = ((i + 1 : Nat) : Int) := by rw [w64 (by omega) (by omega)]; omega
    simp (config := { maxSteps := 2000000 }) only [go_sem, ↓reduceIte, Int.reduceToNat, Nat.reduceMul, Int.reduceBEq, Int.reduceBNe, Nat.reduceBEq, Nat.reduceAdd, Nat.reduceSub, Nat.reduceLeDiff, Nat.reduceEqDiff, Nat.reduceLT, reduceCtorEq, e0, e1, e2]
    (repeat (refine And.intro (by first | omega | (refine ⟨by omega, by omega⟩) | (refine ⟨by omega, by omega, by omega⟩) | (simp only [List.length_map, List.length_range, List.length_append, List.length_cons, List.length_nil, List.length_replicate, List.length_set]; omega) | (simp; omega) | (intro hgd; cases hgd) | (intro hgd; refine ⟨hgd, ?_⟩; first | omega | (refine ⟨by omega, by omega⟩) | (simp; omega))) ?_))
    exact ⟨k - 1, by omega, i + 1, by omega, weak_to [] hp hnp rfl (by simp (config := { maxSteps := 2000000 }) only [go_sem, ↓reduceIte, Int.reduceToNat, Nat.reduceMul, Int.reduceBEq, Int.reduceBNe, Nat.reduceBEq, Nat.reduceAdd, Nat.reduceSub, Nat.reduceLeDiff, Nat.reduceEqDiff, Nat.reduceLT, reduceCtorEq]) rfl⟩
  · have e0 : decide ((i : Int) < (l.length : Int)) = false := by simp; omega
    simp (config := { maxSteps := 2000000 }) only [go_sem, ↓reduceIte, Int.reduceToNat, Nat.reduceMul, Int.reduceBEq, Int.reduceBNe, Nat.reduceBEq, Nat.reduceAdd, Nat.reduceSub, Nat.reduceLeDiff, Nat.reduceEqDiff, Nat.reduceLT, reduceCtorEq, e0]
theorem fIndex_get {α : Type} {p : α → Bool} : ∀ {l : List α} {j : Nat}, fIndex p j l ≠ -1 → ∃ k, ∃ h : k < l.length, fIndex p j l = (j + k : Nat) ∧ p l[k] = true
  | [], j, h => absurd rfl h
  | x :: l, j, h => by
    unfold fIndex at h ⊢
    cases hp : p x with
    | true => exact ⟨0, Nat.zero_lt_succ _, by simp, by simpa using hp⟩
    | false =>
      rw [hp] at h
      simp only [Bool.false_eq_true, if_false] at h ⊢
      obtain ⟨k, hk, h1, h2⟩ := fIndex_get h
      exact ⟨k + 1, by rw [List.length_cons]; omega, by rw [h1]; omega, by simpa using h2⟩
/-- The place of a switch. -/
theorem findF_get {l : List Sta} {n : ByteArray} (h : 0 ≤ findF l n) : ∃ k : Nat, k < l.length ∧ findF l n = k ∧ seq (l.getD k default).name n = true := by
  obtain ⟨k, hk, h1, h2⟩ := fIndex_get (p := fun s : Sta => seq s.name n) (l := l) (j := 0) (by unfold findF at h; omega)
  refine ⟨k, hk, by unfold findF; rw [h1]; omega, ?_⟩
  rw [List.getD_eq_getElem?_getD, List.getElem?_eq_getElem hk]
  exact h2
/-- What an operation does. -/
structure SetOk (a b : List Sta) (cl : Bool) (n : ByteArray) : Prop where
  len : b.length = a.length
  nam : ∀ i, i < a.length → (b.getD i default).name = (a.getD i default).name
  val : ∀ i, i < a.length → (b.getD i default).closed = ((seq (b.getD i default).name n && cl) || (!seq (b.getD i default).name n && (a.getD i default).closed))
  back : setE b (!cl) n = 0
  same : setL b (!cl) n = a
  twice : setE b cl n = 11
theorem setOk {a : List Sta} {cl : Bool} {n : ByteArray} (h : setE a cl n = 0) : SetOk a (setL a cl n) cl n := by
  obtain ⟨h1, h2⟩ := setE_ok h
  obtain ⟨k, hk, h3, h4⟩ := findF_get h2
  have hE : setE a cl n = if statesF a ≠ 0 then statesF a else if findF a n < 0 then 8 else if ((a.getD (findF a n).toNat default).closed == cl) = true then 11 else 0 := rfl
  have hL : setL a cl n = if setE a cl n = 0 then a.set (findF a n).toNat ⟨(a.getD (findF a n).toNat default).name, cl⟩ else [] := rfl
  rw [if_pos h, h3, Int.toNat_natCast] at hL
  have hb : (a.getD k default).closed = !cl := by
    rw [h, if_neg (by simp [h1]), if_neg (by omega), h3, Int.toNat_natCast] at hE
    split at hE
    · cases hE
    · rename_i h5
      generalize (a.getD k default).closed = p at *
      revert h5; cases p <;> cases cl <;> simp
  have hlen : (setL a cl n).length = a.length := by rw [hL, List.length_set]
  have hget : ∀ i, i < a.length → (setL a cl n).getD i default = if i = k then ⟨(a.getD k default).name, cl⟩ else a.getD i default := fun i hi => by
    rw [hL, List.getD_eq_getElem?_getD, List.getElem?_set]
    by_cases e : i = k
    · subst e; rw [if_pos rfl, if_pos rfl, if_pos hi]; rfl
    · rw [if_neg (Ne.symm e), if_neg e, ← List.getD_eq_getElem?_getD]
  have hnam : ∀ i, i < a.length → ((setL a cl n).getD i default).name = (a.getD i default).name := fun i hi => by
    rw [hget i hi]; split
    · rename_i e; subst e; rfl
    · rfl
  have hmap : (setL a cl n).map (·.name) = a.map (·.name) := List.ext_getElem (by simp [hlen]) fun i g1 g2 => by
    have hi : i < a.length := by simpa using g2
    have := hnam i hi
    rw [List.getD_eq_getElem?_getD, List.getD_eq_getElem?_getD, List.getElem?_eq_getElem hi, List.getElem?_eq_getElem (by omega)] at this
    simpa using this
  have hst : statesF (setL a cl n) = 0 := by rw [statesF_congr hmap]; exact h1
  have hseq : ∀ i, i < a.length → (seq (a.getD i default).name n = true ↔ i = k) := fun i hi => ⟨fun hq => statesF_uniq h1 hi hk (by rw [seq_eq] at hq h4 ⊢; rw [hq, h4]), fun e => by rw [e]; exact h4⟩
  have hfind : findF (setL a cl n) n = k := by
    have := fIndex_at (p := fun s : Sta => seq s.name n) (l := setL a cl n) (j := 0) (k := k) (by omega) (by
      have := hnam k hk
      rw [List.getD_eq_getElem?_getD, List.getElem?_eq_getElem (by omega)] at this
      show seq ((setL a cl n)[k]'(by omega)).name n = true
      rw [show ((setL a cl n)[k]'(by omega)).name = _ from this]; exact h4) (fun i hi => by
      have := hnam i (by omega)
      rw [List.getD_eq_getElem?_getD, List.getElem?_eq_getElem (by omega)] at this
      show seq ((setL a cl n)[i]'(by omega)).name n = false
      rw [show ((setL a cl n)[i]'(by omega)).name = _ from this]
      cases hq : seq (a.getD i default).name n with
      | false => rfl
      | true => have := (hseq i (by omega)).1 hq; omega)
    unfold findF; rw [this]; omega
  have hbk : setE (setL a cl n) (!cl) n = 0 := by
    show (if statesF (setL a cl n) ≠ 0 then statesF (setL a cl n) else if findF (setL a cl n) n < 0 then 8 else if (((setL a cl n).getD (findF (setL a cl n) n).toNat default).closed == (!cl)) = true then 11 else 0) = 0
    rw [hst, if_neg (by simp), hfind, if_neg (by omega), Int.toNat_natCast, hget k hk, if_pos rfl, if_neg (by cases cl <;> simp)]
  refine ⟨hlen, hnam, fun i hi => ?_, hbk, ?_, ?_⟩
  · rw [hnam i hi, hget i hi]
    by_cases e : i = k
    · rw [if_pos e, (hseq i hi).2 e]; simp
    · rw [if_neg e]
      cases hq : seq (a.getD i default).name n with
      | false => simp
      | true => exact absurd ((hseq i hi).1 hq) e
  · show (if setE (setL a cl n) (!cl) n = 0 then (setL a cl n).set (findF (setL a cl n) n).toNat ⟨((setL a cl n).getD (findF (setL a cl n) n).toNat default).name, !cl⟩ else []) = a
    rw [if_pos hbk, hfind, Int.toNat_natCast, hnam k hk]
    refine List.ext_getElem (by rw [List.length_set, hlen]) fun i g1 g2 => ?_
    rw [List.getElem_set]
    by_cases e : k = i
    · subst e
      rw [if_pos rfl, ← hb, List.getD_eq_getElem?_getD, List.getElem?_eq_getElem hk]; rfl
    · rw [if_neg e]
      have := hget i g2
      rw [if_neg (Ne.symm e), List.getD_eq_getElem?_getD, List.getD_eq_getElem?_getD, List.getElem?_eq_getElem g2, List.getElem?_eq_getElem (by omega)] at this
      exact this
  · show (if statesF (setL a cl n) ≠ 0 then statesF (setL a cl n) else if findF (setL a cl n) n < 0 then 8 else if (((setL a cl n).getD (findF (setL a cl n) n).toNat default).closed == cl) = true then 11 else 0) = 11
    rw [hst, if_neg (by simp), hfind, if_neg (by omega), Int.toNat_natCast, hget k hk, if_pos rfl, if_pos (by simp)]
set_option maxRecDepth 20000 in
set_option maxHeartbeats 1000000 in
theorem s4 (na fa) (a : List Sta) (cl : Bool) (n : ByteArray) (ha : ∀ x ∈ a, x.name.size ≤ 9223372036854775807) :
    Aw.Spec Tryd.prog 4 [] [sts' na fa a, B cl, S n] (Gives (· = B true)) := by
  refine Aw.Spec.givesW k4 rfl rfl fun E hn hnp hp => ?_
  unfold a4
  have pin : ∀ r, E.pin r = none := fun r => hp.none hnp (Nat.zero_le _)
  refine AWp.ofD [] [] hn mixed rfl ?_
  simp (config := { maxSteps := 2000000 }) only [go_sem, ↓reduceIte, Int.reduceToNat, Nat.reduceMul, Int.reduceBEq, Int.reduceBNe, Nat.reduceBEq, Nat.reduceAdd, Nat.reduceSub, Nat.reduceLeDiff, Nat.reduceEqDiff, Nat.reduceLT, reduceCtorEq]
  refine AWpL.callA [] (s10 na fa a cl n ha) rfl rfl (by rw [hn]; rfl) rfl (fun r hr => by cases hr) fun rg v hv => ?_
  obtain ⟨rfl, rfl⟩ := hv
  refine ⟨Nat.zero_le _, AWpL.ofM hn rfl ?_⟩
  simp (config := { maxSteps := 2000000 }) only [go_sem, ↓reduceIte, Int.reduceToNat, Nat.reduceMul, Int.reduceBEq, Int.reduceBNe, Nat.reduceBEq, Nat.reduceAdd, Nat.reduceSub, Nat.reduceLeDiff, Nat.reduceEqDiff, Nat.reduceLT, reduceCtorEq, Aw.retS, Aw.retRg, Aw.kpM, Aw.bkM, Aw.pos, Aw.isBox]
  simp only [bne_iff_ne, ne_eq, bne_eq_false_iff_eq]
  refine ⟨fun h => ?_, fun h => ?_⟩
  · have hl : setL a cl n = [] := if_neg h
    (refine AWpL.calle (s9) rfl (by rw [hn]; rfl) (by simp (config := { maxSteps := 2000000 }) only [go_sem, ↓reduceIte, Int.reduceToNat, Nat.reduceMul, Int.reduceBEq, Int.reduceBNe, Nat.reduceBEq, Nat.reduceAdd, Nat.reduceSub, Nat.reduceLeDiff, Nat.reduceEqDiff, Nat.reduceLT, reduceCtorEq]) (AWpL.ofM hn rfl ?_); simp (config := { maxSteps := 2000000 }) only [go_sem, ↓reduceIte, Int.reduceToNat, Nat.reduceMul, Int.reduceBEq, Int.reduceBNe, Nat.reduceBEq, Nat.reduceAdd, Nat.reduceSub, Nat.reduceLeDiff, Nat.reduceEqDiff, Nat.reduceLT, reduceCtorEq])
    rw [hl]
    rfl
  have hk := setOk h
  obtain ⟨h1, h2⟩ := setE_ok h
  have h32 := statesF_len h1
  have hb := setL_ok ha h h2
  generalize setL a cl n = b at *
  have hlen := hk.len
  refine ⟨fun h' => absurd (by rw [hlen]) h', fun _ => ?_⟩
  refine AWp.loop (fun k s => ∃ i : Nat, i + k = b.length ∧ Weak E s ⟨[(0, sts' na fa a), (1, B cl), (2, S n), (7, sts' none false b), (35, sts' none false b), (36, I b.length), (37, I i)], []⟩) (n := b.length)
    ⟨0, by omega, weak_to [] hp hnp rfl (by simp (config := { maxSteps := 2000000 }) only [go_sem, ↓reduceIte, Int.reduceToNat, Nat.reduceMul, Int.reduceBEq, Int.reduceBNe, Nat.reduceBEq, Nat.reduceAdd, Nat.reduceSub, Nat.reduceLeDiff, Nat.reduceEqDiff, Nat.reduceLT, reduceCtorEq, Int.natCast_zero]) rfl⟩ ?_
  rintro k s ⟨i, hik, hw⟩
  refine AWp.weak hw (AWp.ofD [] [] hn mixed rfl ?_)
  rcases Nat.lt_or_ge i b.length with hlt | hge
  · have hla : i < a.length := by rw [← hk.len]; exact hlt
    have e0 : decide ((i : Int) < (b.length : Int)) = true := decide_eq_true (by omega)
    have e3 := getD_mapD default stc hlt
    have e5 := getD_mapD default stc hla
    have e4 : IntKind.i64.wrap ((i : Int) + 1) = ((i + 1 : Nat) : Int) := by rw [w64 (by omega) (by omega)]; omega
    have g1 := hk.nam i hla
    have g2 := hk.val i hla
    generalize a.getD i default = p at *
    generalize b.getD i default = q at *
    have e6 : (q.name.toList == p.name.toList) = true := by rw [g1]; simp
    unfold seq at g2
    simp (config := { maxSteps := 2000000 }) only [go_sem, ↓reduceIte, Int.reduceToNat, Nat.reduceMul, Int.reduceBEq, Int.reduceBNe, Nat.reduceBEq, Nat.reduceAdd, Nat.reduceSub, Nat.reduceLeDiff, Nat.reduceEqDiff, Nat.reduceLT, reduceCtorEq, e0, e3, e4, e5, e6, Bool.or_false, Bool.false_or, Bool.and_true]
    generalize (q.name.toList == n.toList) = N at *
    rw [← g2]
    have e7 : ∀ N cl : Bool, (N && cl) = false → (!(N && cl)) = true := by decide
    have e8 : ∀ N cl : Bool, N = false → (!(N && cl) && !N) = true := by decide
    refine ⟨⟨by omega, by omega⟩, ⟨by omega, by omega⟩, ?_⟩
    generalize p.closed = pc at *
    generalize q.closed = qc at *
    refine ⟨fun h3 => ⟨h3, by omega, by omega⟩, fun h3 => ⟨h3, e8 N cl⟩ , fun h3 => ?_, fun _ => ?_⟩
    · rw [beq_self_eq_true] at h3; cases h3
    · exact ⟨k - 1, by omega, i + 1, by omega, weak_to [] hp hnp rfl (by simp (config := { maxSteps := 2000000 }) only [go_sem, ↓reduceIte, Int.reduceToNat, Nat.reduceMul, Int.reduceBEq, Int.reduceBNe, Nat.reduceBEq, Nat.reduceAdd, Nat.reduceSub, Nat.reduceLeDiff, Nat.reduceEqDiff, Nat.reduceLT, reduceCtorEq]) rfl⟩
  · have e0 : decide ((i : Int) < (b.length : Int)) = false := decide_eq_false (by omega)
    have hbk := hk.back
    have hsm := hk.same
    have htw := hk.twice
    simp (config := { maxSteps := 2000000 }) only [go_sem, ↓reduceIte, Int.reduceToNat, Nat.reduceMul, Int.reduceBEq, Int.reduceBNe, Nat.reduceBEq, Nat.reduceAdd, Nat.reduceSub, Nat.reduceLeDiff, Nat.reduceEqDiff, Nat.reduceLT, reduceCtorEq, e0]
    refine AWpL.callA [] (s10 none false b (!cl) n hb) rfl rfl (by rw [hn]; rfl) rfl (fun r hr => by cases hr) fun rg v hv => ?_
    obtain ⟨rfl, rfl⟩ := hv
    refine ⟨Nat.zero_le _, AWpL.ofM hn rfl ?_⟩
    rw [hbk, hsm]
    simp (config := { maxSteps := 2000000 }) only [go_sem, ↓reduceIte, Int.reduceToNat, Nat.reduceMul, Int.reduceBEq, Int.reduceBNe, Nat.reduceBEq, Nat.reduceAdd, Nat.reduceSub, Nat.reduceLeDiff, Nat.reduceEqDiff, Nat.reduceLT, reduceCtorEq, Aw.retS, Aw.retRg, Aw.kpM, Aw.bkM, Aw.pos, Aw.isBox]
    refine AWpL.callA [] (s10 none false b cl n hb) rfl rfl (by rw [hn]; rfl) rfl (fun r hr => by cases hr) fun rg v hv => ?_
    obtain ⟨rfl, rfl⟩ := hv
    refine ⟨Nat.zero_le _, AWpL.ofM hn rfl ?_⟩
    rw [htw]
    simp (config := { maxSteps := 2000000 }) only [go_sem, ↓reduceIte, Int.reduceToNat, Nat.reduceMul, Int.reduceBEq, Int.reduceBNe, Nat.reduceBEq, Nat.reduceAdd, Nat.reduceSub, Nat.reduceLeDiff, Nat.reduceEqDiff, Nat.reduceLT, reduceCtorEq, Aw.retS, Aw.retRg, Aw.kpM, Aw.bkM, Aw.pos, Aw.isBox]
    (refine AWpL.calle (s9) rfl (by rw [hn]; rfl) (by simp (config := { maxSteps := 2000000 }) only [go_sem, ↓reduceIte, Int.reduceToNat, Nat.reduceMul, Int.reduceBEq, Int.reduceBNe, Nat.reduceBEq, Nat.reduceAdd, Nat.reduceSub, Nat.reduceLeDiff, Nat.reduceEqDiff, Nat.reduceLT, reduceCtorEq]) (AWpL.ofM hn rfl ?_); simp (config := { maxSteps := 2000000 }) only [go_sem, ↓reduceIte, Int.reduceToNat, Nat.reduceMul, Int.reduceBEq, Int.reduceBNe, Nat.reduceBEq, Nat.reduceAdd, Nat.reduceSub, Nat.reduceLeDiff, Nat.reduceEqDiff, Nat.reduceLT, reduceCtorEq])
    refine AWpL.guardT rfl (AWpL.weak (weak_opt 101 rfl) (AWpL.weak (weak_opt 102 rfl) ?_))
    refine AWpL.calle (s11 none false na fa a (by omega)) rfl (by rw [hn]; rfl) (by simp (config := { maxSteps := 2000000 }) only [go_sem, ↓reduceIte, Int.reduceToNat, Nat.reduceMul, Int.reduceBEq, Int.reduceBNe, Nat.reduceBEq, Nat.reduceAdd, Nat.reduceSub, Nat.reduceLeDiff, Nat.reduceEqDiff, Nat.reduceLT, reduceCtorEq]) (AWpL.ofM hn rfl ?_)
    simp (config := { maxSteps := 2000000 }) only [go_sem, ↓reduceIte, Int.reduceToNat, Nat.reduceMul, Int.reduceBEq, Int.reduceBNe, Nat.reduceBEq, Nat.reduceAdd, Nat.reduceSub, Nat.reduceLeDiff, Nat.reduceEqDiff, Nat.reduceLT, reduceCtorEq]
end Go.Proofs.YtocghkacngoblaaDoor
