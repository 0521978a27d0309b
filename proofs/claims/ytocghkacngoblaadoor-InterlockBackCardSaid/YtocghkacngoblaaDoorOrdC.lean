/- Interlocks: holds, Explain, Permitted, Set. -/
import Derived.Test.YtocghkacngoblaaDoorAwZl
import Derived.Test.YtocghkacngoblaaDoorOrdB
set_option linter.unusedVariables false
set_option linter.unusedSimpArgs false
namespace Go.Proofs.YtocghkacngoblaaDoor
open Go.Proofs.YtocghkacngoblaaDoor.Aw
attribute [local go_sem] Int.natCast_zero Int.natCast_one bne_self_eq_false beq_self_eq_true Bool.not_true Bool.not_false Option.isSome_none Option.isSome_some Aw.bkM_nil Option.getD_some Option.getD_none Nat.sub_zero Int.toNat_zero Aw.frzS Aw.frzT Aw.frzA Aw.frzL Aw.frzR Aw.frzO Aw.frzOL Aw.frzOT Aw.frzOR Aw.killS Aw.mapT Aw.mapR Aw.killM Aw.resAVs Aw.resAV Aw.quietOps Aw.wpP Aw.wpT Aw.wpS Aw.AOp.mild List.getElem?_cons_zero List.getElem?_cons_succ Bool.and_false Bool.and_self Bool.false_and Aw.opOb Aw.gdB Aw.Rnd Aw.subTm List.length_map Int.toNat_natCast and_self Aw.SeqC Aw.stops Aw.Ends Aw.looks Aw.renA Aw.renL Aw.renT Aw.renS Aw.wpO Aw.aop Aw.putTm Aw.St.ev Aw.St.put Aw.St.putO Aw.binAV Aw.intBin Aw.strBin Aw.pickAV Aw.optInt Aw.AV.strip Aw.AV.guard Aw.AV.cells Aw.gdOb Aw.AOp.opds Aw.AOp.still Aw.ptrCells Aw.St.reg Aw.fillAV Aw.fillOb Aw.elsOb Aw.splice Aw.firm Aw.cellish Aw.AV.shut Aw.shutAll Aw.Seq Aw.Blk Aw.retS_nil Aw.mapA Aw.mapL Aw.borA Aw.borOb Aw.allOb Aw.tupOf Aw.params Aw.Opd.of Array.toList Value.cells List.map_cons List.map_nil List.getD_cons_zero List.getD_cons_succ List.getD_nil List.length_cons List.length_nil List.take_succ_cons List.take_zero List.take_nil List.drop_zero List.drop_succ_cons List.drop_nil List.set_cons_zero List.set_cons_succ List.append_nil List.nil_append List.cons_append List.all_cons List.all_nil cond_false cond_true if_true if_false true_and and_true Bool.and_true Bool.true_and Option.map_some Option.map_none false_implies forall_const implies_true forall_eq imp_self Bool.cond_false_right Bool.cond_true_left beq_true beq_false Bool.not_eq_true' Bool.false_eq_true Nat.zero_add Nat.add_zero Aw.eqCells Aw.stopDraw Aw.skipS Aw.exactCap Aw.revealS Aw.srcEls Aw.srcSz
attribute [local go_sem ↓] Aw.look_nil Aw.look_ite Aw.wpL_nil Aw.wpL_op Aw.wpL_gd Aw.wpQ_nil Aw.wpQ_op Aw.wpQ_gd Aw.wpC_draw Aw.wpC_reg Aw.wpC_skip Aw.wpC_ret Aw.wpC_exit Aw.wpC_seq Aw.wpC_block Aw.wpC_loop Aw.wpC_cond Aw.stopAt_nil Aw.stopAt_cons Aw.wpD_skip Aw.wpD_ret Aw.wpD_exit Aw.wpD_region Aw.wpD_draw Aw.wpM_nil Aw.wpM_op Aw.wpM_gd Aw.wpD_seq Aw.wpD_block Aw.wpD_loop Aw.wpD_cond
/- gridhall/interlock.holds -/
def a23 : ACode :=
  (.seq (.region false [] [
     ⟨(some 4), none, (.mov (.v (.bool false)))⟩])
  (.seq (.region false [] [
     ⟨(some 9), none, (.mov (.t 0))⟩,
     ⟨(some 10), none, (.len (.t 9))⟩,
     ⟨(some 11), none, (.mksl 4 1 1 (.bool false) (.t 10) (.t 10))⟩,
     ⟨(some 5), none, (.mov (.t 11))⟩])
  (.seq (.seq (.region false [] [
     ⟨(some 12), none, (.mov (.t 0))⟩,
     ⟨(some 13), none, (.len (.t 12))⟩,
     ⟨(some 14), none, (.mov (.v (.int .i64 0)))⟩])
  (.block 0 (.loop (.seq (.region false [] [
       ⟨(some 15), none, (.bin .lss 3 (.t 14) (.t 13))⟩])
    (.seq (.cond (.t 15)
      .skip
      (.exit 0))
    (.seq (.block 1 (.seq (.region false [] [
        ⟨(some 16), none, (.mov (.t 14))⟩,
        ⟨(some 17), none, (.idx 4 (.t 12) (.t 14))⟩,
        ⟨(some 18), none, (.load 4 true (.t 17))⟩,
        ⟨(some 7), none, (.alloc 54 (.agg #[(.int .i64 0), (.string ⟨#[]⟩), (.int .i64 0), (.int .i64 0)]))⟩,
        ⟨(some 6), none, (.mov (.t 16))⟩,
        ⟨none, none, (.store 4 (.t 7) (.t 18))⟩])
     (.seq (.region false [] [
        ⟨(some 8), none, (.mov (.v (.int .i64 (-1))))⟩])
     (.seq (.seq (.region false [] [
        ⟨(some 19), none, (.fld 0 (.t 7))⟩,
        ⟨(some 20), none, (.load 1 false (.t 19))⟩,
        ⟨(some 21), none, (.bin .eql 3 (.t 20) (.v (.int .i64 2)))⟩,
        ⟨(some 22), none, (.mov (.t 21))⟩,
        ⟨(some 23), (some (22, false)), (.fld 0 (.t 7))⟩,
        ⟨(some 24), (some (22, false)), (.load 1 false (.t 23))⟩,
        ⟨(some 25), (some (22, false)), (.bin .eql 3 (.t 24) (.v (.int .i64 3)))⟩,
        ⟨(some 26), none, (.pick (.t 22) (.v (.bool true)) (.t 25))⟩])
     (.cond (.t 26)
       (.region false [] [
          ⟨(some 27), none, (.mov (.t 1))⟩,
          ⟨(some 28), none, (.fld 1 (.t 7))⟩,
          ⟨(some 29), none, (.load 1 false (.t 28))⟩,
          ⟨(some 30), none, (.call 21 [(.t 27), (.t 29)])⟩,
          ⟨(some 8), none, (.mov (.t 30))⟩])
       .skip))
     (.seq (.region false [] [
        ⟨(some 31), none, (.fld 0 (.t 7))⟩,
        ⟨(some 32), none, (.load 1 false (.t 31))⟩])
     (.block 2 (.seq (.region false [] [
         ⟨(some 34), none, (.bin .eql 3 (.t 32) (.v (.int .i64 0)))⟩,
         ⟨(some 33), none, (.mov (.t 34))⟩])
      (.cond (.t 33)
        (.region false [] [
           ⟨(some 35), none, (.mov (.t 5))⟩,
           ⟨(some 36), none, (.mov (.t 6))⟩,
           ⟨(some 37), none, (.idx 1 (.t 35) (.t 36))⟩,
           ⟨none, none, (.store 1 (.t 37) (.v (.bool true)))⟩])
        (.seq (.region false [] [
           ⟨(some 39), none, (.bin .eql 3 (.t 32) (.v (.int .i64 2)))⟩,
           ⟨(some 38), none, (.mov (.t 39))⟩])
        (.cond (.t 38)
          (.region false [] [
             ⟨(some 40), none, (.mov (.t 5))⟩,
             ⟨(some 41), none, (.mov (.t 6))⟩,
             ⟨(some 42), none, (.mov (.t 8))⟩,
             ⟨(some 43), none, (.bin .geq 3 (.t 42) (.v (.int .i64 0)))⟩,
             ⟨(some 44), none, (.mov (.t 43))⟩,
             ⟨(some 45), (some (44, true)), (.mov (.t 1))⟩,
             ⟨(some 46), (some (44, true)), (.mov (.t 8))⟩,
             ⟨(some 47), (some (44, true)), (.idx 2 (.t 45) (.t 46))⟩,
             ⟨(some 48), (some (44, true)), (.fld 1 (.t 47))⟩,
             ⟨(some 49), (some (44, true)), (.load 1 false (.t 48))⟩,
             ⟨(some 50), (some (44, true)), (.un .not (.t 49))⟩,
             ⟨(some 51), none, (.pick (.t 44) (.t 50) (.v (.bool false)))⟩,
             ⟨(some 52), none, (.idx 1 (.t 40) (.t 41))⟩,
             ⟨none, none, (.store 1 (.t 52) (.t 51))⟩])
          (.seq (.region false [] [
             ⟨(some 54), none, (.bin .eql 3 (.t 32) (.v (.int .i64 3)))⟩,
             ⟨(some 53), none, (.mov (.t 54))⟩])
          (.cond (.t 53)
            (.region false [] [
               ⟨(some 55), none, (.mov (.t 5))⟩,
               ⟨(some 56), none, (.mov (.t 6))⟩,
               ⟨(some 57), none, (.mov (.t 8))⟩,
               ⟨(some 58), none, (.bin .geq 3 (.t 57) (.v (.int .i64 0)))⟩,
               ⟨(some 59), none, (.mov (.t 58))⟩,
               ⟨(some 60), (some (59, true)), (.mov (.t 1))⟩,
               ⟨(some 61), (some (59, true)), (.mov (.t 8))⟩,
               ⟨(some 62), (some (59, true)), (.idx 2 (.t 60) (.t 61))⟩,
               ⟨(some 63), (some (59, true)), (.fld 1 (.t 62))⟩,
               ⟨(some 64), (some (59, true)), (.load 1 false (.t 63))⟩,
               ⟨(some 65), none, (.pick (.t 59) (.t 64) (.v (.bool false)))⟩,
               ⟨(some 66), none, (.idx 1 (.t 55) (.t 56))⟩,
               ⟨none, none, (.store 1 (.t 66) (.t 65))⟩])
            (.seq (.region false [] [
               ⟨(some 68), none, (.bin .eql 3 (.t 32) (.v (.int .i64 4)))⟩,
               ⟨(some 67), none, (.mov (.t 68))⟩])
            (.cond (.t 67)
              (.region false [] [
                 ⟨(some 69), none, (.mov (.t 5))⟩,
                 ⟨(some 70), none, (.mov (.t 6))⟩,
                 ⟨(some 71), none, (.mov (.t 5))⟩,
                 ⟨(some 72), none, (.fld 2 (.t 7))⟩,
                 ⟨(some 73), none, (.load 1 false (.t 72))⟩,
                 ⟨(some 74), none, (.idx 1 (.t 71) (.t 73))⟩,
                 ⟨(some 75), none, (.load 1 false (.t 74))⟩,
                 ⟨(some 76), none, (.un .not (.t 75))⟩,
                 ⟨(some 77), none, (.idx 1 (.t 69) (.t 70))⟩,
                 ⟨none, none, (.store 1 (.t 77) (.t 76))⟩])
              (.seq (.region false [] [
                 ⟨(some 79), none, (.bin .eql 3 (.t 32) (.v (.int .i64 5)))⟩,
                 ⟨(some 78), none, (.mov (.t 79))⟩])
              (.cond (.t 78)
                (.region false [] [
                   ⟨(some 80), none, (.mov (.t 5))⟩,
                   ⟨(some 81), none, (.mov (.t 6))⟩,
                   ⟨(some 82), none, (.mov (.t 5))⟩,
                   ⟨(some 83), none, (.fld 2 (.t 7))⟩,
                   ⟨(some 84), none, (.load 1 false (.t 83))⟩,
                   ⟨(some 85), none, (.idx 1 (.t 82) (.t 84))⟩,
                   ⟨(some 86), none, (.load 1 false (.t 85))⟩,
                   ⟨(some 87), none, (.mov (.t 86))⟩,
                   ⟨(some 88), (some (87, true)), (.mov (.t 5))⟩,
                   ⟨(some 89), (some (87, true)), (.fld 3 (.t 7))⟩,
                   ⟨(some 90), (some (87, true)), (.load 1 false (.t 89))⟩,
                   ⟨(some 91), (some (87, true)), (.idx 1 (.t 88) (.t 90))⟩,
                   ⟨(some 92), (some (87, true)), (.load 1 false (.t 91))⟩,
                   ⟨(some 93), none, (.pick (.t 87) (.t 92) (.v (.bool false)))⟩,
                   ⟨(some 94), none, (.idx 1 (.t 80) (.t 81))⟩,
                   ⟨none, none, (.store 1 (.t 94) (.t 93))⟩])
                (.seq (.region false [] [
                   ⟨(some 96), none, (.bin .eql 3 (.t 32) (.v (.int .i64 6)))⟩,
                   ⟨(some 95), none, (.mov (.t 96))⟩])
                (.cond (.t 95)
                  (.region false [] [
                     ⟨(some 97), none, (.mov (.t 5))⟩,
                     ⟨(some 98), none, (.mov (.t 6))⟩,
                     ⟨(some 99), none, (.mov (.t 5))⟩,
                     ⟨(some 100), none, (.fld 2 (.t 7))⟩,
                     ⟨(some 101), none, (.load 1 false (.t 100))⟩,
                     ⟨(some 102), none, (.idx 1 (.t 99) (.t 101))⟩,
                     ⟨(some 103), none, (.load 1 false (.t 102))⟩,
                     ⟨(some 104), none, (.mov (.t 103))⟩,
                     ⟨(some 105), (some (104, false)), (.mov (.t 5))⟩,
                     ⟨(some 106), (some (104, false)), (.fld 3 (.t 7))⟩,
                     ⟨(some 107), (some (104, false)), (.load 1 false (.t 106))⟩,
                     ⟨(some 108), (some (104, false)), (.idx 1 (.t 105) (.t 107))⟩,
                     ⟨(some 109), (some (104, false)), (.load 1 false (.t 108))⟩,
                     ⟨(some 110), none, (.pick (.t 104) (.v (.bool true)) (.t 109))⟩,
                     ⟨(some 111), none, (.idx 1 (.t 97) (.t 98))⟩,
                     ⟨none, none, (.store 1 (.t 111) (.t 110))⟩])
                  .skip))))))))))))))))))
    (.region false [] [
       ⟨(some 112), none, (.bin .add 3 (.t 14) (.v (.int .i64 1)))⟩,
       ⟨(some 14), none, (.mov (.t 112))⟩])))))))
  (.seq (.region false [] [
     ⟨(some 113), none, (.mov (.t 5))⟩,
     ⟨(some 114), none, (.mov (.t 0))⟩,
     ⟨(some 115), none, (.len (.t 114))⟩,
     ⟨(some 116), none, (.bin .sub 3 (.t 115) (.v (.int .i64 1)))⟩,
     ⟨(some 117), none, (.idx 1 (.t 113) (.t 116))⟩,
     ⟨(some 118), none, (.load 1 false (.t 117))⟩,
     ⟨(some 4), none, (.mov (.t 118))⟩])
  .ret))))
theorem k23 : FnIs Tryd.prog 23 119 [.t 4] a23 := ⟨_, _, Tryd.func23, rfl, by kernel_rfl, by kernel_rfl, rfl⟩

/-- The value of a node, where the nodes ahead of it have these values. -/
def nodV (sts : List Sta) (done : List Bool) (x : Nod) : Bool :=
  if x.kind = 0 then true
  else if x.kind = 2 then decide (0 ≤ findF sts x.name) && !(sts.getD (findF sts x.name).toNat default).closed
  else if x.kind = 3 then decide (0 ≤ findF sts x.name) && (sts.getD (findF sts x.name).toNat default).closed
  else if x.kind = 4 then !done.getD x.a.toNat false
  else if x.kind = 5 then done.getD x.a.toNat false && done.getD x.b.toNat false
  else if x.kind = 6 then done.getD x.a.toNat false || done.getD x.b.toNat false
  else false
def holdGo (sts : List Sta) : List Bool → List Nod → List Bool
  | done, [] => done
  | done, x :: l => holdGo sts (done ++ [nodV sts done x]) l
def holdF (sts : List Sta) (l : List Nod) : Bool := (holdGo sts [] l).getD (l.length - 1) false
theorem holdGo_drop {sts : List Sta} {done : List Bool} {l : List Nod} {j : Nat} (h : j < l.length) : holdGo sts done (l.drop j) = holdGo sts (done ++ [nodV sts done l[j]]) (l.drop (j + 1)) := by
  rw [List.drop_eq_getElem_cons h]; rfl
theorem fIndex_range {α : Type} (p : α → Bool) : ∀ (l : List α) (j : Nat), fIndex p j l = -1 ∨ ((j : Int) ≤ fIndex p j l ∧ fIndex p j l < (j : Int) + l.length)
  | [], j => .inl rfl
  | x :: l, j => by
    unfold fIndex
    split
    · right; simp; omega
    · rcases fIndex_range p l (j + 1) with h | h
      · exact .inl h
      · right; simp; omega
theorem findF_range (l : List Sta) (n : ByteArray) : findF l n = -1 ∨ (0 ≤ findF l n ∧ findF l n < l.length) := by
  rcases fIndex_range (fun s => seq s.name n) l 0 with h | h
  · exact .inl h
  · right; unfold findF; omega
/-- A node of a valid condition: its children are open trees. -/
theorem nodE_ok {st : List Int} {x : Nod} {i : Nat} (h : nodE st x = 0) (hb : ∀ e ∈ st, 0 ≤ e ∧ e < i) :
    (x.kind = 4 → 0 ≤ x.a ∧ x.a < i) ∧ (x.kind = 5 ∨ x.kind = 6 → (0 ≤ x.a ∧ x.a < i) ∧ 0 ≤ x.b ∧ x.b < i) := by
  have hg : ∀ k, k < st.length → 0 ≤ st.getD k 0 ∧ st.getD k 0 < i := fun k hk => by
    rw [List.getD_eq_getElem?_getD, List.getElem?_eq_getElem hk]
    exact hb _ (List.getElem_mem hk)
  refine ⟨fun hk => ?_, fun hk => ?_⟩
  · have ha : arF x.kind = (1, false) := by rw [hk]; rfl
    unfold nodE at h
    rw [ha] at h
    simp only at h
    rw [if_neg (by decide), if_neg (by simp)] at h
    split at h
    · cases h
    rename_i h2
    simp only [not_or] at h2
    split at h
    · cases h
    rename_i h3
    simp only [not_or, not_and, Decidable.not_not, ne_eq] at h3
    rw [h3.1 trivial]
    exact hg _ (by omega)
  · have ha : arF x.kind = (2, false) := by rcases hk with hk | hk <;> rw [hk] <;> rfl
    unfold nodE at h
    rw [ha] at h
    simp only at h
    rw [if_neg (by decide), if_neg (by simp)] at h
    split at h
    · cases h
    rename_i h2
    simp only [not_or] at h2
    split at h
    · cases h
    rename_i h3
    simp only [not_or, not_and, Decidable.not_not, ne_eq] at h3
    obtain ⟨h4, h5⟩ := h3.2 trivial
    rw [h4, h5]
    exact ⟨hg _ (by omega), hg _ (by omega)⟩
theorem nodS_ok {st : List Int} {x : Nod} {i : Nat} (hb : ∀ e ∈ st, 0 ≤ e ∧ e < i) : ∀ e ∈ nodS st i x, 0 ≤ e ∧ e < (i + 1 : Nat) := fun e he => by
  unfold nodS at he
  rcases List.mem_append.1 he with he | he
  · have := hb e (List.mem_of_mem_take he); omega
  · rw [List.mem_singleton.1 he]; omega
theorem condGo_step {l : List Nod} {i : Nat} {st : List Int} (h : i < l.length) (hc : condGo i st (l.drop i) = 0) : nodE st l[i] = 0 ∧ condGo (i + 1) (nodS st i l[i]) (l.drop (i + 1)) = 0 := by
  rw [condGo_drop h] at hc
  split at hc
  · rename_i h2; exact absurd hc h2
  · rename_i h2; exact ⟨by simpa using h2, hc⟩
abbrev bc (b : Bool) : List AV := [B b]
/-- The values that are known so far, and as many places as are left. -/
def bArr (n : Nat) (done : List Bool) : List Bool := done ++ List.replicate (n - done.length) false
theorem bArr_len {n : Nat} {done : List Bool} (h : done.length ≤ n) : (bArr n done).length = n := by unfold bArr; simp; omega
theorem bArr_get {n : Nat} {done : List Bool} {j : Nat} (h : j < done.length) : (bArr n done).getD j false = done.getD j false := by
  unfold bArr
  rw [List.getD_eq_getElem?_getD, List.getElem?_append_left h, List.getD_eq_getElem?_getD]
theorem bArr_set {n : Nat} {done : List Bool} {b : Bool} (h : done.length < n) : (bArr n done).set done.length b = bArr n (done ++ [b]) := by
  unfold bArr
  obtain ⟨m, hm⟩ : ∃ m, n - done.length = m + 1 := ⟨n - done.length - 1, by omega⟩
  rw [List.set_append, if_neg (by omega), Nat.sub_self, hm, List.replicate_succ, List.set_cons_zero, List.length_append, List.append_assoc]
  congr 2
  simp; congr 1; omega
theorem bArr_false {n : Nat} {done : List Bool} (h : done.length < n) : bArr n done = bArr n (done ++ [false]) := by
  unfold bArr
  obtain ⟨m, hm⟩ : ∃ m, n - done.length = m + 1 := ⟨n - done.length - 1, by omega⟩
  have hm2 : n - (done ++ [false]).length = m := by rw [List.length_append, List.length_singleton]; omega
  rw [hm, hm2, List.replicate_succ, List.append_assoc]; rfl
set_option maxRecDepth 20000 in
set_option maxHeartbeats 1000000 in
theorem s23 (nl fl) (l : List Nod) (nm fm) (sts : List Sta) (hc : condF l = 0) (hl : sts.length ≤ 1000) (hne : 0 < sts.length) : Aw.Spec Tryd.prog 23 [] [.imm nl fl 4 (l.map nc), .imm nm fm 2 (sts.map stc)] (Gives (· = B (holdF sts l))) := by
  refine Aw.Spec.givesD k23 mixed rfl rfl rfl fun E hn hnp hp => ?_
  unfold a23
  have pin : ∀ r, E.pin r = none := fun r => hp.none hnp (Nat.zero_le _)
  unfold condF at hc
  have h40 : l.length ≤ 40 := by
    split at hc
    · cases hc
    · omega
  rw [if_neg (by omega)] at hc
  have h0 : 0 < l.length := by
    split at hc
    · cases hc
    · omega
  rw [if_neg (by omega)] at hc
  simp (config := { maxSteps := 2000000 }) only [go_sem, ↓reduceIte, Int.reduceToNat, Nat.reduceMul, Int.reduceBEq, Int.reduceBNe, Nat.reduceBEq, Nat.reduceAdd, Nat.reduceSub, Nat.reduceLeDiff, Nat.reduceEqDiff, Nat.reduceLT, reduceCtorEq]
  (repeat (refine And.intro (by first | omega | (refine ⟨by omega, by omega⟩) | (refine ⟨by omega, by omega, by omega⟩) | (simp only [List.length_map, List.length_range, List.length_append, List.length_cons, List.length_nil, List.length_replicate, List.length_set]; omega) | (simp; omega) | (intro hgd; cases hgd) | (intro hgd; refine ⟨hgd, ?_⟩; first | omega | (refine ⟨by omega, by omega⟩) | (simp; omega))) ?_))
  refine AWp.loop (fun k s => ∃ (i : Nat) (st : List Int) (done : List Bool), i + k = l.length ∧ done.length = i ∧ condGo i st (l.drop i) = 0 ∧ (∀ e ∈ st, 0 ≤ e ∧ e < i) ∧ holdGo sts [] l = holdGo sts done (l.drop i) ∧
      Weak E s ⟨[(0, .imm nl fl 4 (l.map nc)), (1, .imm nm fm 2 (sts.map stc)), (5, .hnd 0 0 l.length l.length true), (12, .imm nl fl 4 (l.map nc)), (13, I l.length), (14, I i)], [.arr 4 1 ((bArr l.length done).map bc)]⟩) (n := l.length)
    ⟨0, [], [], by omega, rfl, hc, (fun e he => by cases he), rfl, weak_to [0] hp hnp rfl (by simp (config := { maxSteps := 2000000 }) only [go_sem, ↓reduceIte, Int.reduceToNat, Nat.reduceMul, Int.reduceBEq, Int.reduceBNe, Nat.reduceBEq, Nat.reduceAdd, Nat.reduceSub, Nat.reduceLeDiff, Nat.reduceEqDiff, Nat.reduceLT, reduceCtorEq, Aw.pos, Int.natCast_zero]) (by simp (config := { maxSteps := 2000000 }) only [go_sem, ↓reduceIte, Int.reduceToNat, Nat.reduceMul, Int.reduceBEq, Int.reduceBNe, Nat.reduceBEq, Nat.reduceAdd, Nat.reduceSub, Nat.reduceLeDiff, Nat.reduceEqDiff, Nat.reduceLT, reduceCtorEq, Aw.renR, Aw.pos]; unfold bArr; simp)⟩ ?_
  rintro k s ⟨i, st, done, hik, hdn, hcg, hst, hh, hw⟩
  refine AWp.weak hw (AWp.ofD [] [] hn mixed rfl ?_)
  rcases Nat.lt_or_ge i l.length with hlt | hge
  · have e0 : decide ((i : Int) < (l.length : Int)) = true := decide_eq_true (by omega)
    have e1 := getD_map nc hlt
    have e2 : IntKind.i64.wrap ((i : Int) + 1) = ((i + 1 : Nat) : Int) := by rw [w64 (by omega) (by omega)]; omega
    obtain ⟨hE, hcs⟩ := condGo_step hlt hcg
    rw [holdGo_drop hlt] at hh
    generalize l[i] = x at *
    obtain ⟨hk4, hk5⟩ := nodE_ok hE hst
    have hst2 := nodS_ok (x := x) hst
    have hbl := bArr_len (n := l.length) (done := done) (by omega)
    have hbs : ∀ b, ((bArr l.length done).map bc).set i (bc b) = (bArr l.length (done ++ [b])).map bc := fun b => by rw [← bArr_set (by omega), hdn, List.map_set]
    have hbf := bArr_false (n := l.length) (done := done) (by omega)
    have hbg : ∀ j, j < i → ((bArr l.length done).map bc).getD j [] = bc (done.getD j false) := fun j hj => by rw [getD_mapD false bc (by omega), bArr_get (by omega)]
    have hfr := findF_range sts x.name
    have ef := getD_mapD default stc (l := sts) (i := (findF sts x.name).toNat) (by omega)
    have hV : nodV sts done x = if x.kind = 0 then true
      else if x.kind = 2 then decide (0 ≤ findF sts x.name) && !(sts.getD (findF sts x.name).toNat default).closed
      else if x.kind = 3 then decide (0 ≤ findF sts x.name) && (sts.getD (findF sts x.name).toNat default).closed
      else if x.kind = 4 then !done.getD x.a.toNat false
      else if x.kind = 5 then done.getD x.a.toNat false && done.getD x.b.toNat false
      else if x.kind = 6 then done.getD x.a.toNat false || done.getD x.b.toNat false
      else false := rfl
    generalize hX : (bArr l.length done).map bc = X at *
    have hXl : X.length = l.length := by rw [← hX, List.length_map, hbl]
    obtain ⟨kd, name, a, b⟩ := x
    simp only at hk4 hk5 hV ef hfr
    have hXd : List.drop 1 (X.getD i []) = [] := by
      rw [← hX, getD_mapD false bc (by omega)]
      rfl
    by_cases h0 : kd = 0
    · subst h0
      have hV : nodV sts done ⟨0, name, a, b⟩ = (true) := rfl
      simp (config := { maxSteps := 2000000 }) only [go_sem, ↓reduceIte, Int.reduceToNat, Nat.reduceMul, Int.reduceBEq, Int.reduceBNe, Nat.reduceBEq, Nat.reduceAdd, Nat.reduceSub, Nat.reduceLeDiff, Nat.reduceEqDiff, Nat.reduceLT, reduceCtorEq, e0, e1, Int.reduceBEq, hXd, e2]
      (repeat (refine And.intro (by first | omega | (refine ⟨by omega, by omega⟩) | (refine ⟨by omega, by omega, by omega⟩) | (simp only [List.length_map, List.length_range, List.length_append, List.length_cons, List.length_nil, List.length_replicate, List.length_set]; omega) | (simp; omega) | (intro hgd; cases hgd) | (intro hgd; refine ⟨hgd, ?_⟩; first | omega | (refine ⟨by omega, by omega⟩) | (simp; omega))) ?_))
      exact ⟨k - 1, by omega, i + 1, nodS st i ⟨0, name, a, b⟩, done ++ [true], by omega, by rw [List.length_append, List.length_singleton]; omega, hcs, hst2, by rw [hh, hV], weak_to [0] hp hnp rfl (by simp (config := { maxSteps := 2000000 }) only [go_sem, ↓reduceIte, Int.reduceToNat, Nat.reduceMul, Int.reduceBEq, Int.reduceBNe, Nat.reduceBEq, Nat.reduceAdd, Nat.reduceSub, Nat.reduceLeDiff, Nat.reduceEqDiff, Nat.reduceLT, reduceCtorEq, Aw.pos]) (by rw [← hbs]; simp (config := { maxSteps := 2000000 }) only [go_sem, ↓reduceIte, Int.reduceToNat, Nat.reduceMul, Int.reduceBEq, Int.reduceBNe, Nat.reduceBEq, Nat.reduceAdd, Nat.reduceSub, Nat.reduceLeDiff, Nat.reduceEqDiff, Nat.reduceLT, reduceCtorEq, Aw.renR, Aw.pos])⟩
    by_cases h2 : kd = 2
    · subst h2
      have hV : nodV sts done ⟨2, name, a, b⟩ = (decide (0 ≤ findF sts name) && !(sts.getD (findF sts name).toNat default).closed) := rfl
      simp (config := { maxSteps := 2000000 }) only [go_sem, ↓reduceIte, Int.reduceToNat, Nat.reduceMul, Int.reduceBEq, Int.reduceBNe, Nat.reduceBEq, Nat.reduceAdd, Nat.reduceSub, Nat.reduceLeDiff, Nat.reduceEqDiff, Nat.reduceLT, reduceCtorEq, e0, e1, Int.reduceBEq]
      (repeat (refine And.intro (by first | omega | (refine ⟨by omega, by omega⟩) | (refine ⟨by omega, by omega, by omega⟩) | (simp only [List.length_map, List.length_range, List.length_append, List.length_cons, List.length_nil, List.length_replicate, List.length_set]; omega) | (simp; omega) | (intro hgd; cases hgd) | (intro hgd; refine ⟨hgd, ?_⟩; first | omega | (refine ⟨by omega, by omega⟩) | (simp; omega))) ?_))
      (refine AWpL.calle (s21 nm fm sts name hl) rfl (by rw [hn]; rfl) (by simp (config := { maxSteps := 2000000 }) only [go_sem, ↓reduceIte, Int.reduceToNat, Nat.reduceMul, Int.reduceBEq, Int.reduceBNe, Nat.reduceBEq, Nat.reduceAdd, Nat.reduceSub, Nat.reduceLeDiff, Nat.reduceEqDiff, Nat.reduceLT, reduceCtorEq]) (AWpL.ofM hn rfl ?_); simp (config := { maxSteps := 2000000 }) only [go_sem, ↓reduceIte, Int.reduceToNat, Nat.reduceMul, Int.reduceBEq, Int.reduceBNe, Nat.reduceBEq, Nat.reduceAdd, Nat.reduceSub, Nat.reduceLeDiff, Nat.reduceEqDiff, Nat.reduceLT, reduceCtorEq])
      generalize findF sts name = f at *
      generalize sts.getD f.toNat default = q at *
      have eg : decide (f ≥ 0) = decide (0 ≤ f) := rfl
      simp (config := { maxSteps := 2000000 }) only [go_sem, ↓reduceIte, Int.reduceToNat, Nat.reduceMul, Int.reduceBEq, Int.reduceBNe, Nat.reduceBEq, Nat.reduceAdd, Nat.reduceSub, Nat.reduceLeDiff, Nat.reduceEqDiff, Nat.reduceLT, reduceCtorEq, Int.reduceBEq, ef, hXd, e2, eg]
      (repeat (refine And.intro (by first | omega | (refine ⟨by omega, by omega⟩) | (refine ⟨by omega, by omega, by omega⟩) | (simp only [List.length_map, List.length_range, List.length_append, List.length_cons, List.length_nil, List.length_replicate, List.length_set]; omega) | (simp; omega) | (intro hgd; cases hgd) | (intro hgd; refine ⟨hgd, ?_⟩; first | omega | (refine ⟨by omega, by omega⟩) | (simp; omega))) ?_))
      exact ⟨k - 1, by omega, i + 1, nodS st i ⟨2, name, a, b⟩, done ++ [decide (0 ≤ f) && !q.closed], by omega, by rw [List.length_append, List.length_singleton]; omega, hcs, hst2, by rw [hh, hV], weak_to [0] hp hnp rfl (by simp (config := { maxSteps := 2000000 }) only [go_sem, ↓reduceIte, Int.reduceToNat, Nat.reduceMul, Int.reduceBEq, Int.reduceBNe, Nat.reduceBEq, Nat.reduceAdd, Nat.reduceSub, Nat.reduceLeDiff, Nat.reduceEqDiff, Nat.reduceLT, reduceCtorEq, Aw.pos]) (by rw [← hbs]; simp (config := { maxSteps := 2000000 }) only [go_sem, ↓reduceIte, Int.reduceToNat, Nat.reduceMul, Int.reduceBEq, Int.reduceBNe, Nat.reduceBEq, Nat.reduceAdd, Nat.reduceSub, Nat.reduceLeDiff, Nat.reduceEqDiff, Nat.reduceLT, reduceCtorEq, Aw.renR, Aw.pos])⟩
    by_cases h3 : kd = 3
    · subst h3
      have hV : nodV sts done ⟨3, name, a, b⟩ = (decide (0 ≤ findF sts name) && (sts.getD (findF sts name).toNat default).closed) := rfl
      simp (config := { maxSteps := 2000000 }) only [go_sem, ↓reduceIte, Int.reduceToNat, Nat.reduceMul, Int.reduceBEq, Int.reduceBNe, Nat.reduceBEq, Nat.reduceAdd, Nat.reduceSub, Nat.reduceLeDiff, Nat.reduceEqDiff, Nat.reduceLT, reduceCtorEq, e0, e1, Int.reduceBEq]
      (repeat (refine And.intro (by first | omega | (refine ⟨by omega, by omega⟩) | (refine ⟨by omega, by omega, by omega⟩) | (simp only [List.length_map, List.length_range, List.length_append, List.length_cons, List.length_nil, List.length_replicate, List.length_set]; omega) | (simp; omega) | (intro hgd; cases hgd) | (intro hgd; refine ⟨hgd, ?_⟩; first | omega | (refine ⟨by omega, by omega⟩) | (simp; omega))) ?_))
      (refine AWpL.calle (s21 nm fm sts name hl) rfl (by rw [hn]; rfl) (by simp (config := { maxSteps := 2000000 }) only [go_sem, ↓reduceIte, Int.reduceToNat, Nat.reduceMul, Int.reduceBEq, Int.reduceBNe, Nat.reduceBEq, Nat.reduceAdd, Nat.reduceSub, Nat.reduceLeDiff, Nat.reduceEqDiff, Nat.reduceLT, reduceCtorEq]) (AWpL.ofM hn rfl ?_); simp (config := { maxSteps := 2000000 }) only [go_sem, ↓reduceIte, Int.reduceToNat, Nat.reduceMul, Int.reduceBEq, Int.reduceBNe, Nat.reduceBEq, Nat.reduceAdd, Nat.reduceSub, Nat.reduceLeDiff, Nat.reduceEqDiff, Nat.reduceLT, reduceCtorEq])
      generalize findF sts name = f at *
      generalize sts.getD f.toNat default = q at *
      have eg : decide (f ≥ 0) = decide (0 ≤ f) := rfl
      simp (config := { maxSteps := 2000000 }) only [go_sem, ↓reduceIte, Int.reduceToNat, Nat.reduceMul, Int.reduceBEq, Int.reduceBNe, Nat.reduceBEq, Nat.reduceAdd, Nat.reduceSub, Nat.reduceLeDiff, Nat.reduceEqDiff, Nat.reduceLT, reduceCtorEq, Int.reduceBEq, ef, hXd, e2, eg]
      (repeat (refine And.intro (by first | omega | (refine ⟨by omega, by omega⟩) | (refine ⟨by omega, by omega, by omega⟩) | (simp only [List.length_map, List.length_range, List.length_append, List.length_cons, List.length_nil, List.length_replicate, List.length_set]; omega) | (simp; omega) | (intro hgd; cases hgd) | (intro hgd; refine ⟨hgd, ?_⟩; first | omega | (refine ⟨by omega, by omega⟩) | (simp; omega))) ?_))
      exact ⟨k - 1, by omega, i + 1, nodS st i ⟨3, name, a, b⟩, done ++ [decide (0 ≤ f) && q.closed], by omega, by rw [List.length_append, List.length_singleton]; omega, hcs, hst2, by rw [hh, hV], weak_to [0] hp hnp rfl (by simp (config := { maxSteps := 2000000 }) only [go_sem, ↓reduceIte, Int.reduceToNat, Nat.reduceMul, Int.reduceBEq, Int.reduceBNe, Nat.reduceBEq, Nat.reduceAdd, Nat.reduceSub, Nat.reduceLeDiff, Nat.reduceEqDiff, Nat.reduceLT, reduceCtorEq, Aw.pos]) (by rw [← hbs]; simp (config := { maxSteps := 2000000 }) only [go_sem, ↓reduceIte, Int.reduceToNat, Nat.reduceMul, Int.reduceBEq, Int.reduceBNe, Nat.reduceBEq, Nat.reduceAdd, Nat.reduceSub, Nat.reduceLeDiff, Nat.reduceEqDiff, Nat.reduceLT, reduceCtorEq, Aw.renR, Aw.pos])⟩
    by_cases h4 : kd = 4
    · subst h4
      have hV : nodV sts done ⟨4, name, a, b⟩ = (!done.getD a.toNat false) := rfl
      obtain ⟨ha1, ha2⟩ := hk4 rfl
      have eA := hbg a.toNat (by omega)
      simp (config := { maxSteps := 2000000 }) only [go_sem, ↓reduceIte, Int.reduceToNat, Nat.reduceMul, Int.reduceBEq, Int.reduceBNe, Nat.reduceBEq, Nat.reduceAdd, Nat.reduceSub, Nat.reduceLeDiff, Nat.reduceEqDiff, Nat.reduceLT, reduceCtorEq, e0, e1, Int.reduceBEq, hXd, e2, eA]
      (repeat (refine And.intro (by first | omega | (refine ⟨by omega, by omega⟩) | (refine ⟨by omega, by omega, by omega⟩) | (simp only [List.length_map, List.length_range, List.length_append, List.length_cons, List.length_nil, List.length_replicate, List.length_set]; omega) | (simp; omega) | (intro hgd; cases hgd) | (intro hgd; refine ⟨hgd, ?_⟩; first | omega | (refine ⟨by omega, by omega⟩) | (simp; omega))) ?_))
      exact ⟨k - 1, by omega, i + 1, nodS st i ⟨4, name, a, b⟩, done ++ [!done.getD a.toNat false], by omega, by rw [List.length_append, List.length_singleton]; omega, hcs, hst2, by rw [hh, hV], weak_to [0] hp hnp rfl (by simp (config := { maxSteps := 2000000 }) only [go_sem, ↓reduceIte, Int.reduceToNat, Nat.reduceMul, Int.reduceBEq, Int.reduceBNe, Nat.reduceBEq, Nat.reduceAdd, Nat.reduceSub, Nat.reduceLeDiff, Nat.reduceEqDiff, Nat.reduceLT, reduceCtorEq, Aw.pos]) (by rw [← hbs]; simp (config := { maxSteps := 2000000 }) only [go_sem, ↓reduceIte, Int.reduceToNat, Nat.reduceMul, Int.reduceBEq, Int.reduceBNe, Nat.reduceBEq, Nat.reduceAdd, Nat.reduceSub, Nat.reduceLeDiff, Nat.reduceEqDiff, Nat.reduceLT, reduceCtorEq, Aw.renR, Aw.pos])⟩
    by_cases h5 : kd = 5
    · subst h5
      have hV : nodV sts done ⟨5, name, a, b⟩ = (done.getD a.toNat false && done.getD b.toNat false) := rfl
      obtain ⟨⟨ha1, ha2⟩, hb1, hb2⟩ := hk5 (by decide)
      have eA := hbg a.toNat (by omega)
      have eB := hbg b.toNat (by omega)
      simp (config := { maxSteps := 2000000 }) only [go_sem, ↓reduceIte, Int.reduceToNat, Nat.reduceMul, Int.reduceBEq, Int.reduceBNe, Nat.reduceBEq, Nat.reduceAdd, Nat.reduceSub, Nat.reduceLeDiff, Nat.reduceEqDiff, Nat.reduceLT, reduceCtorEq, e0, e1, Int.reduceBEq, hXd, e2, eA, eB]
      (repeat (refine And.intro (by first | omega | (refine ⟨by omega, by omega⟩) | (refine ⟨by omega, by omega, by omega⟩) | (simp only [List.length_map, List.length_range, List.length_append, List.length_cons, List.length_nil, List.length_replicate, List.length_set]; omega) | (simp; omega) | (intro hgd; cases hgd) | (intro hgd; refine ⟨hgd, ?_⟩; first | omega | (refine ⟨by omega, by omega⟩) | (simp; omega))) ?_))
      exact ⟨k - 1, by omega, i + 1, nodS st i ⟨5, name, a, b⟩, done ++ [done.getD a.toNat false && done.getD b.toNat false], by omega, by rw [List.length_append, List.length_singleton]; omega, hcs, hst2, by rw [hh, hV], weak_to [0] hp hnp rfl (by simp (config := { maxSteps := 2000000 }) only [go_sem, ↓reduceIte, Int.reduceToNat, Nat.reduceMul, Int.reduceBEq, Int.reduceBNe, Nat.reduceBEq, Nat.reduceAdd, Nat.reduceSub, Nat.reduceLeDiff, Nat.reduceEqDiff, Nat.reduceLT, reduceCtorEq, Aw.pos]) (by rw [← hbs]; simp (config := { maxSteps := 2000000 }) only [go_sem, ↓reduceIte, Int.reduceToNat, Nat.reduceMul, Int.reduceBEq, Int.reduceBNe, Nat.reduceBEq, Nat.reduceAdd, Nat.reduceSub, Nat.reduceLeDiff, Nat.reduceEqDiff, Nat.reduceLT, reduceCtorEq, Aw.renR, Aw.pos])⟩
    by_cases h6 : kd = 6
    · subst h6
      have hV : nodV sts done ⟨6, name, a, b⟩ = (done.getD a.toNat false || done.getD b.toNat false) := rfl
      obtain ⟨⟨ha1, ha2⟩, hb1, hb2⟩ := hk5 (by decide)
      have eA := hbg a.toNat (by omega)
      have eB := hbg b.toNat (by omega)
      simp (config := { maxSteps := 2000000 }) only [go_sem, ↓reduceIte, Int.reduceToNat, Nat.reduceMul, Int.reduceBEq, Int.reduceBNe, Nat.reduceBEq, Nat.reduceAdd, Nat.reduceSub, Nat.reduceLeDiff, Nat.reduceEqDiff, Nat.reduceLT, reduceCtorEq, e0, e1, Int.reduceBEq, hXd, e2, eA, eB]
      (repeat (refine And.intro (by first | omega | (refine ⟨by omega, by omega⟩) | (refine ⟨by omega, by omega, by omega⟩) | (simp only [List.length_map, List.length_range, List.length_append, List.length_cons, List.length_nil, List.length_replicate, List.length_set]; omega) | (simp; omega) | (intro hgd; cases hgd) | (intro hgd; refine ⟨hgd, ?_⟩; first | omega | (refine ⟨by omega, by omega⟩) | (simp; omega))) ?_))
      exact ⟨k - 1, by omega, i + 1, nodS st i ⟨6, name, a, b⟩, done ++ [done.getD a.toNat false || done.getD b.toNat false], by omega, by rw [List.length_append, List.length_singleton]; omega, hcs, hst2, by rw [hh, hV], weak_to [0] hp hnp rfl (by simp (config := { maxSteps := 2000000 }) only [go_sem, ↓reduceIte, Int.reduceToNat, Nat.reduceMul, Int.reduceBEq, Int.reduceBNe, Nat.reduceBEq, Nat.reduceAdd, Nat.reduceSub, Nat.reduceLeDiff, Nat.reduceEqDiff, Nat.reduceLT, reduceCtorEq, Aw.pos]) (by rw [← hbs]; simp (config := { maxSteps := 2000000 }) only [go_sem, ↓reduceIte, Int.reduceToNat, Nat.reduceMul, Int.reduceBEq, Int.reduceBNe, Nat.reduceBEq, Nat.reduceAdd, Nat.reduceSub, Nat.reduceLeDiff, Nat.reduceEqDiff, Nat.reduceLT, reduceCtorEq, Aw.renR, Aw.pos])⟩
    have hV : nodV sts done ⟨kd, name, a, b⟩ = false := by unfold nodV; rw [if_neg h0, if_neg h2, if_neg h3, if_neg h4, if_neg h5, if_neg h6]
    have q0 : (kd == 0) = false := by simp [h0]
    have q2 : (kd == 2) = false := by simp [h2]
    have q3 : (kd == 3) = false := by simp [h3]
    have q4 : (kd == 4) = false := by simp [h4]
    have q5 : (kd == 5) = false := by simp [h5]
    have q6 : (kd == 6) = false := by simp [h6]
    simp (config := { maxSteps := 2000000 }) only [go_sem, ↓reduceIte, Int.reduceToNat, Nat.reduceMul, Int.reduceBEq, Int.reduceBNe, Nat.reduceBEq, Nat.reduceAdd, Nat.reduceSub, Nat.reduceLeDiff, Nat.reduceEqDiff, Nat.reduceLT, reduceCtorEq, e0, e1, e2, q0, q2, q3, q4, q5, q6]
    (repeat (refine And.intro (by first | omega | (refine ⟨by omega, by omega⟩) | (refine ⟨by omega, by omega, by omega⟩) | (simp only [List.length_map, List.length_range, List.length_append, List.length_cons, List.length_nil, List.length_replicate, List.length_set]; omega) | (simp; omega) | (intro hgd; cases hgd) | (intro hgd; refine ⟨hgd, ?_⟩; first | omega | (refine ⟨by omega, by omega⟩) | (simp; omega))) ?_))
    exact ⟨k - 1, by omega, i + 1, nodS st i ⟨kd, name, a, b⟩, done ++ [false], by omega, by rw [List.length_append, List.length_singleton]; omega, hcs, hst2, by rw [hh, hV], weak_to [0] hp hnp rfl (by simp (config := { maxSteps := 2000000 }) only [go_sem, ↓reduceIte, Int.reduceToNat, Nat.reduceMul, Int.reduceBEq, Int.reduceBNe, Nat.reduceBEq, Nat.reduceAdd, Nat.reduceSub, Nat.reduceLeDiff, Nat.reduceEqDiff, Nat.reduceLT, reduceCtorEq, Aw.pos]) (by rw [← hbf, hX]; simp (config := { maxSteps := 2000000 }) only [go_sem, ↓reduceIte, Int.reduceToNat, Nat.reduceMul, Int.reduceBEq, Int.reduceBNe, Nat.reduceBEq, Nat.reduceAdd, Nat.reduceSub, Nat.reduceLeDiff, Nat.reduceEqDiff, Nat.reduceLT, reduceCtorEq, Aw.renR, Aw.pos])⟩
  · have e0 : decide ((i : Int) < (l.length : Int)) = false := decide_eq_false (by omega)
    rw [List.drop_of_length_le hge] at hh
    have hh2 : holdGo sts [] l = done := hh
    have e3 : IntKind.i64.wrap ((l.length : Int) - 1) = ((l.length - 1 : Nat) : Int) := by rw [w64 (by omega) (by omega)]; omega
    have hbl := bArr_len (n := l.length) (done := done) (by omega)
    have hbg : ((bArr l.length done).map bc).getD (l.length - 1) [] = bc (done.getD (l.length - 1) false) := by rw [getD_mapD false bc (by omega), bArr_get (by omega)]
    simp (config := { maxSteps := 2000000 }) only [go_sem, ↓reduceIte, Int.reduceToNat, Nat.reduceMul, Int.reduceBEq, Int.reduceBNe, Nat.reduceBEq, Nat.reduceAdd, Nat.reduceSub, Nat.reduceLeDiff, Nat.reduceEqDiff, Nat.reduceLT, reduceCtorEq, e0, e3, hbg, List.length_map, hbl]
    (repeat (refine And.intro (by first | omega | (refine ⟨by omega, by omega⟩) | (refine ⟨by omega, by omega, by omega⟩) | (simp only [List.length_map, List.length_range, List.length_append, List.length_cons, List.length_nil, List.length_replicate, List.length_set]; omega) | (simp; omega) | (intro hgd; cases hgd) | (intro hgd; refine ⟨hgd, ?_⟩; first | omega | (refine ⟨by omega, by omega⟩) | (simp; omega))) ?_))
    unfold holdF
    rw [hh2]
end Go.Proofs.YtocghkacngoblaaDoor
