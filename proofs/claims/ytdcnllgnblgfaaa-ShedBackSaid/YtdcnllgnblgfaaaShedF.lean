/- What the law of stages taken back computes. -/
import Derived.Test.YtdcnllgnblgfaaaAwZf
import Derived.Test.YtdcnllgnblgfaaaShedE
set_option linter.unusedVariables false
set_option linter.unusedSimpArgs false
namespace Go.Proofs.Ytdcnllgnblgfaaa
open Go.Proofs.Ytdcnllgnblgfaaa.Aw
attribute [local go_sem] Int.natCast_zero Int.natCast_one bne_self_eq_false beq_self_eq_true Bool.not_true Bool.not_false Option.isSome_none Option.isSome_some Aw.bkM_nil Option.getD_some Option.getD_none Nat.sub_zero Int.toNat_zero Aw.frzS Aw.frzT Aw.frzA Aw.frzL Aw.frzR Aw.frzO Aw.frzOL Aw.frzOT Aw.frzOR Aw.killS Aw.mapT Aw.mapR Aw.killM Aw.resAVs Aw.resAV Aw.quietOps Aw.wpP Aw.wpT Aw.wpS Aw.AOp.mild List.getElem?_cons_zero List.getElem?_cons_succ Bool.and_false Bool.and_self Bool.false_and Aw.opOb Aw.gdB Aw.Rnd Aw.subTm List.length_map Int.toNat_natCast and_self Aw.SeqC Aw.stops Aw.Ends Aw.looks Aw.renA Aw.renL Aw.renT Aw.renS Aw.wpO Aw.aop Aw.putTm Aw.St.ev Aw.St.put Aw.St.putO Aw.binAV Aw.intBin Aw.strBin Aw.pickAV Aw.optInt Aw.AV.strip Aw.AV.guard Aw.AV.cells Aw.gdOb Aw.AOp.opds Aw.AOp.still Aw.ptrCells Aw.St.reg Aw.fillAV Aw.fillOb Aw.elsOb Aw.splice Aw.firm Aw.cellish Aw.AV.shut Aw.shutAll Aw.Seq Aw.Blk Aw.retS_nil Aw.mapA Aw.mapL Aw.borA Aw.borOb Aw.allOb Aw.tupOf Aw.params Aw.Opd.of Array.toList Value.cells List.map_cons List.map_nil List.getD_cons_zero List.getD_cons_succ List.getD_nil List.length_cons List.length_nil List.take_succ_cons List.take_zero List.take_nil List.drop_zero List.drop_succ_cons List.drop_nil List.set_cons_zero List.set_cons_succ List.append_nil List.nil_append List.cons_append List.all_cons List.all_nil cond_false cond_true if_true if_false true_and and_true Bool.and_true Bool.true_and Option.map_some Option.map_none false_implies forall_const implies_true forall_eq imp_self Bool.cond_false_right Bool.cond_true_left beq_true beq_false Bool.not_eq_true' Bool.false_eq_true Nat.zero_add Nat.add_zero Aw.eqCells Aw.exactCap Aw.overEls Aw.revealS Aw.srcEls Aw.srcSz
attribute [local go_sem ↓] Aw.look_nil Aw.look_ite Aw.wpL_nil Aw.wpL_op Aw.wpL_gd Aw.wpQ_nil Aw.wpQ_op Aw.wpQ_gd Aw.wpC_draw Aw.wpC_reg Aw.wpC_skip Aw.wpC_ret Aw.wpC_exit Aw.wpC_seq Aw.wpC_block Aw.wpC_loop Aw.wpC_cond Aw.stopAt_nil Aw.stopAt_cons Aw.wpD_skip Aw.wpD_ret Aw.wpD_exit Aw.wpD_region Aw.wpD_draw Aw.wpM_nil Aw.wpM_op Aw.wpM_gd Aw.wpD_seq Aw.wpD_block Aw.wpD_loop Aw.wpD_cond
/- gridhall/gridhallkeep4.ShedBack -/
def a4 : ACode :=
  (.seq (.region false [] [
     ⟨(some 4), none, (.mov (.v (.bool false)))⟩])
  (.seq (.region false [] [
     ⟨(some 24), none, (.mov (.t 0))⟩,
     ⟨(some 25), none, (.call 5 [(.t 24)])⟩,
     ⟨(some 23), none, (.mov (.t 25))⟩,
     ⟨(some 26), none, (.ext 0 (.t 23))⟩,
     ⟨(some 27), none, (.ext 1 (.t 23))⟩,
     ⟨(some 5), none, (.mov (.t 26))⟩,
     ⟨(some 6), none, (.mov (.t 27))⟩])
  (.seq (.seq (.region false [] [
     ⟨(some 28), none, (.mov (.t 6))⟩,
     ⟨(some 29), none, (.bin .neq 25 (.t 28) (.v (.int .i64 0)))⟩,
     ⟨(some 30), none, (.mov (.t 29))⟩,
     ⟨(some 31), (some (30, false)), (.mov (.t 5))⟩,
     ⟨(some 32), (some (30, false)), (.nilP false (.t 31))⟩,
     ⟨(some 33), none, (.pick (.t 30) (.v (.bool true)) (.t 32))⟩])
  (.cond (.t 33)
    (.seq (.region false [] [
       ⟨(some 34), none, (.call 6 [])⟩,
       ⟨(some 35), none, (.mov (.t 34))⟩,
       ⟨(some 36), (some (35, true)), (.mov (.t 5))⟩,
       ⟨(some 37), (some (35, true)), (.nilP false (.t 36))⟩,
       ⟨(some 38), none, (.pick (.t 35) (.t 37) (.v (.bool false)))⟩,
       ⟨(some 39), none, (.mov (.t 38))⟩,
       ⟨(some 40), (some (39, true)), (.mov (.t 0))⟩,
       ⟨(some 41), (some (39, true)), (.call 11 [(.t 40)])⟩,
       ⟨(some 42), (some (39, true)), (.mov (.t 6))⟩,
       ⟨(some 43), (some (39, true)), (.bin .eql 25 (.t 41) (.t 42))⟩,
       ⟨(some 44), none, (.pick (.t 39) (.t 43) (.v (.bool false)))⟩,
       ⟨(some 4), none, (.mov (.t 44))⟩])
    .ret)
    .skip))
  (.seq (.region false [] [
     ⟨(some 45), none, (.mov (.t 1))⟩,
     ⟨(some 46), none, (.mov (.t 1))⟩,
     ⟨(some 47), none, (.len (.t 46))⟩,
     ⟨(some 48), none, (.mni (.t 47) (.v (.int .i64 20)))⟩,
     ⟨(some 49), none, (.slc 1 (.t 45) none (some (.t 48)) none)⟩,
     ⟨(some 1), none, (.mov (.t 49))⟩])
  (.seq (.seq (.region false [] [
     ⟨(some 50), none, (.mov (.t 1))⟩,
     ⟨(some 51), none, (.len (.t 50))⟩,
     ⟨(some 52), none, (.mov (.v (.int .i64 0)))⟩])
  (.block 0 (.loop (.seq (.region false [] [
       ⟨(some 53), none, (.bin .lss 3 (.t 52) (.t 51))⟩])
    (.seq (.cond (.t 53)
      .skip
      (.exit 0))
    (.seq (.block 1 (.seq (.region false [] [
        ⟨(some 54), none, (.idx 1 (.t 50) (.t 52))⟩,
        ⟨(some 55), none, (.load 1 false (.t 54))⟩,
        ⟨(some 8), none, (.mov (.t 55))⟩])
     (.region false [] [
        ⟨(some 56), none, (.mov (.t 5))⟩,
        ⟨(some 57), none, (.mov (.t 8))⟩,
        ⟨(some 58), none, (.call 8 [(.t 56), (.t 57)])⟩])))
    (.region false [] [
       ⟨(some 59), none, (.bin .add 3 (.t 52) (.v (.int .i64 1)))⟩,
       ⟨(some 52), none, (.mov (.t 59))⟩])))))))
  (.seq (.seq (.region false [] [
     ⟨(some 60), none, (.mov (.t 5))⟩,
     ⟨(some 61), none, (.call 9 [(.t 60)])⟩,
     ⟨(some 62), none, (.len (.t 61))⟩,
     ⟨(some 9), none, (.mov (.t 62))⟩])
  (.seq (.region false [] [
     ⟨(some 63), none, (.mov (.t 9))⟩,
     ⟨(some 64), none, (.bin .gtr 3 (.t 63) (.v (.int .i64 0)))⟩])
  (.cond (.t 64)
    (.seq (.region false [] [
       ⟨(some 66), none, (.mov (.t 5))⟩,
       ⟨(some 67), none, (.call 12 [(.t 66), (.v (.int .i64 (-1)))])⟩,
       ⟨(some 65), none, (.mov (.t 67))⟩,
       ⟨(some 68), none, (.ext 0 (.t 65))⟩,
       ⟨(some 69), none, (.ext 1 (.t 65))⟩,
       ⟨(some 10), none, (.mov (.t 68))⟩,
       ⟨(some 11), none, (.mov (.t 69))⟩])
    (.seq (.region false [] [
       ⟨(some 70), none, (.mov (.t 11))⟩,
       ⟨(some 71), none, (.bin .neq 25 (.t 70) (.v (.int .i64 11)))⟩,
       ⟨(some 72), none, (.mov (.t 71))⟩,
       ⟨(some 73), (some (72, false)), (.mov (.t 10))⟩,
       ⟨(some 74), (some (72, false)), (.len (.t 73))⟩,
       ⟨(some 75), (some (72, false)), (.bin .gtr 3 (.t 74) (.v (.int .i64 0)))⟩,
       ⟨(some 76), none, (.pick (.t 72) (.v (.bool true)) (.t 75))⟩,
       ⟨(some 77), none, (.mov (.t 76))⟩,
       ⟨(some 78), (some (77, false)), (.mov (.t 5))⟩,
       ⟨(some 79), (some (77, false)), (.call 9 [(.t 78)])⟩,
       ⟨(some 80), (some (77, false)), (.len (.t 79))⟩,
       ⟨(some 81), (some (77, false)), (.mov (.t 9))⟩,
       ⟨(some 82), (some (77, false)), (.bin .neq 3 (.t 80) (.t 81))⟩,
       ⟨(some 83), none, (.pick (.t 77) (.v (.bool true)) (.t 82))⟩])
    (.cond (.t 83)
      (.seq (.region false [] [
         ⟨(some 4), none, (.mov (.v (.bool false)))⟩])
      .ret)
      .skip)))
    .skip)))
  (.seq (.seq (.region false [] [
     ⟨(some 84), none, (.mov (.v (.int .i64 0)))⟩])
  (.block 2 (.loop (.seq (.region false [] [
       ⟨(some 85), none, (.bin .lss 3 (.t 84) (.v (.int .i64 8)))⟩])
    (.seq (.cond (.t 85)
      .skip
      (.exit 2))
    (.seq (.block 3 (.seq (.region false [] [
        ⟨(some 86), none, (.mov (.t 5))⟩,
        ⟨(some 87), none, (.call 9 [(.t 86)])⟩,
        ⟨(some 12), none, (.mov (.t 87))⟩])
     (.seq (.region false [] [
        ⟨(some 89), none, (.mov (.t 5))⟩,
        ⟨(some 90), none, (.call 12 [(.t 89), (.v (.int .i64 0))])⟩,
        ⟨(some 88), none, (.mov (.t 90))⟩,
        ⟨(some 91), none, (.ext 0 (.t 88))⟩,
        ⟨(some 92), none, (.ext 1 (.t 88))⟩,
        ⟨(some 13), none, (.mov (.t 91))⟩,
        ⟨(some 14), none, (.mov (.t 92))⟩])
     (.seq (.seq (.region false [] [
        ⟨(some 93), none, (.mov (.t 14))⟩,
        ⟨(some 94), none, (.bin .neq 25 (.t 93) (.v (.int .i64 0)))⟩,
        ⟨(some 95), none, (.mov (.t 94))⟩,
        ⟨(some 96), (some (95, true)), (.mov (.t 14))⟩,
        ⟨(some 97), (some (95, true)), (.bin .neq 25 (.t 96) (.v (.int .i64 11)))⟩,
        ⟨(some 98), (some (95, true)), (.mov (.t 97))⟩,
        ⟨(some 99), (some (98, false)), (.mov (.t 12))⟩,
        ⟨(some 100), (some (98, false)), (.len (.t 99))⟩,
        ⟨(some 101), (some (98, false)), (.bin .gtr 3 (.t 100) (.v (.int .i64 0)))⟩,
        ⟨(some 102), (some (95, true)), (.pick (.t 98) (.v (.bool true)) (.t 101))⟩,
        ⟨(some 103), none, (.pick (.t 95) (.t 102) (.v (.bool false)))⟩])
     (.cond (.t 103)
       (.seq (.region false [] [
          ⟨(some 4), none, (.mov (.v (.bool false)))⟩])
       .ret)
       .skip))
     (.seq (.region false [] [
        ⟨(some 104), none, (.mov (.t 5))⟩,
        ⟨(some 105), none, (.call 9 [(.t 104)])⟩,
        ⟨(some 106), none, (.mov (.t 13))⟩,
        ⟨(some 107), none, (.bsl 30 1 2 [(0, (.t 105)), (1, (.t 106))])⟩,
        ⟨(some 108), none, (.call 14 [(.t 107)])⟩,
        ⟨(some 109), none, (.mov (.t 12))⟩,
        ⟨(some 110), none, (.call 13 [(.t 108), (.t 109)])⟩,
        ⟨(some 111), none, (.un .not (.t 110))⟩])
     (.cond (.t 111)
       (.seq (.region false [] [
          ⟨(some 4), none, (.mov (.v (.bool false)))⟩])
       .ret)
       .skip))))))
    (.region false [] [
       ⟨(some 112), none, (.bin .add 3 (.t 84) (.v (.int .i64 1)))⟩,
       ⟨(some 84), none, (.mov (.t 112))⟩])))))))
  (.seq (.region false [] [
     ⟨(some 113), none, (.mov (.t 5))⟩,
     ⟨(some 114), none, (.call 8 [(.t 113), (.v (.int .i64 0))])⟩])
  (.seq (.region false [] [
     ⟨(some 116), none, (.mov (.t 0))⟩,
     ⟨(some 117), none, (.call 5 [(.t 116)])⟩,
     ⟨(some 115), none, (.mov (.t 117))⟩,
     ⟨(some 118), none, (.ext 0 (.t 115))⟩,
     ⟨(some 119), none, (.ext 1 (.t 115))⟩,
     ⟨(some 15), none, (.mov (.t 118))⟩,
     ⟨(some 16), none, (.mov (.t 119))⟩])
  (.seq (.seq (.region false [] [
     ⟨(some 120), none, (.mov (.t 16))⟩,
     ⟨(some 121), none, (.bin .neq 25 (.t 120) (.v (.int .i64 0)))⟩,
     ⟨(some 122), none, (.mov (.t 121))⟩,
     ⟨(some 123), (some (122, false)), (.mov (.t 15))⟩,
     ⟨(some 124), (some (122, false)), (.nilP false (.t 123))⟩,
     ⟨(some 125), none, (.pick (.t 122) (.v (.bool true)) (.t 124))⟩])
  (.cond (.t 125)
    (.seq (.region false [] [
       ⟨(some 4), none, (.mov (.v (.bool false)))⟩])
    .ret)
    .skip))
  (.seq (.seq (.region false [] [
     ⟨(some 126), none, (.mov (.t 1))⟩,
     ⟨(some 127), none, (.len (.t 126))⟩,
     ⟨(some 128), none, (.mov (.v (.int .i64 0)))⟩])
  (.block 4 (.loop (.seq (.region false [] [
       ⟨(some 129), none, (.bin .lss 3 (.t 128) (.t 127))⟩])
    (.seq (.cond (.t 129)
      .skip
      (.exit 4))
    (.seq (.block 5 (.seq (.region false [] [
        ⟨(some 130), none, (.idx 1 (.t 126) (.t 128))⟩,
        ⟨(some 131), none, (.load 1 false (.t 130))⟩,
        ⟨(some 18), none, (.mov (.t 131))⟩])
     (.seq (.region false [] [
        ⟨(some 133), none, (.mov (.t 5))⟩,
        ⟨(some 134), none, (.mov (.t 18))⟩,
        ⟨(some 135), none, (.call 8 [(.t 133), (.t 134)])⟩,
        ⟨(some 132), none, (.mov (.t 135))⟩,
        ⟨(some 136), none, (.ext 0 (.t 132))⟩,
        ⟨(some 137), none, (.ext 1 (.t 132))⟩,
        ⟨(some 19), none, (.mov (.t 136))⟩,
        ⟨(some 20), none, (.mov (.t 137))⟩])
     (.seq (.region false [] [
        ⟨(some 139), none, (.mov (.t 15))⟩,
        ⟨(some 140), none, (.mov (.t 18))⟩,
        ⟨(some 141), none, (.call 8 [(.t 139), (.t 140)])⟩,
        ⟨(some 138), none, (.mov (.t 141))⟩,
        ⟨(some 142), none, (.ext 0 (.t 138))⟩,
        ⟨(some 143), none, (.ext 1 (.t 138))⟩,
        ⟨(some 21), none, (.mov (.t 142))⟩,
        ⟨(some 22), none, (.mov (.t 143))⟩])
     (.seq (.region false [] [
        ⟨(some 144), none, (.mov (.t 20))⟩,
        ⟨(some 145), none, (.mov (.t 22))⟩,
        ⟨(some 146), none, (.bin .neq 25 (.t 144) (.t 145))⟩,
        ⟨(some 147), none, (.mov (.t 146))⟩,
        ⟨(some 148), (some (147, false)), (.mov (.t 19))⟩,
        ⟨(some 149), (some (147, false)), (.mov (.t 21))⟩,
        ⟨(some 150), (some (147, false)), (.call 13 [(.t 148), (.t 149)])⟩,
        ⟨(some 151), (some (147, false)), (.un .not (.t 150))⟩,
        ⟨(some 152), none, (.pick (.t 147) (.v (.bool true)) (.t 151))⟩])
     (.cond (.t 152)
       (.seq (.region false [] [
          ⟨(some 4), none, (.mov (.v (.bool false)))⟩])
       .ret)
       .skip))))))
    (.region false [] [
       ⟨(some 153), none, (.bin .add 3 (.t 128) (.v (.int .i64 1)))⟩,
       ⟨(some 128), none, (.mov (.t 153))⟩])))))))
  (.seq (.region false [] [
     ⟨(some 154), none, (.call 6 [])⟩,
     ⟨(some 155), none, (.mov (.t 154))⟩,
     ⟨(some 156), (some (155, true)), (.mov (.t 5))⟩,
     ⟨(some 157), (some (155, true)), (.call 9 [(.t 156)])⟩,
     ⟨(some 158), (some (155, true)), (.len (.t 157))⟩,
     ⟨(some 159), (some (155, true)), (.mov (.t 15))⟩,
     ⟨(some 160), (some (155, true)), (.call 9 [(.t 159)])⟩,
     ⟨(some 161), (some (155, true)), (.len (.t 160))⟩,
     ⟨(some 162), (some (155, true)), (.bin .eql 3 (.t 158) (.t 161))⟩,
     ⟨(some 163), none, (.pick (.t 155) (.t 162) (.v (.bool false)))⟩,
     ⟨(some 4), none, (.mov (.t 163))⟩])
  .ret))))))))))))
theorem k4 : FnIs Try.prog 4 164 [.t 4] a4 := ⟨_, _, Try.func4, rfl, by kernel_rfl, by kernel_rfl, rfl⟩

theorem okF_iff (f : Int) : okF f = true ↔ -10000 ≤ f ∧ f ≤ 10000 := by unfold okF; simp
theorem ShInv.backSt {st : List Stage} (hs : ShedOk st) {x : Sh} (h : ShInv st x) (f : Int) : ShInv st (backSt f x) := by
  unfold Go.Proofs.Ytdcnllgnblgfaaa.backSt; split
  · exact h.back hs
  · exact h
theorem back0 (l : List Stage) (x : Sh) : backErr 0 x = (if x.ord = [] then 11 else 0) := by
  unfold backErr okF
  by_cases h : x.ord = []
  · rw [if_neg (by decide), if_pos (.inr h), if_pos h]
  · rw [if_neg (by decide), if_neg (by simp [h]), if_neg h]
theorem back0_loads (l : List Stage) (x : Sh) : loadsOf l (backSt 0 x).ord ++ backOut l 0 x = loadsOf l x.ord := by
  unfold backSt backOut
  rw [back0 l]
  by_cases h : x.ord = []
  · rw [if_pos h, if_neg (by decide), if_neg (by decide), List.append_nil]
  · rw [if_neg h, if_pos rfl, if_pos rfl]
    obtain ⟨ys, k, hy⟩ := List.eq_nil_or_concat x.ord |>.resolve_left h
    have hl : x.ord.getLast? = some k := by rw [hy, List.concat_eq_append]; simp
    have := back_loads l hl
    rw [hl]; exact this
theorem back0_len (l : List Stage) (x : Sh) : (backSt 0 x).ord.length = x.ord.length - 1 := by
  unfold backSt
  rw [back0 l]
  by_cases h : x.ord = []
  · rw [if_pos h, if_neg (by decide), h]; rfl
  · rw [if_neg h, if_pos rfl, back_len]
theorem back1 (x : Sh) : backErr (-1) x = 11 := by
  unfold backErr okF
  rw [if_neg (by decide), if_pos (.inl (by decide))]
theorem out_small {l : List Stage} (hl : ShedOk l) (f : Int) (x : Sh) : (stepOut l f x).length ≤ 1000 := by
  unfold stepOut; split
  · have := loads_bound hl (actL l f x l.length) (fun k hk => (mem_actL.1 hk).1) l.length (actL_len l f x l.length)
    have := hl.len
    unfold outN; omega
  · simp
theorem bout_small {l : List Stage} (hl : ShedOk l) {x : Sh} (hi : ShInv l x) (f : Int) : (backOut l f x).length ≤ 1000 := by
  unfold backOut; split
  · split
    · rename_i k hk
      have := hl.few _ (nth_mem (hi.inr k (List.mem_of_getLast? hk)))
      omega
    · simp
  · simp
theorem Same.out {l : List Stage} {x y : Sh} (h : Same l x y) (f : Int) : stepOut l f x = stepOut l f y := by
  unfold stepOut outN
  rw [h.acts f]
theorem eqs_self (l : List ByteArray) : eqs seq l l = true := (eqs_iff seq_iff l l).2 rfl
set_option maxRecDepth 20000 in
set_option maxHeartbeats 2000000 in
theorem s4 (nl full) (l : List Stage) (nf ff) (fs : List Int) (hs : okSizes l) (hfs : fs.length ≤ 9223372036854775807) (hl63 : l.length ≤ 9223372036854775807) (hfw : ∀ f ∈ fs, -9223372036854775808 ≤ f ∧ f ≤ 9223372036854775807) :
    Aw.Spec Try.prog 4 [] [gss nl full l, .imm nf ff 1 (fs.map fun n => [I n])] (Gives (· = B true)) := by
  refine Aw.Spec.givesW k4 rfl rfl fun E hn hnp hp => ?_
  unfold a4
  refine AWp.ofD [] [64] hn mixed rfl ?_
  have pin : ∀ r, E.pin r = none := fun r => hp.none hnp (Nat.zero_le _)
  simp (config := { maxSteps := 2000000 }) only [go_sem, ↓reduceIte, Int.reduceBEq, Int.reduceBNe, Nat.reduceBEq, Nat.reduceAdd, Nat.reduceSub, Nat.reduceLeDiff, Nat.reduceEqDiff, Nat.reduceLT, reduceCtorEq]
  refine AWpL.callA [] (s5 nl full l hs) rfl rfl (by rw [hn]; rfl) rfl (fun r hr => by cases hr) fun rg v hv => ?_
  refine ⟨Nat.zero_le _, ?_⟩
  by_cases hc : shedChk l = 0
  case neg =>
    obtain ⟨rfl, rfl⟩ := hv.1 hc
    rw [retS_nil]
    refine AWpL.ofM hn rfl ?_
    have e1 : (shedChk l != 0) = true := by simp [hc]
    simp (config := { maxSteps := 2000000 }) only [go_sem, ↓reduceIte, Int.reduceBEq, Int.reduceBNe, Nat.reduceBEq, Nat.reduceAdd, Nat.reduceSub, Nat.reduceLeDiff, Nat.reduceEqDiff, Nat.reduceLT, reduceCtorEq, e1]
    (refine AWpL.calle (s6) rfl (by rw [hn]; rfl) (by simp (config := { maxSteps := 2000000 }) only [go_sem, ↓reduceIte, Int.reduceBEq, Int.reduceBNe, Nat.reduceBEq, Nat.reduceAdd, Nat.reduceSub, Nat.reduceLeDiff, Nat.reduceEqDiff, Nat.reduceLT, reduceCtorEq]) (AWpL.ofM hn rfl ?_); simp (config := { maxSteps := 2000000 }) only [go_sem, ↓reduceIte, Int.reduceBEq, Int.reduceBNe, Nat.reduceBEq, Nat.reduceAdd, Nat.reduceSub, Nat.reduceLeDiff, Nat.reduceEqDiff, Nat.reduceLT, reduceCtorEq])
    (refine AWpL.gcalle (b := true) rfl (fun _ => (s11 nl full l hs)) rfl (by rw [hn]; rfl) (fun _ => by simp (config := { maxSteps := 2000000 }) only [go_sem, ↓reduceIte, Int.reduceBEq, Int.reduceBNe, Nat.reduceBEq, Nat.reduceAdd, Nat.reduceSub, Nat.reduceLeDiff, Nat.reduceEqDiff, Nat.reduceLT, reduceCtorEq]) (AWpL.ofM hn rfl ?_); simp (config := { maxSteps := 2000000 }) only [go_sem, ↓reduceIte, Int.reduceBEq, Int.reduceBNe, Nat.reduceBEq, Nat.reduceAdd, Nat.reduceSub, Nat.reduceLeDiff, Nat.reduceEqDiff, Nat.reduceLT, reduceCtorEq])
  have hok := shed_ok hc
  have h8 := hok.len
  obtain ⟨rfl, rfl⟩ := hv.2 hc
  rw [retS_new]
  refine AWpL.ofM hn rfl ?_
  have hmin : ((fs.map fun n => [I n]).take (min (fs.length : Int) 20).toNat) = (fs.take 20).map fun n => [I n] := by
    rw [List.map_take]
    rcases Nat.le_total fs.length 20 with h | h
    · rw [List.take_of_length_le (by simp; omega), List.take_of_length_le (by simp; omega)]
    · congr 1; omega
  simp (config := { maxSteps := 2000000 }) only [go_sem, ↓reduceIte, Int.reduceBEq, Int.reduceBNe, Nat.reduceBEq, Nat.reduceAdd, Nat.reduceSub, Nat.reduceLeDiff, Nat.reduceEqDiff, Nat.reduceLT, reduceCtorEq, shR, hmin]
  (repeat (refine And.intro (by first | omega | (refine ⟨by omega, by omega⟩) | (refine ⟨by omega, by omega, by omega⟩) | (simp only [List.length_map, List.length_range, List.length_append, List.length_cons, List.length_nil, List.length_replicate, List.length_set]; omega) | (simp; omega) | (intro hgd; cases hgd) | (intro hgd; refine ⟨hgd, ?_⟩; first | omega | (refine ⟨by omega, by omega⟩) | (simp; omega))) ?_))
  have hfw2 : ∀ f ∈ fs.take 20, -9223372036854775808 ≤ f ∧ f ≤ 9223372036854775807 := fun f hf => hfw f (List.mem_of_mem_take hf)
  generalize hF : fs.take 20 = F at *
  have hF20 : F.length ≤ 20 := by rw [← hF]; simp; omega
  refine AWp.loop (fun k s => ∃ (i : Nat) (x : Sh), i + k = F.length ∧ ShInv l x ∧
      Weak E s ⟨[(0, gss nl full l), (1, .imm nf false 1 (F.map fun n => [I n])), (5, .ptr 0 0 0), (50, .imm nf false 1 (F.map fun n => [I n])), (51, I F.length), (52, I i)], shRo 0 l x⟩) (n := F.length)
    ⟨0, sh0, by omega, ShInv.zero hok, weak_to [0, 1, 2, 3, 4] hp hnp rfl (by simp (config := { maxSteps := 2000000 }) only [go_sem, ↓reduceIte, Int.reduceBEq, Int.reduceBNe, Nat.reduceBEq, Nat.reduceAdd, Nat.reduceSub, Nat.reduceLeDiff, Nat.reduceEqDiff, Nat.reduceLT, reduceCtorEq, Aw.pos]) (by simp (config := { maxSteps := 2000000 }) only [go_sem, ↓reduceIte, Int.reduceBEq, Int.reduceBNe, Nat.reduceBEq, Nat.reduceAdd, Nat.reduceSub, Nat.reduceLeDiff, Nat.reduceEqDiff, Nat.reduceLT, reduceCtorEq, Aw.renR, Aw.pos, shRo])⟩ ?_
  rintro k s ⟨i, x, hik, hi, hw⟩
  rcases Nat.lt_or_ge i F.length with hlt | hge
  · have e0 : decide ((i : Int) < (F.length : Int)) = true := decide_eq_true (by omega)
    have e1 := getD_map (fun n : Int => [I n]) hlt
    have e2 : IntKind.i64.wrap ((i : Int) + 1) = ((i + 1 : Nat) : Int) := by rw [w64 (by omega) (by omega)]; omega
    have hfi := hfw2 _ (List.getElem_mem hlt)
    generalize F[i] = f at e1 hfi
    refine AWp.weak hw (AWp.ofD [] [] hn mixed rfl ?_)
    simp (config := { maxSteps := 2000000 }) only [go_sem, ↓reduceIte, Int.reduceBEq, Int.reduceBNe, Nat.reduceBEq, Nat.reduceAdd, Nat.reduceSub, Nat.reduceLeDiff, Nat.reduceEqDiff, Nat.reduceLT, reduceCtorEq, e0, e1, shRo]
    (repeat (refine And.intro (by first | omega | (refine ⟨by omega, by omega⟩) | (refine ⟨by omega, by omega, by omega⟩) | (simp only [List.length_map, List.length_range, List.length_append, List.length_cons, List.length_nil, List.length_replicate, List.length_set]; omega) | (simp; omega) | (intro hgd; cases hgd) | (intro hgd; refine ⟨hgd, ?_⟩; first | omega | (refine ⟨by omega, by omega⟩) | (simp; omega))) ?_))
    refine AWpL.callA [0, 1, 2, 3, 4] (s8 l x f hok hi hfi) rfl rfl (by rw [hn]; rfl) rfl (fun r hr => .inr (pin r)) fun rg v hv => ?_
    obtain ⟨rfl, rfl⟩ := hv
    refine ⟨Nat.le_refl _, AWpL.ofM hn rfl ?_⟩
    simp (config := { maxSteps := 2000000 }) only [go_sem, ↓reduceIte, Int.reduceBEq, Int.reduceBNe, Nat.reduceBEq, Nat.reduceAdd, Nat.reduceSub, Nat.reduceLeDiff, Nat.reduceEqDiff, Nat.reduceLT, reduceCtorEq, Aw.retS, Aw.retRg, Aw.kpM, Aw.bkM, Aw.pos, Aw.isBox, shR, e2]
    exact ⟨k - 1, by omega, i + 1, shAny l f x, by omega, hi.any hok f, weak_to [0, 1, 2, 3, 4] hp hnp rfl (by simp (config := { maxSteps := 2000000 }) only [go_sem, ↓reduceIte, Int.reduceBEq, Int.reduceBNe, Nat.reduceBEq, Nat.reduceAdd, Nat.reduceSub, Nat.reduceLeDiff, Nat.reduceEqDiff, Nat.reduceLT, reduceCtorEq, Aw.pos]) (by simp (config := { maxSteps := 2000000 }) only [go_sem, ↓reduceIte, Int.reduceBEq, Int.reduceBNe, Nat.reduceBEq, Nat.reduceAdd, Nat.reduceSub, Nat.reduceLeDiff, Nat.reduceEqDiff, Nat.reduceLT, reduceCtorEq, Aw.renR, Aw.pos, shRo])⟩
  have e0 : decide ((i : Int) < (F.length : Int)) = false := decide_eq_false (by omega)
  refine AWp.weak hw (AWp.ofD [] [] hn mixed rfl ?_)
  simp (config := { maxSteps := 2000000 }) only [go_sem, ↓reduceIte, Int.reduceBEq, Int.reduceBNe, Nat.reduceBEq, Nat.reduceAdd, Nat.reduceSub, Nat.reduceLeDiff, Nat.reduceEqDiff, Nat.reduceLT, reduceCtorEq, e0, shRo]
  refine AWpL.callA [0, 1, 2, 3, 4] (s9 l x hok hi) rfl rfl (by rw [hn]; rfl) rfl (fun r hr => .inr (pin r)) fun rg v hv => ?_
  obtain ⟨rfl, rfl⟩ := hv
  refine ⟨Nat.le_refl _, AWpL.ofM hn rfl ?_⟩
  simp (config := { maxSteps := 2000000 }) only [go_sem, ↓reduceIte, Int.reduceBEq, Int.reduceBNe, Nat.reduceBEq, Nat.reduceAdd, Nat.reduceSub, Nat.reduceLeDiff, Nat.reduceEqDiff, Nat.reduceLT, reduceCtorEq, Aw.retS, Aw.retRg, Aw.kpM, Aw.bkM, Aw.pos, Aw.isBox, shR]
  refine AWp.cut ⟨[(0, gss nl full l), (1, .imm nf false 1 (F.map fun n => [I n])), (5, .ptr 0 0 0)], shRo 0 l x⟩ ?_ ?_
  · refine AWp.ofD [] [] hn mixed rfl ?_
    simp (config := { maxSteps := 2000000 }) only [go_sem, ↓reduceIte, Int.reduceBEq, Int.reduceBNe, Nat.reduceBEq, Nat.reduceAdd, Nat.reduceSub, Nat.reduceLeDiff, Nat.reduceEqDiff, Nat.reduceLT, reduceCtorEq]
    simp only [decide_eq_true_eq, decide_eq_false_iff_not]
    refine ⟨fun h => ?_, fun h => weak_to [0, 1, 2, 3, 4] hp hnp rfl (by simp (config := { maxSteps := 2000000 }) only [go_sem, ↓reduceIte, Int.reduceBEq, Int.reduceBNe, Nat.reduceBEq, Nat.reduceAdd, Nat.reduceSub, Nat.reduceLeDiff, Nat.reduceEqDiff, Nat.reduceLT, reduceCtorEq, Aw.pos]) (by simp (config := { maxSteps := 2000000 }) only [go_sem, ↓reduceIte, Int.reduceBEq, Int.reduceBNe, Nat.reduceBEq, Nat.reduceAdd, Nat.reduceSub, Nat.reduceLeDiff, Nat.reduceEqDiff, Nat.reduceLT, reduceCtorEq, Aw.renR, Aw.pos, shRo])⟩
    refine AWpL.callA [0, 1, 2, 3, 4] (s12 l x (-1) hok hi (by decide)) rfl rfl (by rw [hn]; rfl) rfl (fun r hr => .inr (pin r)) fun rg v hv => ?_
    obtain ⟨rfl, rfl⟩ := hv
    refine ⟨Nat.le_refl _, AWpL.ofM hn rfl ?_⟩
    have hb1 := back1 x
    have hb2 : backSt (-1) x = x := by unfold backSt; rw [hb1]; rfl
    have hb3 : backOut l (-1) x = [] := by unfold backOut; rw [hb1]; rfl
    simp (config := { maxSteps := 2000000 }) only [go_sem, ↓reduceIte, Int.reduceBEq, Int.reduceBNe, Nat.reduceBEq, Nat.reduceAdd, Nat.reduceSub, Nat.reduceLeDiff, Nat.reduceEqDiff, Nat.reduceLT, reduceCtorEq, Aw.retS, Aw.retRg, Aw.kpM, Aw.bkM, Aw.pos, Aw.isBox, shR, hb1, hb2, hb3, gt_iff_lt, Int.lt_irrefl, decide_false]
    refine AWpL.guardT rfl (AWpL.weak (weak_opt 78 rfl) ?_)
    (refine AWpL.callA [0, 1, 2, 3, 4] (s9 l x hok hi) rfl rfl (by rw [hn]; rfl) rfl (fun r hr => .inr (pin r)) fun rg v hv => ?_; obtain ⟨rfl, rfl⟩ := hv; refine ⟨Nat.le_refl _, AWpL.ofM hn rfl ?_⟩)
    simp (config := { maxSteps := 2000000 }) only [go_sem, ↓reduceIte, Int.reduceBEq, Int.reduceBNe, Nat.reduceBEq, Nat.reduceAdd, Nat.reduceSub, Nat.reduceLeDiff, Nat.reduceEqDiff, Nat.reduceLT, reduceCtorEq, Aw.retS, Aw.retRg, Aw.kpM, Aw.bkM, Aw.pos, Aw.isBox, shR]
    exact weak_to [0, 1, 2, 3, 4] hp hnp rfl (by simp (config := { maxSteps := 2000000 }) only [go_sem, ↓reduceIte, Int.reduceBEq, Int.reduceBNe, Nat.reduceBEq, Nat.reduceAdd, Nat.reduceSub, Nat.reduceLeDiff, Nat.reduceEqDiff, Nat.reduceLT, reduceCtorEq, Aw.pos]) (by simp (config := { maxSteps := 2000000 }) only [go_sem, ↓reduceIte, Int.reduceBEq, Int.reduceBNe, Nat.reduceBEq, Nat.reduceAdd, Nat.reduceSub, Nat.reduceLeDiff, Nat.reduceEqDiff, Nat.reduceLT, reduceCtorEq, Aw.renR, Aw.pos, shRo])
  simp (config := { maxSteps := 2000000 }) only [go_sem, ↓reduceIte, Int.reduceBEq, Int.reduceBNe, Nat.reduceBEq, Nat.reduceAdd, Nat.reduceSub, Nat.reduceLeDiff, Nat.reduceEqDiff, Nat.reduceLT, reduceCtorEq]
  refine AWp.loop (fun k s => ∃ (j : Nat) (x : Sh), j + k = 8 ∧ ShInv l x ∧ x.ord.length ≤ k ∧
      Weak E s ⟨[(0, gss nl full l), (1, .imm nf false 1 (F.map fun n => [I n])), (5, .ptr 0 0 0), (84, I j)], shRo 0 l x⟩) (n := 8)
    ⟨0, x, by omega, hi, len_ord hok hi, weak_to [0, 1, 2, 3, 4] hp hnp rfl (by simp (config := { maxSteps := 2000000 }) only [go_sem, ↓reduceIte, Int.reduceBEq, Int.reduceBNe, Nat.reduceBEq, Nat.reduceAdd, Nat.reduceSub, Nat.reduceLeDiff, Nat.reduceEqDiff, Nat.reduceLT, reduceCtorEq, Aw.pos]) (by simp (config := { maxSteps := 2000000 }) only [go_sem, ↓reduceIte, Int.reduceBEq, Int.reduceBNe, Nat.reduceBEq, Nat.reduceAdd, Nat.reduceSub, Nat.reduceLeDiff, Nat.reduceEqDiff, Nat.reduceLT, reduceCtorEq, Aw.renR, Aw.pos, shRo])⟩ ?_
  clear hw hik hge e0 hi
  rintro k s ⟨j, x, hjk, hi, hxk, hw⟩
  rcases Nat.lt_or_ge j 8 with hlt | hge
  · have e0 : decide ((j : Int) < 8) = true := decide_eq_true (by omega)
    have e2 : IntKind.i64.wrap ((j : Int) + 1) = ((j + 1 : Nat) : Int) := by rw [w64 (by omega) (by omega)]; omega
    refine AWp.weak hw (AWp.ofD [] [] hn mixed rfl ?_)
    simp (config := { maxSteps := 2000000 }) only [go_sem, ↓reduceIte, Int.reduceBEq, Int.reduceBNe, Nat.reduceBEq, Nat.reduceAdd, Nat.reduceSub, Nat.reduceLeDiff, Nat.reduceEqDiff, Nat.reduceLT, reduceCtorEq, e0, shRo]
    (refine AWpL.callA [0, 1, 2, 3, 4] (s9 l x hok hi) rfl rfl (by rw [hn]; rfl) rfl (fun r hr => .inr (pin r)) fun rg v hv => ?_; obtain ⟨rfl, rfl⟩ := hv; refine ⟨Nat.le_refl _, AWpL.ofM hn rfl ?_⟩)
    simp (config := { maxSteps := 2000000 }) only [go_sem, ↓reduceIte, Int.reduceBEq, Int.reduceBNe, Nat.reduceBEq, Nat.reduceAdd, Nat.reduceSub, Nat.reduceLeDiff, Nat.reduceEqDiff, Nat.reduceLT, reduceCtorEq, Aw.retS, Aw.retRg, Aw.kpM, Aw.bkM, Aw.pos, Aw.isBox, shR]
    (refine AWpL.callA [0, 1, 2, 3, 4] (s12 l x 0 hok hi (by decide)) rfl rfl (by rw [hn]; rfl) rfl (fun r hr => .inr (pin r)) fun rg v hv => ?_; obtain ⟨rfl, rfl⟩ := hv; refine ⟨Nat.le_refl _, AWpL.ofM hn rfl ?_⟩)
    have hi2 := hi.backSt hok 0
    have hbo := back0_loads l x
    have hbl := back0_len l x
    have hbs := bout_small hok hi 0
    have hol := loads_bound hok (backSt 0 x).ord hi2.inr 8 (len_ord hok hi2)
    have hol2 := loads_bound hok x.ord hi.inr 8 (len_ord hok hi)
    have hcond : (backErr 0 x != 0 && (backErr 0 x != 11 || decide (((loadsOf l x.ord).length : Int) > 0))) = false := by
      rw [back0 l]
      by_cases h : x.ord = []
      · simp [h, loadsOf]
      · simp [h]
    simp (config := { maxSteps := 2000000 }) only [go_sem, ↓reduceIte, Int.reduceBEq, Int.reduceBNe, Nat.reduceBEq, Nat.reduceAdd, Nat.reduceSub, Nat.reduceLeDiff, Nat.reduceEqDiff, Nat.reduceLT, reduceCtorEq, Aw.retS, Aw.retRg, Aw.kpM, Aw.bkM, Aw.pos, Aw.isBox, shR, hcond]
    refine ⟨fun h => ⟨h, fun h2 => by rw [h, h2]; rfl⟩, ?_⟩
    (refine AWpL.callA [0, 1, 2, 3, 4] (s9 l (backSt 0 x) hok hi2) rfl rfl (by rw [hn]; rfl) rfl (fun r hr => .inr (pin r)) fun rg v hv => ?_; obtain ⟨rfl, rfl⟩ := hv; refine ⟨Nat.le_refl _, AWpL.ofM hn rfl ?_⟩)
    simp (config := { maxSteps := 2000000 }) only [go_sem, ↓reduceIte, Int.reduceBEq, Int.reduceBNe, Nat.reduceBEq, Nat.reduceAdd, Nat.reduceSub, Nat.reduceLeDiff, Nat.reduceEqDiff, Nat.reduceLT, reduceCtorEq, Aw.retS, Aw.retRg, Aw.kpM, Aw.bkM, Aw.pos, Aw.isBox, shR]
    refine AWpL.weak (weak_freeze 5 rfl (pin 5) (by simp (config := { maxSteps := 2000000 }) only [go_sem, ↓reduceIte, Int.reduceBEq, Int.reduceBNe, Nat.reduceBEq, Nat.reduceAdd, Nat.reduceSub, Nat.reduceLeDiff, Nat.reduceEqDiff, Nat.reduceLT, reduceCtorEq, Nat.le_refl])) ?_
    refine AWpL.callA [] (s14 none true [loadsOf l (backSt 0 x).ord, backOut l 0 x] (by simp) (fun m hm => by
      simp only [List.mem_cons, List.not_mem_nil, or_false] at hm
      rcases hm with rfl | rfl <;> omega)) rfl rfl (by rw [hn]; rfl) rfl (fun r hr => by cases hr) fun rg v hv => ?_
    obtain ⟨rfl, rfl⟩ := hv
    refine ⟨Nat.le_refl _, ?_⟩
    rw [retS_nil]
    refine AWpL.ofM hn rfl ?_
    have hfl : [loadsOf l (backSt 0 x).ord, backOut l 0 x].flatten = loadsOf l x.ord := by rw [← hbo]; simp
    simp (config := { maxSteps := 2000000 }) only [go_sem, ↓reduceIte, Int.reduceBEq, Int.reduceBNe, Nat.reduceBEq, Nat.reduceAdd, Nat.reduceSub, Nat.reduceLeDiff, Nat.reduceEqDiff, Nat.reduceLT, reduceCtorEq, hfl]
    (refine AWpL.calle (s13 none false (loadsOf l x.ord) none false (loadsOf l x.ord) (by omega) (by omega)) rfl (by rw [hn]; rfl) (by simp (config := { maxSteps := 2000000 }) only [go_sem, ↓reduceIte, Int.reduceBEq, Int.reduceBNe, Nat.reduceBEq, Nat.reduceAdd, Nat.reduceSub, Nat.reduceLeDiff, Nat.reduceEqDiff, Nat.reduceLT, reduceCtorEq]) (AWpL.ofM hn rfl ?_); simp (config := { maxSteps := 2000000 }) only [go_sem, ↓reduceIte, Int.reduceBEq, Int.reduceBNe, Nat.reduceBEq, Nat.reduceAdd, Nat.reduceSub, Nat.reduceLeDiff, Nat.reduceEqDiff, Nat.reduceLT, reduceCtorEq])
    simp (config := { maxSteps := 2000000 }) only [go_sem, ↓reduceIte, Int.reduceBEq, Int.reduceBNe, Nat.reduceBEq, Nat.reduceAdd, Nat.reduceSub, Nat.reduceLeDiff, Nat.reduceEqDiff, Nat.reduceLT, reduceCtorEq, eqs_self, e2]
    refine ⟨k - 1, by omega, j + 1, backSt 0 x, by omega, hi2, by omega, weak_to [0, 1, 2, 3, 4] hp hnp rfl (by simp (config := { maxSteps := 2000000 }) only [go_sem, ↓reduceIte, Int.reduceBEq, Int.reduceBNe, Nat.reduceBEq, Nat.reduceAdd, Nat.reduceSub, Nat.reduceLeDiff, Nat.reduceEqDiff, Nat.reduceLT, reduceCtorEq, Aw.pos]) (by simp (config := { maxSteps := 2000000 }) only [go_sem, ↓reduceIte, Int.reduceBEq, Int.reduceBNe, Nat.reduceBEq, Nat.reduceAdd, Nat.reduceSub, Nat.reduceLeDiff, Nat.reduceEqDiff, Nat.reduceLT, reduceCtorEq, Aw.renR, Aw.pos, shRo])⟩
  have e0 : decide ((j : Int) < 8) = false := decide_eq_false (by omega)
  refine AWp.weak hw (AWp.ofD [] [] hn mixed rfl ?_)
  have hord : x.ord = [] := List.eq_nil_of_length_eq_zero (by omega)
  simp (config := { maxSteps := 2000000 }) only [go_sem, ↓reduceIte, Int.reduceBEq, Int.reduceBNe, Nat.reduceBEq, Nat.reduceAdd, Nat.reduceSub, Nat.reduceLeDiff, Nat.reduceEqDiff, Nat.reduceLT, reduceCtorEq, e0, shRo]
  (refine AWpL.callA [0, 1, 2, 3, 4] (s8 l x 0 hok hi (by decide)) rfl rfl (by rw [hn]; rfl) rfl (fun r hr => .inr (pin r)) fun rg v hv => ?_; obtain ⟨rfl, rfl⟩ := hv; refine ⟨Nat.le_refl _, AWpL.ofM hn rfl ?_⟩)
  simp (config := { maxSteps := 2000000 }) only [go_sem, ↓reduceIte, Int.reduceBEq, Int.reduceBNe, Nat.reduceBEq, Nat.reduceAdd, Nat.reduceSub, Nat.reduceLeDiff, Nat.reduceEqDiff, Nat.reduceLT, reduceCtorEq, Aw.retS, Aw.retRg, Aw.kpM, Aw.bkM, Aw.pos, Aw.isBox, shR]
  refine AWpL.callA [] (s5 nl full l hs) rfl rfl (by rw [hn]; rfl) rfl (fun r hr => by cases hr) fun rg v hv => ?_
  refine ⟨Nat.zero_le _, ?_⟩
  obtain ⟨rfl, rfl⟩ := hv.2 hc
  rw [retS_new]
  refine AWpL.ofM hn rfl ?_
  simp (config := { maxSteps := 2000000 }) only [go_sem, ↓reduceIte, Int.reduceBEq, Int.reduceBNe, Nat.reduceBEq, Nat.reduceAdd, Nat.reduceSub, Nat.reduceLeDiff, Nat.reduceEqDiff, Nat.reduceLT, reduceCtorEq, shR]
  have hsame : Same l (shAny l 0 x) sh0 := by
    have h1 : shAny l 0 x = shStep l 0 x := if_pos (by decide)
    rw [h1]; exact still_of hok hi hord
  have hi1 := hi.any hok 0
  generalize shAny l 0 x = x1 at *
  refine AWp.loop (fun k s => ∃ (i : Nat) (x y : Sh), i + k = F.length ∧ ShInv l x ∧ ShInv l y ∧ Same l x y ∧
      Weak E s ⟨[(5, .ptr 0 0 0), (15, .ptr 5 0 0), (126, .imm nf false 1 (F.map fun n => [I n])), (127, I F.length), (128, I i)], shRo 0 l x ++ shRo 5 l y⟩) (n := F.length)
    ⟨0, x1, sh0, by omega, hi1, ShInv.zero hok, hsame, weak_to [0, 1, 2, 3, 4, 5, 6, 7, 8, 9] hp hnp rfl (by simp (config := { maxSteps := 2000000 }) only [go_sem, ↓reduceIte, Int.reduceBEq, Int.reduceBNe, Nat.reduceBEq, Nat.reduceAdd, Nat.reduceSub, Nat.reduceLeDiff, Nat.reduceEqDiff, Nat.reduceLT, reduceCtorEq, Aw.pos]) (by simp (config := { maxSteps := 2000000 }) only [go_sem, ↓reduceIte, Int.reduceBEq, Int.reduceBNe, Nat.reduceBEq, Nat.reduceAdd, Nat.reduceSub, Nat.reduceLeDiff, Nat.reduceEqDiff, Nat.reduceLT, reduceCtorEq, Aw.renR, Aw.pos, shRo])⟩ ?_
  clear hw hjk hxk hge e0 hi hord
  rintro k s ⟨i, x, y, hik, hix, hiy, hxy, hw⟩
  rcases Nat.lt_or_ge i F.length with hlt | hge
  · have e0 : decide ((i : Int) < (F.length : Int)) = true := decide_eq_true (by omega)
    have e1 := getD_map (fun n : Int => [I n]) hlt
    have e2 : IntKind.i64.wrap ((i : Int) + 1) = ((i + 1 : Nat) : Int) := by rw [w64 (by omega) (by omega)]; omega
    have hfi := hfw2 _ (List.getElem_mem hlt)
    generalize F[i] = f at e1 hfi
    refine AWp.weak hw (AWp.ofD [] [] hn mixed rfl ?_)
    simp (config := { maxSteps := 2000000 }) only [go_sem, ↓reduceIte, Int.reduceBEq, Int.reduceBNe, Nat.reduceBEq, Nat.reduceAdd, Nat.reduceSub, Nat.reduceLeDiff, Nat.reduceEqDiff, Nat.reduceLT, reduceCtorEq, e0, e1, shRo]
    (repeat (refine And.intro (by first | omega | (refine ⟨by omega, by omega⟩) | (refine ⟨by omega, by omega, by omega⟩) | (simp only [List.length_map, List.length_range, List.length_append, List.length_cons, List.length_nil, List.length_replicate, List.length_set]; omega) | (simp; omega) | (intro hgd; cases hgd) | (intro hgd; refine ⟨hgd, ?_⟩; first | omega | (refine ⟨by omega, by omega⟩) | (simp; omega))) ?_))
    (refine AWpL.callA [0, 1, 2, 3, 4] (s8 l x f hok hix hfi) rfl rfl (by rw [hn]; rfl) rfl (fun r hr => .inr (pin r)) fun rg v hv => ?_; obtain ⟨rfl, rfl⟩ := hv; refine ⟨Nat.le_refl _, AWpL.ofM hn rfl ?_⟩)
    simp (config := { maxSteps := 2000000 }) only [go_sem, ↓reduceIte, Int.reduceBEq, Int.reduceBNe, Nat.reduceBEq, Nat.reduceAdd, Nat.reduceSub, Nat.reduceLeDiff, Nat.reduceEqDiff, Nat.reduceLT, reduceCtorEq, Aw.retS, Aw.retRg, Aw.kpM, Aw.bkM, Aw.pos, Aw.isBox, shR]
    (refine AWpL.callA [5, 6, 7, 8, 9] (s8 l y f hok hiy hfi) rfl rfl (by rw [hn]; rfl) rfl (fun r hr => .inr (pin r)) fun rg v hv => ?_; obtain ⟨rfl, rfl⟩ := hv; refine ⟨Nat.le_refl _, AWpL.ofM hn rfl ?_⟩)
    have ho := out_small hok f y
    simp (config := { maxSteps := 2000000 }) only [go_sem, ↓reduceIte, Int.reduceBEq, Int.reduceBNe, Nat.reduceBEq, Nat.reduceAdd, Nat.reduceSub, Nat.reduceLeDiff, Nat.reduceEqDiff, Nat.reduceLT, reduceCtorEq, Aw.retS, Aw.retRg, Aw.kpM, Aw.bkM, Aw.pos, Aw.isBox, shR, hxy.out f, bne_self_eq_false]
    (refine AWpL.gcalle (b := true) rfl (fun _ => (s13 none false (stepOut l f y) none false (stepOut l f y) (by omega) (by omega))) rfl (by rw [hn]; rfl) (fun _ => by simp (config := { maxSteps := 2000000 }) only [go_sem, ↓reduceIte, Int.reduceBEq, Int.reduceBNe, Nat.reduceBEq, Nat.reduceAdd, Nat.reduceSub, Nat.reduceLeDiff, Nat.reduceEqDiff, Nat.reduceLT, reduceCtorEq]) (AWpL.ofM hn rfl ?_); simp (config := { maxSteps := 2000000 }) only [go_sem, ↓reduceIte, Int.reduceBEq, Int.reduceBNe, Nat.reduceBEq, Nat.reduceAdd, Nat.reduceSub, Nat.reduceLeDiff, Nat.reduceEqDiff, Nat.reduceLT, reduceCtorEq])
    simp (config := { maxSteps := 2000000 }) only [go_sem, ↓reduceIte, Int.reduceBEq, Int.reduceBNe, Nat.reduceBEq, Nat.reduceAdd, Nat.reduceSub, Nat.reduceLeDiff, Nat.reduceEqDiff, Nat.reduceLT, reduceCtorEq, eqs_self, e2]
    exact ⟨k - 1, by omega, i + 1, shAny l f x, shAny l f y, by omega, hix.any hok f, hiy.any hok f, hxy.any f, weak_to [0, 1, 2, 3, 4, 5, 6, 7, 8, 9] hp hnp rfl (by simp (config := { maxSteps := 2000000 }) only [go_sem, ↓reduceIte, Int.reduceBEq, Int.reduceBNe, Nat.reduceBEq, Nat.reduceAdd, Nat.reduceSub, Nat.reduceLeDiff, Nat.reduceEqDiff, Nat.reduceLT, reduceCtorEq, Aw.pos]) (by simp (config := { maxSteps := 2000000 }) only [go_sem, ↓reduceIte, Int.reduceBEq, Int.reduceBNe, Nat.reduceBEq, Nat.reduceAdd, Nat.reduceSub, Nat.reduceLeDiff, Nat.reduceEqDiff, Nat.reduceLT, reduceCtorEq, Aw.renR, Aw.pos, shRo])⟩
  have e0 : decide ((i : Int) < (F.length : Int)) = false := decide_eq_false (by omega)
  refine AWp.weak hw (AWp.ofD [] [] hn mixed rfl ?_)
  simp (config := { maxSteps := 2000000 }) only [go_sem, ↓reduceIte, Int.reduceBEq, Int.reduceBNe, Nat.reduceBEq, Nat.reduceAdd, Nat.reduceSub, Nat.reduceLeDiff, Nat.reduceEqDiff, Nat.reduceLT, reduceCtorEq, e0, shRo]
  (refine AWpL.calle (s6) rfl (by rw [hn]; rfl) (by simp (config := { maxSteps := 2000000 }) only [go_sem, ↓reduceIte, Int.reduceBEq, Int.reduceBNe, Nat.reduceBEq, Nat.reduceAdd, Nat.reduceSub, Nat.reduceLeDiff, Nat.reduceEqDiff, Nat.reduceLT, reduceCtorEq]) (AWpL.ofM hn rfl ?_); simp (config := { maxSteps := 2000000 }) only [go_sem, ↓reduceIte, Int.reduceBEq, Int.reduceBNe, Nat.reduceBEq, Nat.reduceAdd, Nat.reduceSub, Nat.reduceLeDiff, Nat.reduceEqDiff, Nat.reduceLT, reduceCtorEq])
  refine AWpL.guardT rfl (AWpL.weak (weak_opt 156 rfl) ?_)
  (refine AWpL.callA [0, 1, 2, 3, 4] (s9 l x hok hix) rfl rfl (by rw [hn]; rfl) rfl (fun r hr => .inr (pin r)) fun rg v hv => ?_; obtain ⟨rfl, rfl⟩ := hv; refine ⟨Nat.le_refl _, AWpL.ofM hn rfl ?_⟩)
  simp (config := { maxSteps := 2000000 }) only [go_sem, ↓reduceIte, Int.reduceBEq, Int.reduceBNe, Nat.reduceBEq, Nat.reduceAdd, Nat.reduceSub, Nat.reduceLeDiff, Nat.reduceEqDiff, Nat.reduceLT, reduceCtorEq, Aw.retS, Aw.retRg, Aw.kpM, Aw.bkM, Aw.pos, Aw.isBox, shR]
  refine AWpL.guardT rfl (AWpL.weak (weak_opt 159 rfl) ?_)
  (refine AWpL.callA [5, 6, 7, 8, 9] (s9 l y hok hiy) rfl rfl (by rw [hn]; rfl) rfl (fun r hr => .inr (pin r)) fun rg v hv => ?_; obtain ⟨rfl, rfl⟩ := hv; refine ⟨Nat.le_refl _, AWpL.ofM hn rfl ?_⟩)
  simp (config := { maxSteps := 2000000 }) only [go_sem, ↓reduceIte, Int.reduceBEq, Int.reduceBNe, Nat.reduceBEq, Nat.reduceAdd, Nat.reduceSub, Nat.reduceLeDiff, Nat.reduceEqDiff, Nat.reduceLT, reduceCtorEq, Aw.retS, Aw.retRg, Aw.kpM, Aw.bkM, Aw.pos, Aw.isBox, shR, hxy.2, beq_self_eq_true]
end Go.Proofs.Ytdcnllgnblgfaaa
