/- Alarms: SortFunc. -/
import Derived.Test.YtoickofcmngdjaaAwZl
import Derived.Test.YtoickofcmngdjaaBrdD
set_option linter.unusedVariables false
set_option linter.unusedSimpArgs false
namespace Go.Proofs.Ytoickofcmngdjaa
open Go.Proofs.Ytoickofcmngdjaa.Aw
attribute [local go_sem] Int.natCast_zero Int.natCast_one bne_self_eq_false beq_self_eq_true Bool.not_true Bool.not_false Option.isSome_none Option.isSome_some Aw.bkM_nil Option.getD_some Option.getD_none Nat.sub_zero Int.toNat_zero Aw.frzS Aw.frzT Aw.frzA Aw.frzL Aw.frzR Aw.frzO Aw.frzOL Aw.frzOT Aw.frzOR Aw.killS Aw.mapT Aw.mapR Aw.killM Aw.resAVs Aw.resAV Aw.quietOps Aw.wpP Aw.wpT Aw.wpS Aw.AOp.mild List.getElem?_cons_zero List.getElem?_cons_succ Bool.and_false Bool.and_self Bool.false_and Aw.opOb Aw.gdB Aw.Rnd Aw.subTm List.length_map Int.toNat_natCast and_self Aw.SeqC Aw.stops Aw.Ends Aw.looks Aw.renA Aw.renL Aw.renT Aw.renS Aw.wpO Aw.aop Aw.putTm Aw.St.ev Aw.St.put Aw.St.putO Aw.binAV Aw.intBin Aw.strBin Aw.pickAV Aw.optInt Aw.AV.strip Aw.AV.guard Aw.AV.cells Aw.gdOb Aw.AOp.opds Aw.AOp.still Aw.ptrCells Aw.St.reg Aw.fillAV Aw.fillOb Aw.elsOb Aw.splice Aw.firm Aw.cellish Aw.AV.shut Aw.shutAll Aw.Seq Aw.Blk Aw.retS_nil Aw.mapA Aw.mapL Aw.borA Aw.borOb Aw.allOb Aw.tupOf Aw.params Aw.Opd.of Array.toList Value.cells List.map_cons List.map_nil List.getD_cons_zero List.getD_cons_succ List.getD_nil List.length_cons List.length_nil List.take_succ_cons List.take_zero List.take_nil List.drop_zero List.drop_succ_cons List.drop_nil List.set_cons_zero List.set_cons_succ List.append_nil List.nil_append List.cons_append List.all_cons List.all_nil cond_false cond_true if_true if_false true_and and_true Bool.and_true Bool.true_and Option.map_some Option.map_none false_implies forall_const implies_true forall_eq imp_self Bool.cond_false_right Bool.cond_true_left beq_true beq_false Bool.not_eq_true' Bool.false_eq_true Nat.zero_add Nat.add_zero Aw.eqCells Aw.stopDraw Aw.skipS Aw.exactCap Aw.revealS Aw.srcEls Aw.srcSz
attribute [local go_sem ↓] Aw.look_nil Aw.look_ite Aw.wpL_nil Aw.wpL_op Aw.wpL_gd Aw.wpQ_nil Aw.wpQ_op Aw.wpQ_gd Aw.wpC_draw Aw.wpC_reg Aw.wpC_skip Aw.wpC_ret Aw.wpC_exit Aw.wpC_seq Aw.wpC_block Aw.wpC_loop Aw.wpC_cond Aw.stopAt_nil Aw.stopAt_cons Aw.wpD_skip Aw.wpD_ret Aw.wpD_exit Aw.wpD_region Aw.wpD_draw Aw.wpM_nil Aw.wpM_op Aw.wpM_gd Aw.wpD_seq Aw.wpD_block Aw.wpD_loop Aw.wpD_cond
open Go.RowKit
/- slices.pdqsortCmpFunc[gridhall/api.AlarmEntry] -/
def a54 : ACode :=
  (.seq (.region false [] [
     ⟨(some 10), none, (.mov (.v (.bool true)))⟩])
  (.seq (.region false [] [
     ⟨(some 11), none, (.mov (.v (.bool true)))⟩])
  (.block 0 (.loop (.block 1 (.seq (.region false [] [
        ⟨(some 21), none, (.mov (.t 2))⟩,
        ⟨(some 22), none, (.mov (.t 1))⟩,
        ⟨(some 23), none, (.bin .sub 3 (.t 21) (.t 22))⟩,
        ⟨(some 12), none, (.mov (.t 23))⟩])
     (.seq (.seq (.region false [] [
        ⟨(some 24), none, (.mov (.t 12))⟩,
        ⟨(some 25), none, (.bin .leq 3 (.t 24) (.v (.int .i64 12)))⟩])
     (.cond (.t 25)
       (.seq (.region false [] [
          ⟨(some 26), none, (.mov (.t 0))⟩,
          ⟨(some 27), none, (.mov (.t 1))⟩,
          ⟨(some 28), none, (.mov (.t 2))⟩,
          ⟨(some 29), none, (.mov (.t 4))⟩,
          ⟨(some 30), none, (.call 62 [(.t 26), (.t 27), (.t 28), (.t 29)])⟩])
       .ret)
       .skip))
     (.seq (.seq (.region false [] [
        ⟨(some 31), none, (.mov (.t 3))⟩,
        ⟨(some 32), none, (.bin .eql 3 (.t 31) (.v (.int .i64 0)))⟩])
     (.cond (.t 32)
       (.seq (.region false [] [
          ⟨(some 33), none, (.mov (.t 0))⟩,
          ⟨(some 34), none, (.mov (.t 1))⟩,
          ⟨(some 35), none, (.mov (.t 2))⟩,
          ⟨(some 36), none, (.mov (.t 4))⟩,
          ⟨(some 37), none, (.call 63 [(.t 33), (.t 34), (.t 35), (.t 36)])⟩])
       .ret)
       .skip))
     (.seq (.seq (.region false [] [
        ⟨(some 38), none, (.mov (.t 10))⟩,
        ⟨(some 39), none, (.un .not (.t 38))⟩])
     (.cond (.t 39)
       (.seq (.region false [] [
          ⟨(some 40), none, (.mov (.t 0))⟩,
          ⟨(some 41), none, (.mov (.t 1))⟩,
          ⟨(some 42), none, (.mov (.t 2))⟩,
          ⟨(some 43), none, (.mov (.t 4))⟩,
          ⟨(some 44), none, (.call 64 [(.t 40), (.t 41), (.t 42), (.t 43)])⟩])
       (.region false [] [
          ⟨(some 45), none, (.mov (.t 3))⟩,
          ⟨(some 46), none, (.bin .sub 3 (.t 45) (.v (.int .i64 1)))⟩,
          ⟨(some 3), none, (.mov (.t 46))⟩]))
       .skip))
     (.seq (.region false [] [
        ⟨(some 48), none, (.mov (.t 0))⟩,
        ⟨(some 49), none, (.mov (.t 1))⟩,
        ⟨(some 50), none, (.mov (.t 2))⟩,
        ⟨(some 51), none, (.mov (.t 4))⟩,
        ⟨(some 52), none, (.call 65 [(.t 48), (.t 49), (.t 50), (.t 51)])⟩,
        ⟨(some 47), none, (.mov (.t 52))⟩,
        ⟨(some 53), none, (.ext 0 (.t 47))⟩,
        ⟨(some 54), none, (.ext 1 (.t 47))⟩,
        ⟨(some 13), none, (.mov (.t 53))⟩,
        ⟨(some 14), none, (.mov (.t 54))⟩])
     (.seq (.seq (.region false [] [
        ⟨(some 55), none, (.mov (.t 14))⟩,
        ⟨(some 56), none, (.bin .eql 78 (.t 55) (.v (.int .i64 2)))⟩])
     (.cond (.t 56)
       (.seq (.region false [] [
          ⟨(some 57), none, (.mov (.t 0))⟩,
          ⟨(some 58), none, (.mov (.t 1))⟩,
          ⟨(some 59), none, (.mov (.t 2))⟩,
          ⟨(some 60), none, (.mov (.t 4))⟩,
          ⟨(some 61), none, (.call 66 [(.t 57), (.t 58), (.t 59), (.t 60)])⟩])
       (.seq (.region false [] [
          ⟨(some 62), none, (.mov (.t 2))⟩,
          ⟨(some 63), none, (.bin .sub 3 (.t 62) (.v (.int .i64 1)))⟩,
          ⟨(some 64), none, (.mov (.t 13))⟩,
          ⟨(some 65), none, (.mov (.t 1))⟩,
          ⟨(some 66), none, (.bin .sub 3 (.t 64) (.t 65))⟩,
          ⟨(some 67), none, (.bin .sub 3 (.t 63) (.t 66))⟩,
          ⟨(some 13), none, (.mov (.t 67))⟩])
       (.region false [] [
          ⟨(some 14), none, (.mov (.v (.int .i64 1)))⟩])))
       .skip))
     (.seq (.seq (.region false [] [
        ⟨(some 68), none, (.mov (.t 10))⟩,
        ⟨(some 69), none, (.mov (.t 68))⟩,
        ⟨(some 70), (some (69, true)), (.mov (.t 11))⟩,
        ⟨(some 71), none, (.pick (.t 69) (.t 70) (.v (.bool false)))⟩,
        ⟨(some 72), none, (.mov (.t 71))⟩,
        ⟨(some 73), (some (72, true)), (.mov (.t 14))⟩,
        ⟨(some 74), (some (72, true)), (.bin .eql 78 (.t 73) (.v (.int .i64 1)))⟩,
        ⟨(some 75), none, (.pick (.t 72) (.t 74) (.v (.bool false)))⟩])
     (.cond (.t 75)
       (.seq (.region false [] [
          ⟨(some 76), none, (.mov (.t 0))⟩,
          ⟨(some 77), none, (.mov (.t 1))⟩,
          ⟨(some 78), none, (.mov (.t 2))⟩,
          ⟨(some 79), none, (.mov (.t 4))⟩,
          ⟨(some 80), none, (.call 67 [(.t 76), (.t 77), (.t 78), (.t 79)])⟩])
       (.cond (.t 80)
         .ret
         .skip))
       .skip))
     (.seq (.seq (.region true [[], [0], [1], [2], [2], [2], [5, 2], [4, 6, 2], [7, 2], [2], [2], [9, 10, 2], [11, 2], [3, 8, 12, 2, 2], [13, 2], [14, 2], [2, 15]] [
        ⟨(some 81), none, (.mov (.t 1))⟩,
        ⟨(some 82), none, (.bin .gtr 3 (.t 81) (.v (.int .i64 0)))⟩,
        ⟨(some 83), none, (.mov (.t 82))⟩,
        ⟨(some 84), (some (83, true)), (.mov (.t 4))⟩,
        ⟨(some 85), (some (83, true)), (.mov (.t 0))⟩,
        ⟨(some 86), (some (83, true)), (.mov (.t 1))⟩,
        ⟨(some 87), (some (83, true)), (.bin .sub 3 (.t 86) (.v (.int .i64 1)))⟩,
        ⟨(some 88), (some (83, true)), (.idx 3 (.t 85) (.t 87))⟩,
        ⟨(some 89), (some (83, true)), (.load 3 true (.t 88))⟩,
        ⟨(some 90), (some (83, true)), (.mov (.t 0))⟩,
        ⟨(some 91), (some (83, true)), (.mov (.t 13))⟩,
        ⟨(some 92), (some (83, true)), (.idx 3 (.t 90) (.t 91))⟩,
        ⟨(some 93), (some (83, true)), (.load 3 true (.t 92))⟩,
        ⟨(some 94), (some (83, true)), (.callv (.t 84) [(.t 89), (.t 93)])⟩,
        ⟨(some 95), (some (83, true)), (.bin .lss 3 (.t 94) (.v (.int .i64 0)))⟩,
        ⟨(some 96), (some (83, true)), (.un .not (.t 95))⟩,
        ⟨(some 97), none, (.pick (.t 83) (.t 96) (.v (.bool false)))⟩])
     (.cond (.t 97)
       (.seq (.region false [] [
          ⟨(some 98), none, (.mov (.t 0))⟩,
          ⟨(some 99), none, (.mov (.t 1))⟩,
          ⟨(some 100), none, (.mov (.t 2))⟩,
          ⟨(some 101), none, (.mov (.t 13))⟩,
          ⟨(some 102), none, (.mov (.t 4))⟩,
          ⟨(some 103), none, (.call 68 [(.t 98), (.t 99), (.t 100), (.t 101), (.t 102)])⟩,
          ⟨(some 15), none, (.mov (.t 103))⟩])
       (.seq (.region false [] [
          ⟨(some 104), none, (.mov (.t 15))⟩,
          ⟨(some 1), none, (.mov (.t 104))⟩])
       (.exit 1)))
       .skip))
     (.seq (.region false [] [
        ⟨(some 106), none, (.mov (.t 0))⟩,
        ⟨(some 107), none, (.mov (.t 1))⟩,
        ⟨(some 108), none, (.mov (.t 2))⟩,
        ⟨(some 109), none, (.mov (.t 13))⟩,
        ⟨(some 110), none, (.mov (.t 4))⟩,
        ⟨(some 111), none, (.call 69 [(.t 106), (.t 107), (.t 108), (.t 109), (.t 110)])⟩,
        ⟨(some 105), none, (.mov (.t 111))⟩,
        ⟨(some 112), none, (.ext 0 (.t 105))⟩,
        ⟨(some 113), none, (.ext 1 (.t 105))⟩,
        ⟨(some 16), none, (.mov (.t 112))⟩,
        ⟨(some 17), none, (.mov (.t 113))⟩])
     (.seq (.region false [] [
        ⟨(some 114), none, (.mov (.t 17))⟩,
        ⟨(some 11), none, (.mov (.t 114))⟩])
     (.seq (.region false [] [
        ⟨(some 115), none, (.mov (.t 16))⟩,
        ⟨(some 116), none, (.mov (.t 1))⟩,
        ⟨(some 117), none, (.bin .sub 3 (.t 115) (.t 116))⟩,
        ⟨(some 118), none, (.mov (.t 2))⟩,
        ⟨(some 119), none, (.mov (.t 16))⟩,
        ⟨(some 120), none, (.bin .sub 3 (.t 118) (.t 119))⟩,
        ⟨(some 18), none, (.mov (.t 117))⟩,
        ⟨(some 19), none, (.mov (.t 120))⟩])
     (.seq (.region false [] [
        ⟨(some 121), none, (.mov (.t 12))⟩,
        ⟨(some 122), none, (.bin .quo 3 (.t 121) (.v (.int .i64 8)))⟩,
        ⟨(some 20), none, (.mov (.t 122))⟩])
     (.seq (.region false [] [
        ⟨(some 123), none, (.mov (.t 18))⟩,
        ⟨(some 124), none, (.mov (.t 19))⟩,
        ⟨(some 125), none, (.bin .lss 3 (.t 123) (.t 124))⟩])
     (.cond (.t 125)
       (.seq (.region false [] [
          ⟨(some 126), none, (.mov (.t 18))⟩,
          ⟨(some 127), none, (.mov (.t 20))⟩,
          ⟨(some 128), none, (.bin .geq 3 (.t 126) (.t 127))⟩,
          ⟨(some 10), none, (.mov (.t 128))⟩])
       (.seq (.region false [] [
          ⟨(some 129), none, (.mov (.t 0))⟩,
          ⟨(some 130), none, (.mov (.t 1))⟩,
          ⟨(some 131), none, (.mov (.t 16))⟩,
          ⟨(some 132), none, (.mov (.t 3))⟩,
          ⟨(some 133), none, (.mov (.t 4))⟩,
          ⟨(some 134), none, (.call 54 [(.t 129), (.t 130), (.t 131), (.t 132), (.t 133)])⟩])
       (.region false [] [
          ⟨(some 135), none, (.mov (.t 16))⟩,
          ⟨(some 136), none, (.bin .add 3 (.t 135) (.v (.int .i64 1)))⟩,
          ⟨(some 1), none, (.mov (.t 136))⟩])))
       (.seq (.region false [] [
          ⟨(some 137), none, (.mov (.t 19))⟩,
          ⟨(some 138), none, (.mov (.t 20))⟩,
          ⟨(some 139), none, (.bin .geq 3 (.t 137) (.t 138))⟩,
          ⟨(some 10), none, (.mov (.t 139))⟩])
       (.seq (.region false [] [
          ⟨(some 140), none, (.mov (.t 0))⟩,
          ⟨(some 141), none, (.mov (.t 16))⟩,
          ⟨(some 142), none, (.bin .add 3 (.t 141) (.v (.int .i64 1)))⟩,
          ⟨(some 143), none, (.mov (.t 2))⟩,
          ⟨(some 144), none, (.mov (.t 3))⟩,
          ⟨(some 145), none, (.mov (.t 4))⟩,
          ⟨(some 146), none, (.call 54 [(.t 140), (.t 142), (.t 143), (.t 144), (.t 145)])⟩])
       (.region false [] [
          ⟨(some 147), none, (.mov (.t 16))⟩,
          ⟨(some 2), none, (.mov (.t 147))⟩]))))))))))))))))))))))
theorem k54 : FnIs Try.prog 54 148 [] a54 := ⟨_, _, Try.func54, rfl, by kernel_rfl, by kernel_rfl, rfl⟩
/- slices.SortFunc[[]gridhall/api.AlarmEntry,gridhall/api.AlarmEntry] -/
def a35 : ACode :=
  (.seq (.region false [] [
     ⟨(some 5), none, (.mov (.t 0))⟩,
     ⟨(some 6), none, (.len (.t 5))⟩,
     ⟨(some 4), none, (.mov (.t 6))⟩])
  (.region false [] [
     ⟨(some 7), none, (.mov (.t 0))⟩,
     ⟨(some 8), none, (.mov (.t 4))⟩,
     ⟨(some 9), none, (.mov (.t 4))⟩,
     ⟨(some 10), none, (.itoi .u64 (.t 9))⟩,
     ⟨(some 11), none, (.call 33 [(.t 10)])⟩,
     ⟨(some 12), none, (.mov (.t 1))⟩,
     ⟨(some 13), none, (.call 54 [(.t 7), (.v (.int .i64 0)), (.t 8), (.t 11), (.t 12)])⟩]))
theorem k35 : FnIs Try.prog 35 14 [] a35 := ⟨_, _, Try.func35, rfl, by kernel_rfl, by kernel_rfl, rfl⟩

theorem entOfn (f : FuncId) : Ent (.val (.func (.func f) #[] #[])) (.fn f []) := fun w ok ρ v h => by
  unfold R at *
  exact ⟨#[], h, by unfold RList; rfl⟩
section
variable {P : Program} {E : Env} {Q : Exit → St → Prop} {s : St}
/-- A call that is lent arrays which must stay where they stand. -/
theorem AWpL_callP (π : List Nat) {f : FuncId} {xs : List Opd} {dst : Option Nat} {gs : List GOp} {rg0 : List Reg} {args : List AV} {Post : List Reg → AV → Prop} (hs : SpecK P f rg0 args Post) (hl : lent s π = rg0) (ha : (xs.map fun x => renA π (s.ev x)) = args)
    (hd : dstOk E.n dst = true) (hπ : piOk s.rg.length π = true)
    (h : ∀ rg x, Post rg x → π.length ≤ rg.length ∧ AWpL P E Q gs (retS s π dst rg x)) : AWpL P E Q (⟨dst, none, .call f xs⟩ :: gs) s := fun ops l hl' a w hrel => by
  subst hl; subst ha
  obtain ⟨o, l', rfl, h1, h2⟩ := gops_cons hl'
  obtain ⟨ρ, ok, hr⟩ := hrel
  obtain ⟨hc, hdst, hg⟩ := gop_guard h1
  rcases hg with ⟨hg0, _⟩ | ⟨_, _, _, _, _, hg⟩
  case inr => cases hg
  unfold wpList
  rw [if_pos (wanted_none hg0 _)]
  left
  obtain ⟨_, vals, hv, hrun⟩ := call_inv (a := a) (w := w) hc
  unfold Oper.wp
  rw [hrun]
  refine upon_enter hdst.symm ?_
  obtain ⟨hinj, hlt⟩ := piOk_inj hπ
  refine (hs w (pl π ρ) ok vals (hr.mem.ren hinj hlt) (by rw [hv]; exact args_ren hr π xs)).mono ?_
  rintro e w' ⟨rg, x, v, ρ', ok', rfl, hp, hm, hx, k1, k2, k3, k4⟩
  obtain ⟨h5, h6⟩ := h rg x hp
  have hplen : (lent s π).length = π.length := List.length_map _
  have hr' : RelM { E with pin := fun _ => none } s a w ρ ok := ⟨hr.mem, hr.tm, hr.siz, hr.dfr, hr.kps, hr.bas, hr.ownr, hr.okr, fun r p h => by cases h⟩
  have hcore := ret_core (E := { E with pin := fun _ => none }) hr' hπ (fun r _ => .inr rfl) hd hm hx k1 h5 k2 k3 fun r hb hlt' => by
    have hreg : (lent s π)[r]? = some (renR π (s.reg (π.getD r 0))) := map_getD π _ r hlt'
    cases hg : s.reg (π.getD r 0) with
    | box e cs =>
      have hbox := (hr.mem.ren hinj hlt).reg r (renR π (s.reg (π.getD r 0))) hreg
      rw [hg] at hbox
      obtain ⟨b, C, h7, _⟩ := hbox
      rw [h7]
      exact k4 r _ (by rw [hplen]; exact hlt') h7
    | arr => rw [hg] at hb; cases hb
    | tab => rw [hg] at hb; cases hb
    | dead => rw [hg] at hb; cases hb
  refine ⟨v, rfl, h6 ops l' h2 _ _ ⟨_, _, ⟨hcore.mem, hcore.tm, hcore.siz, hcore.dfr, hcore.kps, hcore.bas, hcore.ownr, hcore.okr, fun r p hpr => ?_⟩⟩⟩
  have hold := hr.pin r p hpr
  have hrl : r < s.rg.length := by
    rcases Nat.lt_or_ge r s.rg.length with h1 | h1
    · exact h1
    · rw [hr.mem.out r h1] at hold; cases hold
  show (if r < s.rg.length then _ else _) = _
  rw [if_pos hrl]
  cases hq : pos π r with
  | none => exact hold
  | some i => exact k4 i p (by rw [hplen]; exact (List.getElem?_eq_some_iff.1 (pos_get hq)).1) (by rw [pl_of hq]; exact hold)
end
set_option maxRecDepth 100000 in
set_option maxHeartbeats 4000000 in
theorem s54 (l : List Ale) (z : Int) (hl : l.length ≤ 12) (ht : Tim l) : SpecK Try.prog 54 [.arr 48 3 (l.map alc)] [.hnd 0 0 l.length l.length false, I 0, I l.length, I z, .fn 36 []]
    (fun rg v => ∃ l', Srt l l' ∧ rg = [.arr 48 3 (l'.map alc)] ∧ v = .tup []) := by
  refine SpecK.regsW k54 rfl rfl fun E hn hnp hp => ?_
  unfold a54
  refine AWp.ofD [] [] hn mixed rfl ?_
  simp (config := { maxSteps := 2000000 }) only [go_sem, ↓reduceIte, Int.reduceToNat, Nat.reduceMul, Int.reduceBEq, Int.reduceBNe, Nat.reduceBEq, Nat.reduceAdd, Nat.reduceSub, Nat.reduceLeDiff, Nat.reduceEqDiff, Nat.reduceLT, reduceCtorEq]
  refine AWp.loop (fun k s => k = 0 ∧ Weak E s ⟨[(0, .hnd 0 0 l.length l.length false), (1, I 0), (2, I l.length), (4, .fn 36 [])], [.arr 48 3 (l.map alc)]⟩) (n := 0)
    ⟨rfl, weak_to [0] hp hnp rfl (by simp (config := { maxSteps := 2000000 }) only [go_sem, ↓reduceIte, Int.reduceToNat, Nat.reduceMul, Int.reduceBEq, Int.reduceBNe, Nat.reduceBEq, Nat.reduceAdd, Nat.reduceSub, Nat.reduceLeDiff, Nat.reduceEqDiff, Nat.reduceLT, reduceCtorEq, Aw.pos]) (by simp (config := { maxSteps := 2000000 }) only [go_sem, ↓reduceIte, Int.reduceToNat, Nat.reduceMul, Int.reduceBEq, Int.reduceBNe, Nat.reduceBEq, Nat.reduceAdd, Nat.reduceSub, Nat.reduceLeDiff, Nat.reduceEqDiff, Nat.reduceLT, reduceCtorEq, Aw.renR, Aw.pos])⟩ ?_
  rintro k s ⟨rfl, hw⟩
  refine AWp.weak hw (AWp.ofD [999] [] hn mixed rfl ?_)
  have e1 : IntKind.i64.wrap ((l.length : Int) - 0) = l.length := by rw [w64 (by omega) (by omega)]; omega
  have e2 : decide ((l.length : Int) ≤ 12) = true := decide_eq_true (by omega)
  simp (config := { maxSteps := 2000000 }) only [go_sem, ↓reduceIte, Int.reduceToNat, Nat.reduceMul, Int.reduceBEq, Int.reduceBNe, Nat.reduceBEq, Nat.reduceAdd, Nat.reduceSub, Nat.reduceLeDiff, Nat.reduceEqDiff, Nat.reduceLT, reduceCtorEq, e1, e2]
  refine AWpL_callP [0] (s62 l hl ht) rfl rfl (by rw [hn]; rfl) rfl fun rg v hv => ?_
  obtain ⟨l', hs, rfl, rfl⟩ := hv
  refine ⟨Nat.le_refl _, AWpL.ofM hn rfl ?_⟩
  simp (config := { maxSteps := 2000000 }) only [go_sem, ↓reduceIte, Int.reduceToNat, Nat.reduceMul, Int.reduceBEq, Int.reduceBNe, Nat.reduceBEq, Nat.reduceAdd, Nat.reduceSub, Nat.reduceLeDiff, Nat.reduceEqDiff, Nat.reduceLT, reduceCtorEq, Aw.retS, Aw.retRg, Aw.kpM, Aw.bkM, Aw.pos, Aw.isBox]
  refine Retn.ret (π := [0]) hp hnp ⟨rfl, ?_⟩
  simp (config := { maxSteps := 2000000 }) only [go_sem, ↓reduceIte, Int.reduceToNat, Nat.reduceMul, Int.reduceBEq, Int.reduceBNe, Nat.reduceBEq, Nat.reduceAdd, Nat.reduceSub, Nat.reduceLeDiff, Nat.reduceEqDiff, Nat.reduceLT, reduceCtorEq, Aw.renR, Aw.pos]
  exact ⟨l', hs, rfl⟩
set_option maxRecDepth 100000 in
theorem s35 (l : List Ale) (hl : l.length ≤ 12) (ht : Tim l) : SpecK Try.prog 35 [.arr 48 3 (l.map alc)] [.hnd 0 0 l.length l.length false, .val (.func (.func 36) #[] #[])]
    (fun rg v => ∃ l', Srt l l' ∧ rg = [.arr 48 3 (l'.map alc)] ∧ v = .tup []) := by
  refine SpecK.regsW k35 rfl rfl fun E hn hnp hp => ?_
  unfold a35
  have e1 : IntKind.u64.wrap (l.length : Int) = (l.length : Int) := IntWalk.u64_in _ ⟨by omega, by omega⟩
  refine AWp.ofD [] [] hn mixed rfl ?_
  simp (config := { maxSteps := 2000000 }) only [go_sem, ↓reduceIte, Int.reduceToNat, Nat.reduceMul, Int.reduceBEq, Int.reduceBNe, Nat.reduceBEq, Nat.reduceAdd, Nat.reduceSub, Nat.reduceLeDiff, Nat.reduceEqDiff, Nat.reduceLT, reduceCtorEq, e1]
  (refine AWpL.calle (s33 (l.length : Int) (by omega) (by omega)) rfl (by rw [hn]; rfl) (by simp (config := { maxSteps := 2000000 }) only [go_sem, ↓reduceIte, Int.reduceToNat, Nat.reduceMul, Int.reduceBEq, Int.reduceBNe, Nat.reduceBEq, Nat.reduceAdd, Nat.reduceSub, Nat.reduceLeDiff, Nat.reduceEqDiff, Nat.reduceLT, reduceCtorEq]) (AWpL.ofM hn rfl ?_); simp (config := { maxSteps := 2000000 }) only [go_sem, ↓reduceIte, Int.reduceToNat, Nat.reduceMul, Int.reduceBEq, Int.reduceBNe, Nat.reduceBEq, Nat.reduceAdd, Nat.reduceSub, Nat.reduceLeDiff, Nat.reduceEqDiff, Nat.reduceLT, reduceCtorEq])
  refine AWpL.weak (weak_ent 12 (y := .fn 36 []) (by rfl) (entOfn _)) ?_
  refine AWpL_callP [0] (s54 l (Lib.bitLen (l.length : Int).toNat) hl ht) rfl rfl (by rw [hn]; rfl) rfl fun rg v hv => ?_
  obtain ⟨l', hs, rfl, rfl⟩ := hv
  refine ⟨Nat.le_refl _, AWpL.ofM hn rfl ?_⟩
  simp (config := { maxSteps := 2000000 }) only [go_sem, ↓reduceIte, Int.reduceToNat, Nat.reduceMul, Int.reduceBEq, Int.reduceBNe, Nat.reduceBEq, Nat.reduceAdd, Nat.reduceSub, Nat.reduceLeDiff, Nat.reduceEqDiff, Nat.reduceLT, reduceCtorEq, Aw.retS, Aw.retRg, Aw.kpM, Aw.bkM, Aw.pos, Aw.isBox]
  refine Retn.normal (π := [0]) hp hnp ⟨rfl, ?_⟩
  simp (config := { maxSteps := 2000000 }) only [go_sem, ↓reduceIte, Int.reduceToNat, Nat.reduceMul, Int.reduceBEq, Int.reduceBNe, Nat.reduceBEq, Nat.reduceAdd, Nat.reduceSub, Nat.reduceLeDiff, Nat.reduceEqDiff, Nat.reduceLT, reduceCtorEq, Aw.renR, Aw.pos]
  exact ⟨l', hs, rfl⟩
end Go.Proofs.Ytoickofcmngdjaa
