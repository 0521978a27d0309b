/- Telemetry: Take. -/
import Derived.Test.YtfbddidlipeegaaAwZg
import Derived.Test.YtfbddidlipeegaaTemG
set_option linter.unusedVariables false
set_option linter.unusedSimpArgs false
namespace Go.Proofs.Ytfbddidlipeegaa
open Go.Proofs.Ytfbddidlipeegaa.Aw
attribute [local go_sem] Int.natCast_zero Int.natCast_one bne_self_eq_false beq_self_eq_true Bool.not_true Bool.not_false Option.isSome_none Option.isSome_some Aw.bkM_nil Option.getD_some Option.getD_none Nat.sub_zero Int.toNat_zero Aw.frzS Aw.frzT Aw.frzA Aw.frzL Aw.frzR Aw.frzO Aw.frzOL Aw.frzOT Aw.frzOR Aw.killS Aw.mapT Aw.mapR Aw.killM Aw.resAVs Aw.resAV Aw.quietOps Aw.wpP Aw.wpT Aw.wpS Aw.AOp.mild List.getElem?_cons_zero List.getElem?_cons_succ Bool.and_false Bool.and_self Bool.false_and Aw.opOb Aw.gdB Aw.Rnd Aw.subTm List.length_map Int.toNat_natCast and_self Aw.SeqC Aw.stops Aw.Ends Aw.looks Aw.renA Aw.renL Aw.renT Aw.renS Aw.wpO Aw.aop Aw.putTm Aw.St.ev Aw.St.put Aw.St.putO Aw.binAV Aw.intBin Aw.strBin Aw.pickAV Aw.optInt Aw.AV.strip Aw.AV.guard Aw.AV.cells Aw.gdOb Aw.AOp.opds Aw.AOp.still Aw.ptrCells Aw.St.reg Aw.fillAV Aw.fillOb Aw.elsOb Aw.splice Aw.firm Aw.cellish Aw.AV.shut Aw.shutAll Aw.Seq Aw.Blk Aw.retS_nil Aw.mapA Aw.mapL Aw.borA Aw.borOb Aw.allOb Aw.tupOf Aw.params Aw.Opd.of Array.toList Value.cells List.map_cons List.map_nil List.getD_cons_zero List.getD_cons_succ List.getD_nil List.length_cons List.length_nil List.take_succ_cons List.take_zero List.take_nil List.drop_zero List.drop_succ_cons List.drop_nil List.set_cons_zero List.set_cons_succ List.append_nil List.nil_append List.cons_append List.all_cons List.all_nil cond_false cond_true if_true if_false true_and and_true Bool.and_true Bool.true_and Option.map_some Option.map_none false_implies forall_const implies_true forall_eq imp_self Bool.cond_false_right Bool.cond_true_left beq_true beq_false Bool.not_eq_true' Bool.false_eq_true Nat.zero_add Nat.add_zero Aw.eqCells Aw.exactCap Aw.revealS Aw.srcEls Aw.srcSz
attribute [local go_sem ↓] Aw.look_nil Aw.look_ite Aw.wpL_nil Aw.wpL_op Aw.wpL_gd Aw.wpQ_nil Aw.wpQ_op Aw.wpQ_gd Aw.wpC_draw Aw.wpC_reg Aw.wpC_skip Aw.wpC_ret Aw.wpC_exit Aw.wpC_seq Aw.wpC_block Aw.wpC_loop Aw.wpC_cond Aw.stopAt_nil Aw.stopAt_cons Aw.wpD_skip Aw.wpD_ret Aw.wpD_exit Aw.wpD_region Aw.wpD_draw Aw.wpM_nil Aw.wpM_op Aw.wpM_gd Aw.wpD_seq Aw.wpD_block Aw.wpD_loop Aw.wpD_cond
/- (*gridhall/telemetry.Points).Take -/
def a7 : ACode :=
  (.seq (.region false [] [
     ⟨(some 3), none, (.box 29 (.t 1))⟩,
     ⟨(some 4), none, (.mov (.v (.bool false)))⟩,
     ⟨(some 5), none, (.mov (.v (.int .i64 0)))⟩])
  (.seq (.seq (.region false [] [
     ⟨(some 9), none, (.load 4 true (.t 3))⟩,
     ⟨(some 10), none, (.call 13 [(.t 9)])⟩,
     ⟨(some 6), none, (.mov (.t 10))⟩])
  (.seq (.region false [] [
     ⟨(some 11), none, (.mov (.t 6))⟩,
     ⟨(some 12), none, (.bin .neq 24 (.t 11) (.v (.int .i64 0)))⟩])
  (.cond (.t 12)
    (.seq (.region false [] [
       ⟨(some 13), none, (.mov (.t 6))⟩,
       ⟨(some 4), none, (.mov (.v (.bool false)))⟩,
       ⟨(some 5), none, (.mov (.t 13))⟩])
    .ret)
    .skip)))
  (.seq (.region false [] [
     ⟨(some 15), none, (.mov (.t 0))⟩,
     ⟨(some 16), none, (.fld 0 (.t 3))⟩,
     ⟨(some 17), none, (.load 1 false (.t 16))⟩,
     ⟨(some 18), none, (.call 14 [(.t 15), (.t 17)])⟩,
     ⟨(some 14), none, (.mov (.t 18))⟩,
     ⟨(some 19), none, (.ext 0 (.t 14))⟩,
     ⟨(some 20), none, (.ext 1 (.t 14))⟩,
     ⟨(some 7), none, (.mov (.t 19))⟩,
     ⟨(some 8), none, (.mov (.t 20))⟩])
  (.seq (.block 0 (.seq (.region false [] [
      ⟨(some 22), none, (.mov (.t 8))⟩,
      ⟨(some 23), none, (.un .not (.t 22))⟩,
      ⟨(some 24), none, (.mov (.t 23))⟩,
      ⟨(some 25), (some (24, true)), (.mov (.t 0))⟩,
      ⟨(some 26), (some (24, true)), (.nilc (.t 25))⟩,
      ⟨(some 27), (some (24, true)), (.fld 1 (.t 26))⟩,
      ⟨(some 28), (some (24, true)), (.load 1 false (.t 27))⟩,
      ⟨(some 29), (some (24, true)), (.len (.t 28))⟩,
      ⟨(some 30), (some (24, true)), (.bin .eql 3 (.t 29) (.v (.int .i64 24)))⟩,
      ⟨(some 31), none, (.pick (.t 24) (.t 30) (.v (.bool false)))⟩,
      ⟨(some 21), none, (.mov (.t 31))⟩])
   (.cond (.t 21)
     (.seq (.region false [] [
        ⟨(some 4), none, (.mov (.v (.bool false)))⟩,
        ⟨(some 5), none, (.mov (.v (.int .i64 9)))⟩])
     .ret)
     (.seq (.region false [] [
        ⟨(some 33), none, (.mov (.t 8))⟩,
        ⟨(some 34), none, (.un .not (.t 33))⟩,
        ⟨(some 32), none, (.mov (.t 34))⟩])
     (.cond (.t 32)
       (.seq (.region true [[], [], [1], [2], [3], [], [], [6], [4, 5, 7], [0, 0, 1, 2, 3, 4, 5, 6, 7, 8], [9, 0, 1, 2, 3, 4, 5, 6, 7, 8], [10, 8, 8, 0, 1, 2, 3, 4, 5, 6, 7, 8]] [
          ⟨(some 35), none, (.mov (.t 0))⟩,
          ⟨(some 36), none, (.mov (.t 0))⟩,
          ⟨(some 37), none, (.nilc (.t 36))⟩,
          ⟨(some 38), none, (.fld 1 (.t 37))⟩,
          ⟨(some 39), none, (.load 1 false (.t 38))⟩,
          ⟨(some 40), none, (.mov (.t 7))⟩,
          ⟨(some 41), none, (.load 4 true (.t 3))⟩,
          ⟨(some 42), none, (.bsl 29 4 1 [(0, (.t 41))])⟩,
          ⟨(some 43), none, (.call 15 [(.t 39), (.t 40), (.t 42)])⟩,
          ⟨(some 44), none, (.nilc (.t 35))⟩,
          ⟨(some 45), none, (.fld 1 (.t 44))⟩,
          ⟨none, none, (.store 1 (.t 45) (.t 43))⟩])
       (.seq (.region true [[], [], [1], [2], [3], [], [], [6], [7], [8], [4, 5, 9], [0, 0, 1, 2, 3, 4, 5, 6, 7, 8, 9, 10], [11, 0, 1, 2, 3, 4, 5, 6, 7, 8, 9, 10], [12, 10, 10, 0, 1, 2, 3, 4, 5, 6, 7, 8, 9, 10]] [
          ⟨(some 46), none, (.mov (.t 0))⟩,
          ⟨(some 47), none, (.mov (.t 0))⟩,
          ⟨(some 48), none, (.nilc (.t 47))⟩,
          ⟨(some 49), none, (.fld 2 (.t 48))⟩,
          ⟨(some 50), none, (.load 1 false (.t 49))⟩,
          ⟨(some 51), none, (.mov (.t 7))⟩,
          ⟨(some 52), none, (.fld 1 (.t 3))⟩,
          ⟨(some 53), none, (.load 1 false (.t 52))⟩,
          ⟨(some 54), none, (.bin .sub 3 (.t 53) (.v (.int .i64 1)))⟩,
          ⟨(some 55), none, (.bsl 3 1 1 [(0, (.t 54))])⟩,
          ⟨(some 56), none, (.call 16 [(.t 50), (.t 51), (.t 55)])⟩,
          ⟨(some 57), none, (.nilc (.t 46))⟩,
          ⟨(some 58), none, (.fld 2 (.t 57))⟩,
          ⟨none, none, (.store 1 (.t 58) (.t 56))⟩])
       (.seq (.region false [] [
          ⟨(some 4), none, (.mov (.v (.bool true)))⟩,
          ⟨(some 5), none, (.mov (.v (.int .i64 0)))⟩])
       .ret)))
       (.seq (.region true [[], [0], [], [2], [3], [4], [], [5, 6], [7], [8], [1, 9], [10]] [
          ⟨(some 60), none, (.fld 1 (.t 3))⟩,
          ⟨(some 61), none, (.load 1 false (.t 60))⟩,
          ⟨(some 62), none, (.mov (.t 0))⟩,
          ⟨(some 63), none, (.nilc (.t 62))⟩,
          ⟨(some 64), none, (.fld 1 (.t 63))⟩,
          ⟨(some 65), none, (.load 1 false (.t 64))⟩,
          ⟨(some 66), none, (.mov (.t 7))⟩,
          ⟨(some 67), none, (.idx 4 (.t 65) (.t 66))⟩,
          ⟨(some 68), none, (.fld 1 (.t 67))⟩,
          ⟨(some 69), none, (.load 1 false (.t 68))⟩,
          ⟨(some 70), none, (.bin .leq 3 (.t 61) (.t 69))⟩,
          ⟨(some 59), none, (.mov (.t 70))⟩])
       (.cond (.t 59)
         (.seq (.region false [] [
            ⟨(some 4), none, (.mov (.v (.bool false)))⟩,
            ⟨(some 5), none, (.mov (.v (.int .i64 0)))⟩])
         .ret)
         (.seq (.region true [[], [0], [], [2], [3], [4], [], [5, 6], [7], [8], [1, 9], [10]] [
            ⟨(some 72), none, (.fld 2 (.t 3))⟩,
            ⟨(some 73), none, (.load 1 false (.t 72))⟩,
            ⟨(some 74), none, (.mov (.t 0))⟩,
            ⟨(some 75), none, (.nilc (.t 74))⟩,
            ⟨(some 76), none, (.fld 1 (.t 75))⟩,
            ⟨(some 77), none, (.load 1 false (.t 76))⟩,
            ⟨(some 78), none, (.mov (.t 7))⟩,
            ⟨(some 79), none, (.idx 4 (.t 77) (.t 78))⟩,
            ⟨(some 80), none, (.fld 2 (.t 79))⟩,
            ⟨(some 81), none, (.load 1 false (.t 80))⟩,
            ⟨(some 82), none, (.bin .lss 3 (.t 73) (.t 81))⟩,
            ⟨(some 71), none, (.mov (.t 82))⟩])
         (.cond (.t 71)
           (.seq (.region false [] [
              ⟨(some 4), none, (.mov (.v (.bool false)))⟩,
              ⟨(some 5), none, (.mov (.v (.int .i64 12)))⟩])
           .ret)
           .skip)))))))))
  (.seq (.region true [[], [0], [1], [2], [], [3, 4], [5], [], [7], [], [9], [10], [11], [], [12, 13], [14], [15], [8, 16], [17], [6, 18], [3, 4, 0, 1, 2, 3, 4, 5, 6, 7, 8, 9, 10, 11, 12, 13, 14, 15, 16, 17, 18, 19], [20, 19, 0, 1, 2, 3, 4, 5, 6, 7, 8, 9, 10, 11, 12, 13, 14, 15, 16, 17, 18, 19]] [
     ⟨(some 83), none, (.mov (.t 0))⟩,
     ⟨(some 84), none, (.nilc (.t 83))⟩,
     ⟨(some 85), none, (.fld 2 (.t 84))⟩,
     ⟨(some 86), none, (.load 1 false (.t 85))⟩,
     ⟨(some 87), none, (.mov (.t 7))⟩,
     ⟨(some 88), none, (.idx 1 (.t 86) (.t 87))⟩,
     ⟨(some 89), none, (.load 1 false (.t 88))⟩,
     ⟨(some 90), none, (.fld 1 (.t 3))⟩,
     ⟨(some 91), none, (.load 1 false (.t 90))⟩,
     ⟨(some 92), none, (.mov (.t 0))⟩,
     ⟨(some 93), none, (.nilc (.t 92))⟩,
     ⟨(some 94), none, (.fld 1 (.t 93))⟩,
     ⟨(some 95), none, (.load 1 false (.t 94))⟩,
     ⟨(some 96), none, (.mov (.t 7))⟩,
     ⟨(some 97), none, (.idx 4 (.t 95) (.t 96))⟩,
     ⟨(some 98), none, (.fld 1 (.t 97))⟩,
     ⟨(some 99), none, (.load 1 false (.t 98))⟩,
     ⟨(some 100), none, (.bin .sub 3 (.t 91) (.t 99))⟩,
     ⟨(some 101), none, (.bin .sub 3 (.t 100) (.v (.int .i64 1)))⟩,
     ⟨(some 102), none, (.bin .add 3 (.t 89) (.t 101))⟩,
     ⟨(some 103), none, (.idx 1 (.t 86) (.t 87))⟩,
     ⟨none, none, (.store 1 (.t 103) (.t 102))⟩])
  (.seq (.region true [[], [0], [1], [2], [], [], [3, 4, 0, 1, 2, 3, 4, 5], [6, 5, 0, 1, 2, 3, 4, 5]] [
     ⟨(some 104), none, (.mov (.t 0))⟩,
     ⟨(some 105), none, (.nilc (.t 104))⟩,
     ⟨(some 106), none, (.fld 1 (.t 105))⟩,
     ⟨(some 107), none, (.load 1 false (.t 106))⟩,
     ⟨(some 108), none, (.mov (.t 7))⟩,
     ⟨(some 109), none, (.load 4 true (.t 3))⟩,
     ⟨(some 110), none, (.idx 4 (.t 107) (.t 108))⟩,
     ⟨none, none, (.store 4 (.t 110) (.t 109))⟩])
  (.seq (.region false [] [
     ⟨(some 4), none, (.mov (.v (.bool true)))⟩,
     ⟨(some 5), none, (.mov (.v (.int .i64 0)))⟩])
  .ret)))))))
theorem k7 : FnIs Try.prog 7 111 [.t 4, .t 5] a7 := ⟨_, _, Try.func7, rfl, by kernel_rfl, by kernel_rfl, rfl⟩

/-- The points: how long a value is good, the newest messages, how many numbers were skipped. -/
structure Tk where
  age : Int
  ps : List Msg
  sk : List Int
abbrev tkR (d : Tk) : List Reg := [.box 42 [I d.age, .hnd 1 0 d.ps.length d.ps.length false, .hnd 2 0 d.sk.length d.sk.length false], .arr 29 4 (d.ps.map mc), .arr 3 1 (d.sk.map ic)]
structure TkOk (d : Tk) : Prop where
  few : d.ps.length ≤ 24
  sor : Sorted d.ps
  par : d.sk.length = d.ps.length
/-- The newest message of m's point. -/
def tkQ (d : Tk) (m : Msg) : Msg := d.ps.getD (lbS d.ps m.pt) default
/-- What Take answers. -/
def takA (d : Tk) (m : Msg) : Bool × Int :=
  if telChk m ≠ 0 then (false, telChk m) else if fdS d.ps m.pt = false then (if d.ps.length = 24 then (false, 9) else (true, 0))
  else if m.num ≤ (tkQ d m).num then (false, 0) else if m.time < (tkQ d m).time then (false, 12) else (true, 0)
def takD (d : Tk) (m : Msg) : Tk :=
  if telChk m ≠ 0 then d else if fdS d.ps m.pt = false then (if d.ps.length = 24 then d else ⟨d.age, insL d.ps (lbS d.ps m.pt) m, insL d.sk (lbS d.ps m.pt) (IntKind.i64.wrap (m.num - 1))⟩)
  else if m.num ≤ (tkQ d m).num then d else if m.time < (tkQ d m).time then d
  else ⟨d.age, d.ps.set (lbS d.ps m.pt) m, d.sk.set (lbS d.ps m.pt) (IntKind.i64.wrap (d.sk.getD (lbS d.ps m.pt) 0 + IntKind.i64.wrap (IntKind.i64.wrap (m.num - (tkQ d m).num) - 1)))⟩
theorem lbS_le (l : List Msg) (x : ByteArray) : lbS l x ≤ l.length := by
  unfold lbS; exact (List.takeWhile_sublist _).length_le
set_option maxRecDepth 20000 in
theorem s7 (d : Tk) (m : Msg) (hd : TkOk d) (hs : m.pt.size ≤ 9223372036854775807) :
    Aw.Spec Try.prog 7 (tkR d) [.ptr 0 0 0, ma m] (fun rg v => rg = tkR (takD d m) ∧ v = .tup [B (takA d m).1, I (takA d m).2]) := by
  refine Aw.Spec.regsD k7 mixed rfl rfl rfl fun E hn hnp hp => ?_
  replace hnp : E.np = 3 := hnp
  unfold a7
  have h1 := hd.few
  have h2 := hd.par
  have hlb := lbS_le d.ps m.pt
  have htk : (d.ps.map mc).take d.ps.length = d.ps.map mc := List.take_of_length_le (by simp)
  have hA : takA d m = if telChk m ≠ 0 then (false, telChk m) else if fdS d.ps m.pt = false then (if d.ps.length = 24 then (false, 9) else (true, 0))
    else if m.num ≤ (tkQ d m).num then (false, 0) else if m.time < (tkQ d m).time then (false, 12) else (true, 0) := rfl
  have hD : takD d m = if telChk m ≠ 0 then d else if fdS d.ps m.pt = false then (if d.ps.length = 24 then d else ⟨d.age, insL d.ps (lbS d.ps m.pt) m, insL d.sk (lbS d.ps m.pt) (IntKind.i64.wrap (m.num - 1))⟩)
    else if m.num ≤ (tkQ d m).num then d else if m.time < (tkQ d m).time then d
    else ⟨d.age, d.ps.set (lbS d.ps m.pt) m, d.sk.set (lbS d.ps m.pt) (IntKind.i64.wrap (d.sk.getD (lbS d.ps m.pt) 0 + IntKind.i64.wrap (IntKind.i64.wrap (m.num - (tkQ d m).num) - 1)))⟩ := rfl
  simp (config := { maxSteps := 2000000 }) only [go_sem, ↓reduceIte, Int.reduceToNat, Nat.reduceMul, Int.reduceBEq, Int.reduceBNe, Nat.reduceBEq, Nat.reduceAdd, Nat.reduceSub, Nat.reduceLeDiff, Nat.reduceEqDiff, Nat.reduceLT, reduceCtorEq, tkR]
  (refine AWpL.calle (s13 m hs) rfl (by rw [hn]; rfl) (by simp (config := { maxSteps := 2000000 }) only [go_sem, ↓reduceIte, Int.reduceToNat, Nat.reduceMul, Int.reduceBEq, Int.reduceBNe, Nat.reduceBEq, Nat.reduceAdd, Nat.reduceSub, Nat.reduceLeDiff, Nat.reduceEqDiff, Nat.reduceLT, reduceCtorEq]) (AWpL.ofM hn rfl ?_); simp (config := { maxSteps := 2000000 }) only [go_sem, ↓reduceIte, Int.reduceToNat, Nat.reduceMul, Int.reduceBEq, Int.reduceBNe, Nat.reduceBEq, Nat.reduceAdd, Nat.reduceSub, Nat.reduceLeDiff, Nat.reduceEqDiff, Nat.reduceLT, reduceCtorEq])
  simp only [bne_iff_ne, ne_eq, bne_eq_false_iff_eq]
  refine ⟨fun h3 => ?_, fun h3 => ?_⟩
  · rw [if_pos h3] at hA hD
    rw [hA, hD]
    refine Retn.ret (π := [0, 1, 2]) hp hnp ⟨rfl, ?_⟩
    simp (config := { maxSteps := 2000000 }) only [go_sem, ↓reduceIte, Int.reduceToNat, Nat.reduceMul, Int.reduceBEq, Int.reduceBNe, Nat.reduceBEq, Nat.reduceAdd, Nat.reduceSub, Nat.reduceLeDiff, Nat.reduceEqDiff, Nat.reduceLT, reduceCtorEq, Aw.renR, Aw.pos]
  rw [if_neg (by simp [h3])] at hA hD
  refine AWpL.calleA (s14 d.age none false d.ps (.imm none false 1 ((d.sk.map ic).take d.sk.length)) m.pt (by omega) hd.sor) (by simp (config := { maxSteps := 2000000 }) only [go_sem, ↓reduceIte, Int.reduceToNat, Nat.reduceMul, Int.reduceBEq, Int.reduceBNe, Nat.reduceBEq, Nat.reduceAdd, Nat.reduceSub, Nat.reduceLeDiff, Nat.reduceEqDiff, Nat.reduceLT, reduceCtorEq, htk]) rfl (by rw [hn]; rfl) (by simp (config := { maxSteps := 2000000 }) only [go_sem, ↓reduceIte, Int.reduceToNat, Nat.reduceMul, Int.reduceBEq, Int.reduceBNe, Nat.reduceBEq, Nat.reduceAdd, Nat.reduceSub, Nat.reduceLeDiff, Nat.reduceEqDiff, Nat.reduceLT, reduceCtorEq, List.length_map]; omega) (AWpL.ofM hn rfl ?_)
  have hkl : fdS d.ps m.pt = true → lbS d.ps m.pt < d.ps.length := fun h => by
    unfold fdS at h
    simp only [Bool.and_eq_true, decide_eq_true_eq] at h
    exact h.1
  have hq0 : tkQ d m = d.ps.getD (lbS d.ps m.pt) default := rfl
  generalize lbS d.ps m.pt = k at *
  cases hf : fdS d.ps m.pt
  · rw [if_pos hf] at hA hD
    by_cases h24 : d.ps.length = 24
    · have e0 : ((d.ps.length : Int) == 24) = true := by simp; omega
      rw [if_pos h24] at hA hD
      rw [hA, hD]
      simp (config := { maxSteps := 2000000 }) only [go_sem, ↓reduceIte, Int.reduceToNat, Nat.reduceMul, Int.reduceBEq, Int.reduceBNe, Nat.reduceBEq, Nat.reduceAdd, Nat.reduceSub, Nat.reduceLeDiff, Nat.reduceEqDiff, Nat.reduceLT, reduceCtorEq, e0]
      refine Retn.ret (π := [0, 1, 2]) hp hnp ⟨rfl, ?_⟩
      simp (config := { maxSteps := 2000000 }) only [go_sem, ↓reduceIte, Int.reduceToNat, Nat.reduceMul, Int.reduceBEq, Int.reduceBNe, Nat.reduceBEq, Nat.reduceAdd, Nat.reduceSub, Nat.reduceLeDiff, Nat.reduceEqDiff, Nat.reduceLT, reduceCtorEq, Aw.renR, Aw.pos]
    have e0 : ((d.ps.length : Int) == 24) = false := by simp; omega
    rw [if_neg h24] at hA hD
    rw [hA, hD]
    simp (config := { maxSteps := 2000000 }) only [go_sem, ↓reduceIte, Int.reduceToNat, Nat.reduceMul, Int.reduceBEq, Int.reduceBNe, Nat.reduceBEq, Nat.reduceAdd, Nat.reduceSub, Nat.reduceLeDiff, Nat.reduceEqDiff, Nat.reduceLT, reduceCtorEq, e0]
    refine AWp.cut ⟨[(0, .ptr 0 0 0), (3, .ptr 3 0 0), (7, I k)], [.box 42 [I d.age, .hnd 1 0 (d.ps.length + 1) (d.ps.length + 1) false, .hnd 2 0 d.sk.length d.sk.length false], .arr 29 4 ((insL d.ps k m).map mc), .arr 3 1 (d.sk.map ic), .box 29 (mc m)]⟩ ?_ ?_
    · refine AWp.plan (.take 1 [true, false, false, false, false, true, true, true, false, false, false, false] (.take 2 [true, true, false, false, false, true, true, true, false, false, false, false] (.take 3 [true, true, true, false, false, true, true, true, false, false, false, false] (.take 4 [true, true, true, true, false, true, true, true, false, false, false, false] (.take 5 [true, true, true, true, true, false, true, true, false, false, false, false] (.take 6 [true, true, true, true, true, true, false, false, false, false, false, false] (.two 0 (.one 7 (.one 8 (.take 9 [true, true, true, true, true, true, true, true, true, false, false, false] (.take 10 [true, true, true, true, true, true, true, true, true, true, false, false] (.one 11 .done))))) 7 (.two 0 (.one 8 (.take 9 [true, true, true, true, true, true, true, true, true, false, false, false] (.take 10 [true, true, true, true, true, true, true, true, true, true, false, false] (.one 11 .done)))) 8 (.take 0 [false, true, true, true, true, true, true, true, true, false, false, false] (.take 9 [true, true, true, true, true, true, true, true, true, false, false, false] (.take 10 [true, true, true, true, true, true, true, true, true, true, false, false] (.one 11 .done)))))))))))) [true, true, true, true, true, true, true, true, false, true, true, false] mixed hn rfl rfl ?_
      simp (config := { maxSteps := 2000000 }) only [go_sem, ↓reduceIte, Int.reduceToNat, Nat.reduceMul, Int.reduceBEq, Int.reduceBNe, Nat.reduceBEq, Nat.reduceAdd, Nat.reduceSub, Nat.reduceLeDiff, Nat.reduceEqDiff, Nat.reduceLT, reduceCtorEq]
      repeat' refine And.intro ?_ ?_
      all_goals
        refine AOne.rule ?_
        refine AWpL.callA [1, 4] (s15 d.ps m k hlb (by omega)) rfl rfl (by rw [hn]; rfl) rfl (fun r hr => by
          rcases List.mem_cons.1 hr with rfl | hr
          · exact .inr (hp.arr 1 rfl)
          · cases List.mem_singleton.1 hr; exact .inr (hp.none hnp (by decide))) fun rg v hv => ?_
        obtain ⟨rfl, rfl⟩ := hv
        refine ⟨Nat.le_refl _, AWpL.ofM hn rfl ?_⟩
        simp (config := { maxSteps := 2000000 }) only [go_sem, ↓reduceIte, Int.reduceToNat, Nat.reduceMul, Int.reduceBEq, Int.reduceBNe, Nat.reduceBEq, Nat.reduceAdd, Nat.reduceSub, Nat.reduceLeDiff, Nat.reduceEqDiff, Nat.reduceLT, reduceCtorEq, Aw.retS, Aw.retRg, Aw.kpM, Aw.bkM, Aw.pos, Aw.isBox]
        refine weak_to [0, 1, 2, 3] hp hnp rfl (by simp (config := { maxSteps := 2000000 }) only [go_sem, ↓reduceIte, Int.reduceToNat, Nat.reduceMul, Int.reduceBEq, Int.reduceBNe, Nat.reduceBEq, Nat.reduceAdd, Nat.reduceSub, Nat.reduceLeDiff, Nat.reduceEqDiff, Nat.reduceLT, reduceCtorEq, Aw.pos]) ?_
        simp (config := { maxSteps := 2000000 }) only [go_sem, ↓reduceIte, Int.reduceToNat, Nat.reduceMul, Int.reduceBEq, Int.reduceBNe, Nat.reduceBEq, Nat.reduceAdd, Nat.reduceSub, Nat.reduceLeDiff, Nat.reduceEqDiff, Nat.reduceLT, reduceCtorEq, Aw.renR, Aw.pos]
    simp (config := { maxSteps := 2000000 }) only [go_sem, ↓reduceIte, Int.reduceToNat, Nat.reduceMul, Int.reduceBEq, Int.reduceBNe, Nat.reduceBEq, Nat.reduceAdd, Nat.reduceSub, Nat.reduceLeDiff, Nat.reduceEqDiff, Nat.reduceLT, reduceCtorEq]
    refine AWp.cut ⟨[(0, .ptr 0 0 0)], [.box 42 [I d.age, .hnd 1 0 (d.ps.length + 1) (d.ps.length + 1) false, .hnd 2 0 (d.sk.length + 1) (d.sk.length + 1) false], .arr 29 4 ((insL d.ps k m).map mc), .arr 3 1 ((insL d.sk k (IntKind.i64.wrap (m.num - 1))).map ic)]⟩ ?_ ?_
    · refine AWp.plan (.take 1 [true, false, false, false, false, true, true, true, true, true, false, false, false, false] (.take 2 [true, true, false, false, false, true, true, true, true, true, false, false, false, false] (.take 3 [true, true, true, false, false, true, true, true, true, true, false, false, false, false] (.take 4 [true, true, true, true, false, true, true, true, true, true, false, false, false, false] (.take 5 [true, true, true, true, true, false, true, true, true, true, false, false, false, false] (.take 6 [true, true, true, true, true, true, false, false, false, false, false, false, false, false] (.take 7 [true, true, true, true, true, true, true, false, false, false, false, false, false, false] (.take 8 [true, true, true, true, true, true, true, true, false, false, false, false, false, false] (.two 0 (.one 9 (.one 10 (.take 11 [true, true, true, true, true, true, true, true, true, true, true, false, false, false] (.take 12 [true, true, true, true, true, true, true, true, true, true, true, true, false, false] (.one 13 .done))))) 9 (.two 0 (.one 10 (.take 11 [true, true, true, true, true, true, true, true, true, true, true, false, false, false] (.take 12 [true, true, true, true, true, true, true, true, true, true, true, true, false, false] (.one 13 .done)))) 10 (.take 0 [false, true, true, true, true, true, true, true, true, true, true, false, false, false] (.take 11 [true, true, true, true, true, true, true, true, true, true, true, false, false, false] (.take 12 [true, true, true, true, true, true, true, true, true, true, true, true, false, false] (.one 13 .done)))))))))))))) [true, true, true, true, true, true, true, true, true, true, false, true, true, false] mixed hn rfl rfl ?_
      simp (config := { maxSteps := 2000000 }) only [go_sem, ↓reduceIte, Int.reduceToNat, Nat.reduceMul, Int.reduceBEq, Int.reduceBNe, Nat.reduceBEq, Nat.reduceAdd, Nat.reduceSub, Nat.reduceLeDiff, Nat.reduceEqDiff, Nat.reduceLT, reduceCtorEq]
      repeat' refine And.intro ?_ ?_
      all_goals
        refine AOne.rule ?_
        refine AWpL.callA [2, 4] (s16 d.sk (IntKind.i64.wrap (m.num - 1)) k (by omega) (by omega)) rfl rfl (by rw [hn]; rfl) rfl (fun r hr => by
          rcases List.mem_cons.1 hr with rfl | hr
          · exact .inr (hp.arr 2 rfl)
          · cases List.mem_singleton.1 hr; exact .inr (hp.none hnp (by decide))) fun rg v hv => ?_
        obtain ⟨rfl, rfl⟩ := hv
        refine ⟨Nat.le_refl _, AWpL.ofM hn rfl ?_⟩
        simp (config := { maxSteps := 2000000 }) only [go_sem, ↓reduceIte, Int.reduceToNat, Nat.reduceMul, Int.reduceBEq, Int.reduceBNe, Nat.reduceBEq, Nat.reduceAdd, Nat.reduceSub, Nat.reduceLeDiff, Nat.reduceEqDiff, Nat.reduceLT, reduceCtorEq, Aw.retS, Aw.retRg, Aw.kpM, Aw.bkM, Aw.pos, Aw.isBox]
        refine weak_to [0, 1, 2] hp hnp rfl (by simp (config := { maxSteps := 2000000 }) only [go_sem, ↓reduceIte, Int.reduceToNat, Nat.reduceMul, Int.reduceBEq, Int.reduceBNe, Nat.reduceBEq, Nat.reduceAdd, Nat.reduceSub, Nat.reduceLeDiff, Nat.reduceEqDiff, Nat.reduceLT, reduceCtorEq, Aw.pos]) ?_
        simp (config := { maxSteps := 2000000 }) only [go_sem, ↓reduceIte, Int.reduceToNat, Nat.reduceMul, Int.reduceBEq, Int.reduceBNe, Nat.reduceBEq, Nat.reduceAdd, Nat.reduceSub, Nat.reduceLeDiff, Nat.reduceEqDiff, Nat.reduceLT, reduceCtorEq, Aw.renR, Aw.pos]
    simp (config := { maxSteps := 2000000 }) only [go_sem, ↓reduceIte, Int.reduceToNat, Nat.reduceMul, Int.reduceBEq, Int.reduceBNe, Nat.reduceBEq, Nat.reduceAdd, Nat.reduceSub, Nat.reduceLeDiff, Nat.reduceEqDiff, Nat.reduceLT, reduceCtorEq]
    refine Retn.ret (π := [0, 1, 2]) hp hnp ⟨rfl, ?_⟩
    simp (config := { maxSteps := 2000000 }) only [go_sem, ↓reduceIte, Int.reduceToNat, Nat.reduceMul, Int.reduceBEq, Int.reduceBNe, Nat.reduceBEq, Nat.reduceAdd, Nat.reduceSub, Nat.reduceLeDiff, Nat.reduceEqDiff, Nat.reduceLT, reduceCtorEq, Aw.renR, Aw.pos, tkR, insL_len hlb, insL_len (h2 ▸ hlb)]
  rw [if_neg (by rw [hf]; decide)] at hA hD
  have hk := hkl hf
  have e1 := getD_mapD default mc hk
  rw [← hq0] at e1
  have hk2 : k < d.sk.length := by omega
  have e2 := getD_mapD (0 : Int) ic hk2
  generalize tkQ d m = q at *
  simp (config := { maxSteps := 2000000 }) only [go_sem, ↓reduceIte, Int.reduceToNat, Nat.reduceMul, Int.reduceBEq, Int.reduceBNe, Nat.reduceBEq, Nat.reduceAdd, Nat.reduceSub, Nat.reduceLeDiff, Nat.reduceEqDiff, Nat.reduceLT, reduceCtorEq, e1]
  (repeat (refine And.intro (by first | omega | (refine ⟨by omega, by omega⟩) | (refine ⟨by omega, by omega, by omega⟩) | (simp only [List.length_map, List.length_range, List.length_append, List.length_cons, List.length_nil, List.length_replicate, List.length_set]; omega) | (simp; omega) | (intro hgd; cases hgd) | (intro hgd; refine ⟨hgd, ?_⟩; first | omega | (refine ⟨by omega, by omega⟩) | (simp; omega))) ?_))
  simp only [decide_eq_true_eq, decide_eq_false_iff_not]
  refine ⟨fun h4 => ?_, fun h4 => ?_⟩
  · rw [if_pos h4] at hA hD
    rw [hA, hD]
    refine Retn.ret (π := [0, 1, 2]) hp hnp ⟨rfl, ?_⟩
    simp (config := { maxSteps := 2000000 }) only [go_sem, ↓reduceIte, Int.reduceToNat, Nat.reduceMul, Int.reduceBEq, Int.reduceBNe, Nat.reduceBEq, Nat.reduceAdd, Nat.reduceSub, Nat.reduceLeDiff, Nat.reduceEqDiff, Nat.reduceLT, reduceCtorEq, Aw.renR, Aw.pos]
  rw [if_neg h4] at hA hD
  (repeat (refine And.intro (by first | omega | (refine ⟨by omega, by omega⟩) | (refine ⟨by omega, by omega, by omega⟩) | (simp only [List.length_map, List.length_range, List.length_append, List.length_cons, List.length_nil, List.length_replicate, List.length_set]; omega) | (simp; omega) | (intro hgd; cases hgd) | (intro hgd; refine ⟨hgd, ?_⟩; first | omega | (refine ⟨by omega, by omega⟩) | (simp; omega))) ?_))
  refine ⟨fun h5 => ?_, fun h5 => ?_⟩
  · rw [if_pos h5] at hA hD
    rw [hA, hD]
    refine Retn.ret (π := [0, 1, 2]) hp hnp ⟨rfl, ?_⟩
    simp (config := { maxSteps := 2000000 }) only [go_sem, ↓reduceIte, Int.reduceToNat, Nat.reduceMul, Int.reduceBEq, Int.reduceBNe, Nat.reduceBEq, Nat.reduceAdd, Nat.reduceSub, Nat.reduceLeDiff, Nat.reduceEqDiff, Nat.reduceLT, reduceCtorEq, Aw.renR, Aw.pos]
  rw [if_neg h5] at hA hD
  rw [hA, hD]
  refine AWp.cut ⟨[(0, .ptr 0 0 0), (3, .ptr 3 0 0), (7, I k)], [.box 42 [I d.age, .hnd 1 0 d.ps.length d.ps.length false, .hnd 2 0 d.sk.length d.sk.length false], .arr 29 4 (d.ps.map mc), .arr 3 1 ((d.sk.set k (IntKind.i64.wrap (d.sk.getD k 0 + IntKind.i64.wrap (IntKind.i64.wrap (m.num - q.num) - 1)))).map ic), .box 29 (mc m)]⟩ ?_ ?_
  · refine AWp.plan (.take 0 [false, false, false, false, true, false, false, true, true, true, true, true, true, true, true, true, true, true, true, false, false, false] (.take 1 [true, false, false, false, true, false, false, true, true, true, true, true, true, true, true, true, true, true, true, false, false, false] (.take 2 [true, true, false, false, true, false, false, true, true, true, true, true, true, true, true, true, true, true, true, false, false, false] (.take 3 [true, true, true, false, true, false, false, true, true, true, true, true, true, true, true, true, true, true, true, false, false, false] (.take 4 [true, true, true, true, false, false, false, true, true, true, true, true, true, true, true, true, true, true, true, false, false, false] (.take 5 [true, true, true, true, true, false, false, true, true, true, true, true, true, true, true, true, true, true, true, false, false, false] (.take 6 [true, true, true, true, true, true, false, true, true, true, true, true, true, true, true, true, true, true, true, false, false, false] (.take 7 [true, true, true, true, true, true, true, false, false, true, true, true, true, true, true, true, true, false, false, false, false, false] (.take 8 [true, true, true, true, true, true, true, true, false, true, true, true, true, true, true, true, true, false, false, false, false, false] (.take 9 [true, true, true, true, true, true, true, true, true, false, false, false, false, true, false, false, false, false, false, false, false, false] (.take 10 [true, true, true, true, true, true, true, true, true, true, false, false, false, true, false, false, false, false, false, false, false, false] (.take 11 [true, true, true, true, true, true, true, true, true, true, true, false, false, true, false, false, false, false, false, false, false, false] (.take 12 [true, true, true, true, true, true, true, true, true, true, true, true, false, true, false, false, false, false, false, false, false, false] (.take 13 [true, true, true, true, true, true, true, true, true, true, true, true, true, false, false, false, false, false, false, false, false, false] (.take 14 [true, true, true, true, true, true, true, true, true, true, true, true, true, true, false, false, false, false, false, false, false, false] (.take 15 [true, true, true, true, true, true, true, true, true, true, true, true, true, true, true, false, false, false, false, false, false, false] (.take 16 [true, true, true, true, true, true, true, true, true, true, true, true, true, true, true, true, false, false, false, false, false, false] (.take 17 [true, true, true, true, true, true, true, true, true, true, true, true, true, true, true, true, true, false, false, false, false, false] (.take 18 [true, true, true, true, true, true, true, true, true, true, true, true, true, true, true, true, true, true, false, false, false, false] (.take 19 [true, true, true, true, true, true, true, true, true, true, true, true, true, true, true, true, true, true, true, false, false, false] (.take 20 [true, true, true, true, true, true, true, true, true, true, true, true, true, true, true, true, true, true, true, true, false, false] (.one 21 .done)))))))))))))))))))))) [true, true, true, true, true, true, true, true, true, true, true, true, true, true, true, true, true, true, true, true, true, false] mixed hn rfl rfl ?_
    simp (config := { maxSteps := 2000000 }) only [go_sem, ↓reduceIte, Int.reduceToNat, Nat.reduceMul, Int.reduceBEq, Int.reduceBNe, Nat.reduceBEq, Nat.reduceAdd, Nat.reduceSub, Nat.reduceLeDiff, Nat.reduceEqDiff, Nat.reduceLT, reduceCtorEq, e1, e2]
    (repeat (refine And.intro (by first | omega | (refine ⟨by omega, by omega⟩) | (refine ⟨by omega, by omega, by omega⟩) | (simp only [List.length_map, List.length_range, List.length_append, List.length_cons, List.length_nil, List.length_replicate, List.length_set]; omega) | (simp; omega) | (intro hgd; cases hgd) | (intro hgd; refine ⟨hgd, ?_⟩; first | omega | (refine ⟨by omega, by omega⟩) | (simp; omega))) ?_))
    have e5 := List.map_set (f := ic) (l := d.sk) (i := k) (a := IntKind.i64.wrap (d.sk.getD k 0 + IntKind.i64.wrap (IntKind.i64.wrap (m.num - q.num) - 1)))
    refine weak_to [0, 1, 2, 3] hp hnp rfl (by simp (config := { maxSteps := 2000000 }) only [go_sem, ↓reduceIte, Int.reduceToNat, Nat.reduceMul, Int.reduceBEq, Int.reduceBNe, Nat.reduceBEq, Nat.reduceAdd, Nat.reduceSub, Nat.reduceLeDiff, Nat.reduceEqDiff, Nat.reduceLT, reduceCtorEq, Aw.pos]) ?_
    simp (config := { maxSteps := 2000000 }) only [go_sem, ↓reduceIte, Int.reduceToNat, Nat.reduceMul, Int.reduceBEq, Int.reduceBNe, Nat.reduceBEq, Nat.reduceAdd, Nat.reduceSub, Nat.reduceLeDiff, Nat.reduceEqDiff, Nat.reduceLT, reduceCtorEq, Aw.renR, Aw.pos]
    rw [e5]
  simp (config := { maxSteps := 2000000 }) only [go_sem, ↓reduceIte, Int.reduceToNat, Nat.reduceMul, Int.reduceBEq, Int.reduceBNe, Nat.reduceBEq, Nat.reduceAdd, Nat.reduceSub, Nat.reduceLeDiff, Nat.reduceEqDiff, Nat.reduceLT, reduceCtorEq]
  refine AWp.cut ⟨[(0, .ptr 0 0 0)], tkR ⟨d.age, d.ps.set k m, d.sk.set k (IntKind.i64.wrap (d.sk.getD k 0 + IntKind.i64.wrap (IntKind.i64.wrap (m.num - q.num) - 1)))⟩⟩ ?_ ?_
  · refine AWp.plan (.take 0 [false, false, false, false, true, true, false, false] (.take 1 [true, false, false, false, true, true, false, false] (.take 2 [true, true, false, false, true, true, false, false] (.take 3 [true, true, true, false, true, true, false, false] (.take 4 [true, true, true, true, false, true, false, false] (.take 5 [true, true, true, true, true, false, false, false] (.take 6 [true, true, true, true, true, true, false, false] (.one 7 .done)))))))) [true, true, true, true, true, true, true, false] mixed hn rfl rfl ?_
    simp (config := { maxSteps := 2000000 }) only [go_sem, ↓reduceIte, Int.reduceToNat, Nat.reduceMul, Int.reduceBEq, Int.reduceBNe, Nat.reduceBEq, Nat.reduceAdd, Nat.reduceSub, Nat.reduceLeDiff, Nat.reduceEqDiff, Nat.reduceLT, reduceCtorEq]
    (repeat (refine And.intro (by first | omega | (refine ⟨by omega, by omega⟩) | (refine ⟨by omega, by omega, by omega⟩) | (simp only [List.length_map, List.length_range, List.length_append, List.length_cons, List.length_nil, List.length_replicate, List.length_set]; omega) | (simp; omega) | (intro hgd; cases hgd) | (intro hgd; refine ⟨hgd, ?_⟩; first | omega | (refine ⟨by omega, by omega⟩) | (simp; omega))) ?_))
    refine weak_to [0, 1, 2] hp hnp rfl (by simp (config := { maxSteps := 2000000 }) only [go_sem, ↓reduceIte, Int.reduceToNat, Nat.reduceMul, Int.reduceBEq, Int.reduceBNe, Nat.reduceBEq, Nat.reduceAdd, Nat.reduceSub, Nat.reduceLeDiff, Nat.reduceEqDiff, Nat.reduceLT, reduceCtorEq, Aw.pos]) ?_
    simp (config := { maxSteps := 2000000 }) only [go_sem, ↓reduceIte, Int.reduceToNat, Nat.reduceMul, Int.reduceBEq, Int.reduceBNe, Nat.reduceBEq, Nat.reduceAdd, Nat.reduceSub, Nat.reduceLeDiff, Nat.reduceEqDiff, Nat.reduceLT, reduceCtorEq, Aw.renR, Aw.pos]
    rw [e1]
    simp only [tkR, List.length_set, List.map_set]
    rfl
  simp (config := { maxSteps := 2000000 }) only [go_sem, ↓reduceIte, Int.reduceToNat, Nat.reduceMul, Int.reduceBEq, Int.reduceBNe, Nat.reduceBEq, Nat.reduceAdd, Nat.reduceSub, Nat.reduceLeDiff, Nat.reduceEqDiff, Nat.reduceLT, reduceCtorEq]
  refine Retn.ret (π := [0, 1, 2]) hp hnp ⟨rfl, ?_⟩
  simp (config := { maxSteps := 2000000 }) only [go_sem, ↓reduceIte, Int.reduceToNat, Nat.reduceMul, Int.reduceBEq, Int.reduceBNe, Nat.reduceBEq, Nat.reduceAdd, Nat.reduceSub, Nat.reduceLeDiff, Nat.reduceEqDiff, Nat.reduceLT, reduceCtorEq, Aw.renR, Aw.pos]
end Go.Proofs.Ytfbddidlipeegaa
