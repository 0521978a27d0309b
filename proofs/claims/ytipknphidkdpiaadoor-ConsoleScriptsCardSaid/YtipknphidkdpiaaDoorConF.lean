/- The console: scripts. -/
import Derived.Test.YtipknphidkdpiaaDoorAwZl
import Derived.Test.YtipknphidkdpiaaDoorAwZm
import Derived.Test.YtipknphidkdpiaaDoorConE
set_option linter.unusedVariables false
set_option linter.unusedSimpArgs false
namespace Go.Proofs.YtipknphidkdpiaaDoor
open Go.Proofs.YtipknphidkdpiaaDoor.Aw
attribute [local go_sem] Int.natCast_zero Int.natCast_one bne_self_eq_false beq_self_eq_true Bool.not_true Bool.not_false Option.isSome_none Option.isSome_some Aw.bkM_nil Option.getD_some Option.getD_none Nat.sub_zero Int.toNat_zero Aw.frzS Aw.frzT Aw.frzA Aw.frzL Aw.frzR Aw.frzO Aw.frzOL Aw.frzOT Aw.frzOR Aw.killS Aw.mapT Aw.mapR Aw.killM Aw.resAVs Aw.resAV Aw.quietOps Aw.wpP Aw.wpT Aw.wpS Aw.AOp.mild List.getElem?_cons_zero List.getElem?_cons_succ Bool.and_false Bool.and_self Bool.false_and Aw.opOb Aw.gdB Aw.Rnd Aw.subTm List.length_map Int.toNat_natCast and_self Aw.SeqC Aw.stops Aw.Ends Aw.looks Aw.renA Aw.renL Aw.renT Aw.renS Aw.wpO Aw.aop Aw.putTm Aw.St.ev Aw.St.put Aw.St.putO Aw.binAV Aw.intBin Aw.strBin Aw.pickAV Aw.optInt Aw.AV.strip Aw.AV.guard Aw.AV.cells Aw.gdOb Aw.AOp.opds Aw.AOp.still Aw.ptrCells Aw.St.reg Aw.fillAV Aw.fillOb Aw.elsOb Aw.splice Aw.firm Aw.cellish Aw.AV.shut Aw.shutAll Aw.Seq Aw.Blk Aw.retS_nil Aw.mapA Aw.mapL Aw.borA Aw.borOb Aw.allOb Aw.tupOf Aw.params Aw.Opd.of Array.toList Value.cells List.map_cons List.map_nil List.getD_cons_zero List.getD_cons_succ List.getD_nil List.length_cons List.length_nil List.take_succ_cons List.take_zero List.take_nil List.drop_zero List.drop_succ_cons List.drop_nil List.set_cons_zero List.set_cons_succ List.append_nil List.nil_append List.cons_append List.all_cons List.all_nil cond_false cond_true if_true if_false true_and and_true Bool.and_true Bool.true_and Option.map_some Option.map_none false_implies forall_const implies_true forall_eq imp_self Bool.cond_false_right Bool.cond_true_left beq_true beq_false Bool.not_eq_true' Bool.false_eq_true Nat.zero_add Nat.add_zero Aw.eqCells Aw.stopDraw Aw.skipS Aw.exactCap Aw.revealS Aw.srcEls Aw.srcSz
attribute [local go_sem ↓] Aw.look_nil Aw.look_ite Aw.wpL_nil Aw.wpL_op Aw.wpL_gd Aw.wpQ_nil Aw.wpQ_op Aw.wpQ_gd Aw.wpC_draw Aw.wpC_reg Aw.wpC_skip Aw.wpC_ret Aw.wpC_exit Aw.wpC_seq Aw.wpC_block Aw.wpC_loop Aw.wpC_cond Aw.stopAt_nil Aw.stopAt_cons Aw.wpD_skip Aw.wpD_ret Aw.wpD_exit Aw.wpD_region Aw.wpD_draw Aw.wpM_nil Aw.wpM_op Aw.wpM_gd Aw.wpD_seq Aw.wpD_block Aw.wpD_loop Aw.wpD_cond
/- gridhall/console.Script -/
def a10 : ACode :=
  (.seq (.region false [] [
     ⟨(some 4), none, (.mov (.v (.slice none 0 0)))⟩,
     ⟨(some 5), none, (.mov (.v (.int .i64 0)))⟩,
     ⟨(some 6), none, (.mov (.v (.int .i64 0)))⟩])
  (.seq (.block 0 (.seq (.region false [] [
      ⟨(some 15), none, (.mov (.t 0))⟩,
      ⟨(some 16), none, (.lens (.t 15))⟩,
      ⟨(some 17), none, (.bin .gtr 3 (.t 16) (.v (.int .i64 8192)))⟩,
      ⟨(some 14), none, (.mov (.t 17))⟩])
   (.cond (.t 14)
     (.seq (.region false [] [
        ⟨(some 4), none, (.mov (.v (.slice none 0 0)))⟩,
        ⟨(some 5), none, (.mov (.v (.int .i64 0)))⟩,
        ⟨(some 6), none, (.mov (.v (.int .i64 2)))⟩])
     .ret)
     (.seq (.region false [] [
        ⟨(some 19), none, (.mov (.t 1))⟩,
        ⟨(some 20), none, (.bin .lss 3 (.t 19) (.v (.int .i64 0)))⟩,
        ⟨(some 21), none, (.mov (.t 20))⟩,
        ⟨(some 22), (some (21, false)), (.mov (.t 1))⟩,
        ⟨(some 23), (some (21, false)), (.bin .gtr 3 (.t 22) (.v (.int .i64 200000)))⟩,
        ⟨(some 24), none, (.pick (.t 21) (.v (.bool true)) (.t 23))⟩,
        ⟨(some 18), none, (.mov (.t 24))⟩])
     (.cond (.t 18)
       (.seq (.region false [] [
          ⟨(some 4), none, (.mov (.v (.slice none 0 0)))⟩,
          ⟨(some 5), none, (.mov (.v (.int .i64 0)))⟩,
          ⟨(some 6), none, (.mov (.v (.int .i64 12)))⟩])
       .ret)
       .skip)))))
  (.seq (.region false [] [
     ⟨(some 25), none, (.mov (.t 0))⟩,
     ⟨(some 26), none, (.call 15 [(.t 25), (.v (.string ⟨#[10]⟩))])⟩,
     ⟨(some 7), none, (.mov (.t 26))⟩])
  (.seq (.region false [] [
     ⟨(some 27), none, (.mov (.t 7))⟩,
     ⟨(some 28), none, (.len (.t 27))⟩,
     ⟨(some 29), none, (.bin .sub 3 (.t 28) (.v (.int .i64 1)))⟩,
     ⟨(some 8), none, (.mov (.t 29))⟩])
  (.seq (.seq (.region false [] [
     ⟨(some 30), none, (.mov (.t 7))⟩,
     ⟨(some 31), none, (.mov (.t 8))⟩,
     ⟨(some 32), none, (.idx 1 (.t 30) (.t 31))⟩,
     ⟨(some 33), none, (.load 1 false (.t 32))⟩,
     ⟨(some 34), none, (.bin .neq 9 (.t 33) (.v (.string ⟨#[]⟩)))⟩])
  (.cond (.t 34)
    (.seq (.region false [] [
       ⟨(some 35), none, (.mov (.t 8))⟩,
       ⟨(some 4), none, (.mov (.v (.slice none 0 0)))⟩,
       ⟨(some 5), none, (.mov (.t 35))⟩,
       ⟨(some 6), none, (.mov (.v (.int .i64 5)))⟩])
    .ret)
    .skip))
  (.seq (.region false [] [
     ⟨(some 9), none, (.mov (.v (.slice none 0 0)))⟩])
  (.seq (.seq (.region false [] [
     ⟨(some 36), none, (.mov (.t 7))⟩,
     ⟨(some 37), none, (.mov (.t 8))⟩,
     ⟨(some 38), none, (.slc 1 (.t 36) none (some (.t 37)) none)⟩,
     ⟨(some 39), none, (.len (.t 38))⟩,
     ⟨(some 40), none, (.mov (.v (.int .i64 0)))⟩])
  (.block 1 (.loop (.seq (.region false [] [
       ⟨(some 41), none, (.bin .lss 3 (.t 40) (.t 39))⟩])
    (.seq (.cond (.t 41)
      .skip
      (.exit 1))
    (.seq (.block 2 (.seq (.region false [] [
        ⟨(some 42), none, (.mov (.t 40))⟩,
        ⟨(some 43), none, (.idx 1 (.t 38) (.t 40))⟩,
        ⟨(some 44), none, (.load 1 false (.t 43))⟩,
        ⟨(some 10), none, (.mov (.t 42))⟩,
        ⟨(some 11), none, (.mov (.t 44))⟩])
     (.seq (.region false [] [
        ⟨(some 46), none, (.mov (.t 11))⟩,
        ⟨(some 47), none, (.call 6 [(.t 46)])⟩,
        ⟨(some 45), none, (.mov (.t 47))⟩,
        ⟨(some 48), none, (.ext 0 (.t 45))⟩,
        ⟨(some 49), none, (.ext 1 (.t 45))⟩,
        ⟨(some 12), none, (.alloc 23 (.agg #[(.string ⟨#[]⟩), (.string ⟨#[]⟩), (.int .i64 0)]))⟩,
        ⟨none, none, (.store 3 (.t 12) (.t 48))⟩,
        ⟨(some 13), none, (.mov (.t 49))⟩])
     (.seq (.seq (.region false [] [
        ⟨(some 50), none, (.mov (.t 13))⟩,
        ⟨(some 51), none, (.bin .eql 24 (.t 50) (.v (.int .i64 0)))⟩,
        ⟨(some 52), none, (.mov (.t 51))⟩,
        ⟨(some 53), (some (52, true)), (.fld 0 (.t 12))⟩,
        ⟨(some 54), (some (52, true)), (.load 1 false (.t 53))⟩,
        ⟨(some 55), (some (52, true)), (.bin .eql 9 (.t 54) (.v (.string ⟨#[119, 97, 105, 116]⟩)))⟩,
        ⟨(some 56), none, (.pick (.t 52) (.t 55) (.v (.bool false)))⟩])
     (.cond (.t 56)
       (.seq (.region false [] [
          ⟨(some 57), none, (.mov (.t 1))⟩,
          ⟨(some 58), none, (.fld 2 (.t 12))⟩,
          ⟨(some 59), none, (.load 1 false (.t 58))⟩,
          ⟨(some 60), none, (.bin .add 3 (.t 57) (.t 59))⟩,
          ⟨(some 1), none, (.mov (.t 60))⟩])
       (.seq (.region false [] [
          ⟨(some 61), none, (.mov (.t 1))⟩,
          ⟨(some 62), none, (.bin .gtr 3 (.t 61) (.v (.int .i64 200000)))⟩])
       (.cond (.t 62)
         (.region false [] [
            ⟨(some 13), none, (.mov (.v (.int .i64 12)))⟩])
         .skip)))
       .skip))
     (.seq (.seq (.region false [] [
        ⟨(some 63), none, (.mov (.t 13))⟩,
        ⟨(some 64), none, (.bin .neq 24 (.t 63) (.v (.int .i64 0)))⟩])
     (.cond (.t 64)
       (.seq (.region false [] [
          ⟨(some 65), none, (.mov (.t 10))⟩,
          ⟨(some 66), none, (.mov (.t 13))⟩,
          ⟨(some 4), none, (.mov (.v (.slice none 0 0)))⟩,
          ⟨(some 5), none, (.mov (.t 65))⟩,
          ⟨(some 6), none, (.mov (.t 66))⟩])
       .ret)
       .skip))
     (.seq (.region false [] [
        ⟨(some 67), none, (.fld 0 (.t 12))⟩,
        ⟨(some 68), none, (.load 1 false (.t 67))⟩,
        ⟨(some 69), none, (.bin .neq 9 (.t 68) (.v (.string ⟨#[119, 97, 105, 116]⟩)))⟩,
        ⟨(some 70), none, (.mov (.t 69))⟩,
        ⟨(some 71), (some (70, true)), (.fld 0 (.t 12))⟩,
        ⟨(some 72), (some (70, true)), (.load 1 false (.t 71))⟩,
        ⟨(some 73), (some (70, true)), (.bin .neq 9 (.t 72) (.v (.string ⟨#[116, 101, 108, 108]⟩)))⟩,
        ⟨(some 74), none, (.pick (.t 70) (.t 73) (.v (.bool false)))⟩])
     (.cond (.t 74)
       (.region false [] [
          ⟨(some 75), none, (.mov (.t 9))⟩,
          ⟨(some 76), none, (.mov (.t 1))⟩,
          ⟨(some 77), none, (.fld 0 (.t 12))⟩,
          ⟨(some 78), none, (.load 1 false (.t 77))⟩,
          ⟨(some 79), none, (.fld 1 (.t 12))⟩,
          ⟨(some 80), none, (.load 1 false (.t 79))⟩,
          ⟨(some 81), none, (.fld 2 (.t 12))⟩,
          ⟨(some 82), none, (.load 1 false (.t 81))⟩,
          ⟨(some 83), none, (.build (.agg #[(.int .i64 0), (.string ⟨#[]⟩), (.string ⟨#[]⟩), (.int .i64 0)]) [(0, (1, (.t 76))), (1, (1, (.t 78))), (2, (1, (.t 80))), (3, (1, (.t 82)))])⟩,
          ⟨(some 84), none, (.bsl 36 4 1 [(0, (.t 83))])⟩,
          ⟨(some 85), none, (.app 36 4 48 (.agg #[(.int .i64 0), (.string ⟨#[]⟩), (.string ⟨#[]⟩), (.int .i64 0)]) (.t 75) (.t 84))⟩,
          ⟨(some 9), none, (.mov (.t 85))⟩])
       .skip)))))))
    (.region false [] [
       ⟨(some 86), none, (.bin .add 3 (.t 40) (.v (.int .i64 1)))⟩,
       ⟨(some 40), none, (.mov (.t 86))⟩])))))))
  (.seq (.region false [] [
     ⟨(some 87), none, (.mov (.t 9))⟩,
     ⟨(some 4), none, (.mov (.t 87))⟩,
     ⟨(some 5), none, (.mov (.v (.int .i64 0)))⟩,
     ⟨(some 6), none, (.mov (.v (.int .i64 0)))⟩])
  .ret))))))))
theorem k10 : FnIs Tryd.prog 10 88 [.t 4, .t 5, .t 6] a10 := ⟨_, _, Tryd.func10, rfl, by kernel_rfl, by kernel_rfl, rfl⟩

structure Ev where
  time : Int
  kind : ByteArray
  name : ByteArray
  value : Int
abbrev ec (e : Ev) : List AV := [I e.time, S e.kind, S e.name, I e.value]
def waitB : ByteArray := ⟨#[119, 97, 105, 116]⟩
def tellB : ByteArray := ⟨#[116, 101, 108, 108]⟩
/-- The events so far, and the time. -/
def stepS (x : List Ev × Int) (c : Cmd) : List Ev × Int :=
  if (c.verb.toList == waitB.toList) = true then (x.1, x.2 + c.n)
  else if (c.verb.toList == tellB.toList) = true then x else (x.1 ++ [⟨x.2, c.verb, c.name, c.n⟩], x.2)
def evsF (t0 : Int) (L : List Cmd) : List Ev × Int := L.foldl stepS ([], t0)
def txtC (c : Cmd) : ByteArray := textF (findV c.verb).1 c
def linesR : List Cmd → ByteArray
  | [] => ⟨#[]⟩
  | c :: L => txtC c ++ ⟨#[10]⟩ ++ linesR L
theorem lines_snoc (L : List Cmd) (c : Cmd) : linesR (L ++ [c]) = linesR L ++ (txtC c ++ ⟨#[10]⟩) := by
  induction L with
  | nil =>
    show txtC c ++ ⟨#[10]⟩ ++ ⟨#[]⟩ = ⟨#[]⟩ ++ (txtC c ++ ⟨#[10]⟩)
    refine lst_inj ?_
    simp [lst_app, lst]
  | cons d L ih =>
    show txtC d ++ ⟨#[10]⟩ ++ linesR (L ++ [c]) = txtC d ++ ⟨#[10]⟩ ++ linesR L ++ (txtC c ++ ⟨#[10]⟩)
    rw [ih, ByteArray.append_assoc (a := txtC d ++ ⟨#[10]⟩)]
theorem txt_no10 {c : Cmd} (h : checkF c = 0) : (10 : UInt8) ∉ lst (txtC c) := by
  have hp := parts_no h (b := 10) (.inr rfl)
  have key : ∀ l : List ByteArray, (∀ p ∈ l, (10 : UInt8) ∉ lst p) → (10 : UInt8) ∉ lst (joinS 32 l) := by
    intro l
    induction l with
    | nil => intro _; exact List.not_mem_nil
    | cons x l ih =>
      intro h
      cases l with
      | nil => exact h x List.mem_cons_self
      | cons y l =>
        show (10 : UInt8) ∉ lst (x ++ ⟨#[32]⟩ ++ joinS 32 (y :: l))
        rw [lst_app, lst_app, lst_one]
        intro hm
        rcases List.mem_append.1 hm with hm | hm
        · rcases List.mem_append.1 hm with hm | hm
          · exact h x List.mem_cons_self hm
          · exact absurd hm (by decide)
        · exact ih (fun p hp => h p (List.mem_cons_of_mem _ hp)) hm
  unfold txtC
  rw [text_join]
  exact key _ hp
theorem lines_split {L : List Cmd} (h : ∀ c ∈ L, checkF c = 0) {z : ByteArray} (hz : (10 : UInt8) ∉ lst z) : splitS (linesR L ++ z) 10 = L.map txtC ++ [z] := by
  induction L with
  | nil =>
    show splitS (⟨#[]⟩ ++ z) 10 = [z]
    rw [show (⟨#[]⟩ : ByteArray) ++ z = z from ByteArray.empty_append]
    exact sp_miss hz
  | cons c L ih =>
    show splitS (txtC c ++ ⟨#[10]⟩ ++ linesR L ++ z) 10 = txtC c :: (L.map txtC ++ [z])
    rw [ByteArray.append_assoc (a := txtC c ++ ⟨#[10]⟩), sp_hit (txt_no10 (h c List.mem_cons_self)), ih fun d hd => h d (List.mem_cons_of_mem _ hd)]
theorem lines_count {L : List Cmd} (h : ∀ c ∈ L, checkF c = 0) : (lst (linesR L)).count 10 = L.length := by
  induction L with
  | nil => rfl
  | cons c L ih =>
    show (lst (txtC c ++ ⟨#[10]⟩ ++ linesR L)).count 10 = _
    rw [lst_app, lst_app, lst_one, List.count_append, List.count_append, ih fun d hd => h d (List.mem_cons_of_mem _ hd), List.count_eq_zero.2 (txt_no10 (h c List.mem_cons_self)), List.length_cons]
    simp; omega
theorem lines_size {L : List Cmd} (h : ∀ c ∈ L, checkF c = 0) : (linesR L).size ≤ 101 * L.length := by
  induction L with
  | nil => exact Nat.le_refl _
  | cons c L ih =>
    have h1 := text_size (h c List.mem_cons_self)
    have h2 := ih fun d hd => h d (List.mem_cons_of_mem _ hd)
    have h3 : (⟨#[10]⟩ : ByteArray).size = 1 := rfl
    show (txtC c ++ ⟨#[10]⟩ ++ linesR L).size ≤ _
    rw [ByteArray.size_append, ByteArray.size_append, List.length_cons]
    unfold txtC
    omega
theorem evs_succ (t0 : Int) {L : List Cmd} {i : Nat} (h : i < L.length) : evsF t0 (L.take (i + 1)) = stepS (evsF t0 (L.take i)) L[i] := by
  unfold evsF
  rw [take_get h, List.foldl_append]; rfl
theorem wait_n {c : Cmd} (h : checkF c = 0) (hw : (c.verb.toList == waitB.toList) = true) : 0 ≤ c.n ∧ c.n ≤ 3600 := by
  obtain ⟨h1, h2, h3, h4, h5, h6⟩ := check_of h
  rw [beq_iff_eq, Lib.toList_data, Lib.toList_data] at hw
  have hv : c.verb = waitB := lst_inj hw
  rw [hv] at h5 h6
  have e1 : (findV waitB).1.least = 0 := by decide +kernel
  have e2 : (findV waitB).1.most = 3600 := by decide +kernel
  rw [e1] at h5
  rw [e2] at h6
  exact ⟨h5, h6⟩
theorem step_bound {x : List Ev × Int} {c : Cmd} {i : Nat} {t0 : Int} (h : checkF c = 0) (h1 : x.1.length ≤ i) (h2 : t0 ≤ x.2) (h3 : x.2 ≤ t0 + 3600 * i) : (stepS x c).1.length ≤ i + 1 ∧ t0 ≤ (stepS x c).2 ∧ (stepS x c).2 ≤ t0 + 3600 * ((i + 1 : Nat) : Int) := by
  unfold stepS
  split
  · rename_i hw
    have := wait_n h hw
    dsimp only
    refine ⟨by omega, by omega, by omega⟩
  · split
    · refine ⟨by omega, by omega, by omega⟩
    · dsimp only
      rw [List.length_append, List.length_singleton]
      refine ⟨by omega, by omega, by omega⟩
theorem evs_bound (t0 : Int) {L : List Cmd} (h : ∀ c ∈ L, checkF c = 0) : ∀ i, i ≤ L.length → (evsF t0 (L.take i)).1.length ≤ i ∧ t0 ≤ (evsF t0 (L.take i)).2 ∧ (evsF t0 (L.take i)).2 ≤ t0 + 3600 * (i : Int)
  | 0, _ => by
    rw [List.take_zero]
    exact ⟨Nat.le_refl _, Int.le_refl _, by show t0 ≤ t0 + 3600 * ((0 : Nat) : Int); omega⟩
  | i + 1, hi => by
    rw [evs_succ t0 (by omega)]
    obtain ⟨h1, h2, h3⟩ := evs_bound t0 h i (by omega)
    exact step_bound (h _ (List.getElem_mem (by omega))) h1 h2 h3
theorem script_facts {L : List Cmd} (z : ByteArray) (hlen : L.length ≤ 10) : ∃ Ls : List ByteArray, L.map txtC ++ [z] = Ls ∧ Ls.length = L.length + 1 ∧ IntKind.i64.wrap ((Ls.length : Int) - 1) = (L.length : Int) ∧ (Ls.map sc).getD L.length [] = sc z ∧
    (Ls.map sc).take L.length = (L.map txtC).map sc := by
  refine ⟨_, rfl, by simp, ?_, ?_, ?_⟩
  · rw [show (L.map txtC ++ [z]).length = L.length + 1 by simp, w64 (by omega) (by omega)]; omega
  · rw [List.map_append, List.getD_eq_getElem?_getD, List.getElem?_append_right (by simp)]
    simp
  · rw [List.map_append, List.take_left' (by simp)]
set_option maxRecDepth 20000 in
set_option maxHeartbeats 1000000 in
theorem b10 {Γ : List (Nat × Array Value)} (L : List Cmd) (hL : ∀ c ∈ L, checkF c = 0) (hlen : L.length ≤ 10) (t0 : Int) (h0 : 0 ≤ t0) (h1 : t0 ≤ 1000) :
    Aw.SpecG Γ Tryd.prog 10 [] [S (linesR L ++ tellB), I t0] (Gives (· = .tup [.val (.slice none 0 0), I L.length, I 5])) := by
  refine SpecG.shut (Post := fun rg v => v = .tup [.val (.slice none 0 0), I L.length, I 5]) ?_ fun rg v h => by subst h; exact ⟨rfl, rfl, rfl⟩
  refine Aw.SpecG.regsW k10 rfl rfl fun E hn hnp hp hT => ?_
  unfold a10
  have pin : ∀ r, E.pin r = none := fun r => hp.none hnp (Nat.zero_le _)
  have hz := lines_size hL
  have ht4 : tellB.size = 4 := rfl
  have hs : (linesR L ++ tellB).size ≤ 8192 := by rw [ByteArray.size_append]; omega
  have hsp := lines_split hL (z := tellB) (by decide)
  generalize linesR L ++ tellB = T at *
  have g0 : decide ((T.size : Int) > 8192) = false := decide_eq_false (by omega)
  have g1 : decide (t0 < 0) = false := decide_eq_false (by omega)
  have g2 : decide (t0 > 200000) = false := decide_eq_false (by omega)
  obtain ⟨Ls, q0, q1, q2, q3, q4⟩ := script_facts (L := L) tellB hlen
  rw [q0] at hsp
  clear q0
  refine AWp.ofD [1, 2, 999] [] hn mixed rfl ?_
  simp (config := { maxSteps := 2000000 }) only [go_sem, ↓reduceIte, Int.reduceToNat, Nat.reduceMul, Int.reduceBEq, Int.reduceBNe, Nat.reduceBEq, Nat.reduceAdd, Nat.reduceSub, Nat.reduceLeDiff, Nat.reduceEqDiff, Nat.reduceLT, reduceCtorEq, g0, g1, g2]
  refine AWpL.callA [] (s15 T 10 (by omega)) rfl rfl (by rw [hn]; rfl) rfl (fun r hr => by cases hr) fun rg v hv => ?_
  obtain ⟨rfl, rfl⟩ := hv
  refine ⟨Nat.zero_le _, ?_⟩
  rw [retS_nil, hsp]
  refine AWpL.ofM hn rfl ?_
  have g3 : (tellB.toList == (⟨#[]⟩ : ByteArray).toList) = false := by decide +kernel
  simp (config := { maxSteps := 2000000 }) only [go_sem, ↓reduceIte, Int.reduceToNat, Nat.reduceMul, Int.reduceBEq, Int.reduceBNe, Nat.reduceBEq, Nat.reduceAdd, Nat.reduceSub, Nat.reduceLeDiff, Nat.reduceEqDiff, Nat.reduceLT, reduceCtorEq, q2, q3, g3]
  refine ⟨⟨by omega, by omega⟩, ?_⟩
  refine Retn.ret (π := []) hp hnp ⟨rfl, ?_⟩
  simp (config := { maxSteps := 2000000 }) only [go_sem, ↓reduceIte, Int.reduceToNat, Nat.reduceMul, Int.reduceBEq, Int.reduceBNe, Nat.reduceBEq, Nat.reduceAdd, Nat.reduceSub, Nat.reduceLeDiff, Nat.reduceEqDiff, Nat.reduceLT, reduceCtorEq, Aw.renR, Aw.pos]
set_option maxRecDepth 20000 in
set_option maxHeartbeats 1000000 in
theorem s10 {Γ : List (Nat × Array Value)} {e1 e2 : Value} (hP : powT ∈ Γ) (hE : Errs Γ e1 e2) (L : List Cmd) (hL : ∀ c ∈ L, checkF c = 0) (hlen : L.length ≤ 10) (t0 : Int) (h0 : 0 ≤ t0) (h1 : t0 ≤ 1000) :
    Aw.SpecG Γ Tryd.prog 10 [] [S (linesR L), I t0] (fun rg v => rg = [] ∧ v = .tup [.imm none false 4 ((evsF t0 L).1.map ec), I 0, I 0]) := by
  refine Aw.SpecG.regsW k10 rfl rfl fun E hn hnp hp hT => ?_
  unfold a10
  have pin : ∀ r, E.pin r = none := fun r => hp.none hnp (Nat.zero_le _)
  have hz := lines_size hL
  have hs : (linesR L).size ≤ 8192 := by omega
  have hsp := lines_split hL (z := ⟨#[]⟩) (by decide)
  rw [show linesR L ++ ⟨#[]⟩ = linesR L from ByteArray.append_empty] at hsp
  generalize linesR L = T at *
  have g0 : decide ((T.size : Int) > 8192) = false := decide_eq_false (by omega)
  have g1 : decide (t0 < 0) = false := decide_eq_false (by omega)
  have g2 : decide (t0 > 200000) = false := decide_eq_false (by omega)
  obtain ⟨Ls, q0, q1, q2, q3, q4⟩ := script_facts (L := L) ⟨#[]⟩ hlen
  rw [q0] at hsp
  clear q0
  refine AWp.ofD [1, 2, 999] [] hn mixed rfl ?_
  simp (config := { maxSteps := 2000000 }) only [go_sem, ↓reduceIte, Int.reduceToNat, Nat.reduceMul, Int.reduceBEq, Int.reduceBNe, Nat.reduceBEq, Nat.reduceAdd, Nat.reduceSub, Nat.reduceLeDiff, Nat.reduceEqDiff, Nat.reduceLT, reduceCtorEq, g0, g1, g2]
  refine AWpL.callA [] (s15 T 10 (by omega)) rfl rfl (by rw [hn]; rfl) rfl (fun r hr => by cases hr) fun rg v hv => ?_
  obtain ⟨rfl, rfl⟩ := hv
  refine ⟨Nat.zero_le _, ?_⟩
  rw [retS_nil, hsp]
  refine AWpL.ofM hn rfl ?_
  simp (config := { maxSteps := 2000000 }) only [go_sem, ↓reduceIte, Int.reduceToNat, Nat.reduceMul, Int.reduceBEq, Int.reduceBNe, Nat.reduceBEq, Nat.reduceAdd, Nat.reduceSub, Nat.reduceLeDiff, Nat.reduceEqDiff, Nat.reduceLT, reduceCtorEq, q2, q3, beq_self_eq_true]
  refine ⟨⟨by omega, by omega⟩, ⟨by omega, by omega, by omega⟩, ?_⟩
  rw [q4]
  refine AWp.weak (weak_nil 9 36 4 rfl) ?_
  simp (config := { maxSteps := 2000000 }) only [go_sem, ↓reduceIte, Int.reduceToNat, Nat.reduceMul, Int.reduceBEq, Int.reduceBNe, Nat.reduceBEq, Nat.reduceAdd, Nat.reduceSub, Nat.reduceLeDiff, Nat.reduceEqDiff, Nat.reduceLT, reduceCtorEq]
  refine AWp.cut ⟨[(9, .hnd 0 0 (evsF t0 L).1.length (evsF t0 L).1.length false)], [.arr 36 4 ((evsF t0 L).1.map ec)]⟩ (AWp.block ?_) ?_
  · refine AWp.loop (fun k st => ∃ i : Nat, i + k = L.length ∧
        Weak E st ⟨[(1, I (evsF t0 (L.take i)).2), (9, .hnd 0 0 (evsF t0 (L.take i)).1.length (evsF t0 (L.take i)).1.length false), (38, .imm none false 1 ((L.map txtC).map sc)), (39, I L.length), (40, I i)], [.arr 36 4 ((evsF t0 (L.take i)).1.map ec)]⟩) (n := L.length)
      ⟨0, by omega, weak_to [0] hp hnp rfl (by simp (config := { maxSteps := 2000000 }) only [go_sem, ↓reduceIte, Int.reduceToNat, Nat.reduceMul, Int.reduceBEq, Int.reduceBNe, Nat.reduceBEq, Nat.reduceAdd, Nat.reduceSub, Nat.reduceLeDiff, Nat.reduceEqDiff, Nat.reduceLT, reduceCtorEq, Aw.pos] <;> exact ⟨rfl, rfl⟩) (by simp (config := { maxSteps := 2000000 }) only [go_sem, ↓reduceIte, Int.reduceToNat, Nat.reduceMul, Int.reduceBEq, Int.reduceBNe, Nat.reduceBEq, Nat.reduceAdd, Nat.reduceSub, Nat.reduceLeDiff, Nat.reduceEqDiff, Nat.reduceLT, reduceCtorEq, Aw.renR, Aw.pos] <;> rfl)⟩ ?_
    rintro k st ⟨i, hik, hw⟩
    refine AWp.weak hw (AWp.ofD [999] [] hn mixed rfl ?_)
    rcases Nat.lt_or_ge i L.length with hlt | hge
    · have d0 : decide ((i : Int) < (L.length : Int)) = true := decide_eq_true (by omega)
      have hlt' : i < (L.map txtC).length := by rw [List.length_map]; exact hlt
      have d1 : ((L.map txtC).map sc).getD i [] = sc (txtC L[i]) := by rw [getD_map sc hlt', List.getElem_map]
      have d2 : IntKind.i64.wrap ((i : Int) + 1) = ((i + 1 : Nat) : Int) := by rw [w64 (by omega) (by omega)]; rfl
      have hck := hL L[i] (List.getElem_mem hlt)
      have hst := evs_succ t0 hlt
      obtain ⟨b1, b2, b3⟩ := evs_bound t0 hL i (by omega)
      have hpa := s6 (Γ := Γ) hP hE (txtC L[i]) (by have := text_size hck; unfold txtC; omega)
      have hpp : parseF (txtC L[i]) = (L[i], 0) := print_parse hck
      rw [hpp] at hpa
      have hwn := wait_n (c := L[i]) hck
      generalize hX' : evsF t0 (L.take (i + 1)) = X' at *
      generalize evsF t0 (L.take i) = X at *
      obtain ⟨xs, tm⟩ := X
      dsimp only at b1 b2 b3 hst ⊢
      generalize txtC L[i] = tx at *
      generalize L[i] = c at *
      unfold stepS at hst
      simp (config := { maxSteps := 2000000 }) only [go_sem, ↓reduceIte, Int.reduceToNat, Nat.reduceMul, Int.reduceBEq, Int.reduceBNe, Nat.reduceBEq, Nat.reduceAdd, Nat.reduceSub, Nat.reduceLeDiff, Nat.reduceEqDiff, Nat.reduceLT, reduceCtorEq, d0, d1, List.length_map]
      refine ⟨⟨by omega, by omega⟩, ?_⟩
      refine AWpL.calleT (SpecG.at hpa hT) rfl (by rw [hn]; rfl) (by simp (config := { maxSteps := 2000000 }) only [go_sem, ↓reduceIte, Int.reduceToNat, Nat.reduceMul, Int.reduceBEq, Int.reduceBNe, Nat.reduceBEq, Nat.reduceAdd, Nat.reduceSub, Nat.reduceLeDiff, Nat.reduceEqDiff, Nat.reduceLT, reduceCtorEq]) (AWpL.ofM hn rfl ?_)
      by_cases hwt : (c.verb.toList == waitB.toList) = true
      · rw [if_pos hwt] at hst
        obtain ⟨n1, n2⟩ := hwn hwt
        subst hst
        unfold waitB at hwt
        have d3 : IntKind.i64.wrap (tm + c.n) = tm + c.n := w64 (by omega) (by omega)
        have d4 : decide (tm + c.n > 200000) = false := decide_eq_false (by omega)
        simp (config := { maxSteps := 2000000 }) only [go_sem, ↓reduceIte, Int.reduceToNat, Nat.reduceMul, Int.reduceBEq, Int.reduceBNe, Nat.reduceBEq, Nat.reduceAdd, Nat.reduceSub, Nat.reduceLeDiff, Nat.reduceEqDiff, Nat.reduceLT, reduceCtorEq, hwt, d2, d3, d4]
        exact ⟨k - 1, by omega, i + 1, by omega, by rw [hX']; exact weak_to [0] hp hnp rfl (by simp (config := { maxSteps := 2000000 }) only [go_sem, ↓reduceIte, Int.reduceToNat, Nat.reduceMul, Int.reduceBEq, Int.reduceBNe, Nat.reduceBEq, Nat.reduceAdd, Nat.reduceSub, Nat.reduceLeDiff, Nat.reduceEqDiff, Nat.reduceLT, reduceCtorEq, Aw.pos] <;> rfl) (by simp (config := { maxSteps := 2000000 }) only [go_sem, ↓reduceIte, Int.reduceToNat, Nat.reduceMul, Int.reduceBEq, Int.reduceBNe, Nat.reduceBEq, Nat.reduceAdd, Nat.reduceSub, Nat.reduceLeDiff, Nat.reduceEqDiff, Nat.reduceLT, reduceCtorEq, Aw.renR, Aw.pos] <;> rfl)⟩
      · rw [if_neg hwt] at hst
        have hwt : (c.verb.toList == waitB.toList) = false := by simpa using hwt
        by_cases htl : (c.verb.toList == tellB.toList) = true
        · rw [if_pos htl] at hst
          subst hst
          unfold waitB at hwt
          unfold tellB at htl
          simp (config := { maxSteps := 2000000 }) only [go_sem, ↓reduceIte, Int.reduceToNat, Nat.reduceMul, Int.reduceBEq, Int.reduceBNe, Nat.reduceBEq, Nat.reduceAdd, Nat.reduceSub, Nat.reduceLeDiff, Nat.reduceEqDiff, Nat.reduceLT, reduceCtorEq, hwt, htl, d2]
          exact ⟨k - 1, by omega, i + 1, by omega, by rw [hX']; exact weak_to [0] hp hnp rfl (by simp (config := { maxSteps := 2000000 }) only [go_sem, ↓reduceIte, Int.reduceToNat, Nat.reduceMul, Int.reduceBEq, Int.reduceBNe, Nat.reduceBEq, Nat.reduceAdd, Nat.reduceSub, Nat.reduceLeDiff, Nat.reduceEqDiff, Nat.reduceLT, reduceCtorEq, Aw.pos] <;> rfl) (by simp (config := { maxSteps := 2000000 }) only [go_sem, ↓reduceIte, Int.reduceToNat, Nat.reduceMul, Int.reduceBEq, Int.reduceBNe, Nat.reduceBEq, Nat.reduceAdd, Nat.reduceSub, Nat.reduceLeDiff, Nat.reduceEqDiff, Nat.reduceLT, reduceCtorEq, Aw.renR, Aw.pos] <;> rfl)⟩
        · rw [if_neg htl] at hst
          subst hst
          have htl : (c.verb.toList == tellB.toList) = false := by simpa using htl
          unfold waitB at hwt
          unfold tellB at htl
          simp (config := { maxSteps := 2000000 }) only [go_sem, ↓reduceIte, Int.reduceToNat, Nat.reduceMul, Int.reduceBEq, Int.reduceBNe, Nat.reduceBEq, Nat.reduceAdd, Nat.reduceSub, Nat.reduceLeDiff, Nat.reduceEqDiff, Nat.reduceLT, reduceCtorEq, hwt, htl, d2]
          have hap : xs.map ec ++ [[I tm, S c.verb, S c.name, I c.n]] = (xs ++ [(⟨tm, c.verb, c.name, c.n⟩ : Ev)]).map ec := by rw [List.map_append]; rfl
          have hll : (xs ++ [(⟨tm, c.verb, c.name, c.n⟩ : Ev)]).length = xs.length + 1 := by rw [List.length_append]; rfl
          refine AWpL.app (r := 0) (els := xs.map ec) (ys := [[I tm, S c.verb, S c.name, I c.n]]) rfl rfl rfl rfl (by rw [hn]; rfl) (by rw [List.length_map]) (pin 0) (by simp (config := { maxSteps := 2000000 }) only [go_sem, ↓reduceIte, Int.reduceToNat, Nat.reduceMul, Int.reduceBEq, Int.reduceBNe, Nat.reduceBEq, Nat.reduceAdd, Nat.reduceSub, Nat.reduceLeDiff, Nat.reduceEqDiff, Nat.reduceLT, reduceCtorEq, Nat.le_refl]) (fun el hm y hy => by
            rw [List.mem_singleton.1 hm] at hy
            simp only [List.mem_cons, List.not_mem_nil, or_false] at hy
            rcases hy with rfl | rfl | rfl | rfl <;> rfl) (by simp only [List.length_cons, List.length_nil]; omega) (by simp only [List.length_cons, List.length_nil]; omega) (AWpL.ofM hn rfl ?_)
          simp (config := { maxSteps := 2000000 }) only [go_sem, ↓reduceIte, Int.reduceToNat, Nat.reduceMul, Int.reduceBEq, Int.reduceBNe, Nat.reduceBEq, Nat.reduceAdd, Nat.reduceSub, Nat.reduceLeDiff, Nat.reduceEqDiff, Nat.reduceLT, reduceCtorEq, hap, d2]
          exact ⟨k - 1, by omega, i + 1, by omega, by rw [hX']; exact weak_to [0] hp hnp rfl (by simp (config := { maxSteps := 2000000 }) only [go_sem, ↓reduceIte, Int.reduceToNat, Nat.reduceMul, Int.reduceBEq, Int.reduceBNe, Nat.reduceBEq, Nat.reduceAdd, Nat.reduceSub, Nat.reduceLeDiff, Nat.reduceEqDiff, Nat.reduceLT, reduceCtorEq, Aw.pos, hll] <;> rfl) (by simp (config := { maxSteps := 2000000 }) only [go_sem, ↓reduceIte, Int.reduceToNat, Nat.reduceMul, Int.reduceBEq, Int.reduceBNe, Nat.reduceBEq, Nat.reduceAdd, Nat.reduceSub, Nat.reduceLeDiff, Nat.reduceEqDiff, Nat.reduceLT, reduceCtorEq, Aw.renR, Aw.pos] <;> rfl)⟩
    · have d0 : decide ((i : Int) < (L.length : Int)) = false := decide_eq_false (by omega)
      simp (config := { maxSteps := 2000000 }) only [go_sem, ↓reduceIte, Int.reduceToNat, Nat.reduceMul, Int.reduceBEq, Int.reduceBNe, Nat.reduceBEq, Nat.reduceAdd, Nat.reduceSub, Nat.reduceLeDiff, Nat.reduceEqDiff, Nat.reduceLT, reduceCtorEq, d0, List.take_of_length_le hge]
      exact weak_to [0] hp hnp rfl (by simp (config := { maxSteps := 2000000 }) only [go_sem, ↓reduceIte, Int.reduceToNat, Nat.reduceMul, Int.reduceBEq, Int.reduceBNe, Nat.reduceBEq, Nat.reduceAdd, Nat.reduceSub, Nat.reduceLeDiff, Nat.reduceEqDiff, Nat.reduceLT, reduceCtorEq, Aw.pos] <;> rfl) (by simp (config := { maxSteps := 2000000 }) only [go_sem, ↓reduceIte, Int.reduceToNat, Nat.reduceMul, Int.reduceBEq, Int.reduceBNe, Nat.reduceBEq, Nat.reduceAdd, Nat.reduceSub, Nat.reduceLeDiff, Nat.reduceEqDiff, Nat.reduceLT, reduceCtorEq, Aw.renR, Aw.pos] <;> rfl)
  · simp (config := { maxSteps := 2000000 }) only [go_sem, ↓reduceIte, Int.reduceToNat, Nat.reduceMul, Int.reduceBEq, Int.reduceBNe, Nat.reduceBEq, Nat.reduceAdd, Nat.reduceSub, Nat.reduceLeDiff, Nat.reduceEqDiff, Nat.reduceLT, reduceCtorEq]
    refine Retn.weak (weak_freeze 0 rfl (pin 0) (by simp (config := { maxSteps := 2000000 }) only [go_sem, ↓reduceIte, Int.reduceToNat, Nat.reduceMul, Int.reduceBEq, Int.reduceBNe, Nat.reduceBEq, Nat.reduceAdd, Nat.reduceSub, Nat.reduceLeDiff, Nat.reduceEqDiff, Nat.reduceLT, reduceCtorEq, Nat.le_refl, List.length_map])) _ ?_
    refine Retn.ret (π := []) hp hnp ⟨rfl, ?_⟩
    simp (config := { maxSteps := 2000000 }) only [go_sem, ↓reduceIte, Int.reduceToNat, Nat.reduceMul, Int.reduceBEq, Int.reduceBNe, Nat.reduceBEq, Nat.reduceAdd, Nat.reduceSub, Nat.reduceLeDiff, Nat.reduceEqDiff, Nat.reduceLT, reduceCtorEq, Aw.renR, Aw.pos]
    rw [List.take_of_length_le (by rw [List.length_map]; exact Nat.le_refl _)]
end Go.Proofs.YtipknphidkdpiaaDoor
