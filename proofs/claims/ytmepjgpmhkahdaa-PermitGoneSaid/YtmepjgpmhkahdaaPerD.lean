/- Permits: the law. -/
import Derived.Test.YtmepjgpmhkahdaaAwZf
import Derived.Test.YtmepjgpmhkahdaaPerC
import Derived.Test.YtmepjgpmhkahdaaPerE
set_option linter.unusedVariables false
set_option linter.unusedSimpArgs false
namespace Go.Proofs.Ytmepjgpmhkahdaa
open Go.Proofs.Ytmepjgpmhkahdaa.Aw
attribute [local go_sem] Int.natCast_zero Int.natCast_one bne_self_eq_false beq_self_eq_true Bool.not_true Bool.not_false Option.isSome_none Option.isSome_some Aw.bkM_nil Option.getD_some Option.getD_none Nat.sub_zero Int.toNat_zero Aw.frzS Aw.frzT Aw.frzA Aw.frzL Aw.frzR Aw.frzO Aw.frzOL Aw.frzOT Aw.frzOR Aw.killS Aw.mapT Aw.mapR Aw.killM Aw.resAVs Aw.resAV Aw.quietOps Aw.wpP Aw.wpT Aw.wpS Aw.AOp.mild List.getElem?_cons_zero List.getElem?_cons_succ Bool.and_false Bool.and_self Bool.false_and Aw.opOb Aw.gdB Aw.Rnd Aw.subTm List.length_map Int.toNat_natCast and_self Aw.SeqC Aw.stops Aw.Ends Aw.looks Aw.renA Aw.renL Aw.renT Aw.renS Aw.wpO Aw.aop Aw.putTm Aw.St.ev Aw.St.put Aw.St.putO Aw.binAV Aw.intBin Aw.strBin Aw.pickAV Aw.optInt Aw.AV.strip Aw.AV.guard Aw.AV.cells Aw.gdOb Aw.AOp.opds Aw.AOp.still Aw.ptrCells Aw.St.reg Aw.fillAV Aw.fillOb Aw.elsOb Aw.splice Aw.firm Aw.cellish Aw.AV.shut Aw.shutAll Aw.Seq Aw.Blk Aw.retS_nil Aw.mapA Aw.mapL Aw.borA Aw.borOb Aw.allOb Aw.tupOf Aw.params Aw.Opd.of Array.toList Value.cells List.map_cons List.map_nil List.getD_cons_zero List.getD_cons_succ List.getD_nil List.length_cons List.length_nil List.take_succ_cons List.take_zero List.take_nil List.drop_zero List.drop_succ_cons List.drop_nil List.set_cons_zero List.set_cons_succ List.append_nil List.nil_append List.cons_append List.all_cons List.all_nil cond_false cond_true if_true if_false true_and and_true Bool.and_true Bool.true_and Option.map_some Option.map_none false_implies forall_const implies_true forall_eq imp_self Bool.cond_false_right Bool.cond_true_left beq_true beq_false Bool.not_eq_true' Bool.false_eq_true Nat.zero_add Nat.add_zero Aw.eqCells Aw.exactCap Aw.revealS Aw.srcEls Aw.srcSz
attribute [local go_sem ↓] Aw.look_nil Aw.look_ite Aw.wpL_nil Aw.wpL_op Aw.wpL_gd Aw.wpQ_nil Aw.wpQ_op Aw.wpQ_gd Aw.wpC_draw Aw.wpC_reg Aw.wpC_skip Aw.wpC_ret Aw.wpC_exit Aw.wpC_seq Aw.wpC_block Aw.wpC_loop Aw.wpC_cond Aw.stopAt_nil Aw.stopAt_cons Aw.wpD_skip Aw.wpD_ret Aw.wpD_exit Aw.wpD_region Aw.wpD_draw Aw.wpM_nil Aw.wpM_op Aw.wpM_gd Aw.wpD_seq Aw.wpD_block Aw.wpD_loop Aw.wpD_cond
/- gridhall/gridhallkeep4.permitFact -/
def a5 : ACode :=
  (.seq (.region false [] [
     ⟨(some 0), none, (.mov (.v (.bool false)))⟩])
  (.seq (.region false [] [
     ⟨(some 6), none, (.bsl 9 1 2 [(0, (.v (.string ⟨#[65]⟩))), (1, (.v (.string ⟨#[66]⟩)))])⟩,
     ⟨(some 7), none, (.call 4 [(.t 6)])⟩,
     ⟨(some 5), none, (.mov (.t 7))⟩,
     ⟨(some 8), none, (.ext 0 (.t 5))⟩,
     ⟨(some 9), none, (.ext 1 (.t 5))⟩,
     ⟨(some 1), none, (.mov (.t 8))⟩,
     ⟨(some 2), none, (.mov (.t 9))⟩])
  (.seq (.seq (.region false [] [
     ⟨(some 10), none, (.mov (.t 2))⟩,
     ⟨(some 11), none, (.bin .neq 24 (.t 10) (.v (.int .i64 0)))⟩,
     ⟨(some 12), none, (.mov (.t 11))⟩,
     ⟨(some 13), (some (12, false)), (.mov (.t 1))⟩,
     ⟨(some 14), (some (12, false)), (.nilP false (.t 13))⟩,
     ⟨(some 15), none, (.pick (.t 12) (.v (.bool true)) (.t 14))⟩])
  (.cond (.t 15)
    (.seq (.region false [] [
       ⟨(some 0), none, (.mov (.v (.bool false)))⟩])
    .ret)
    .skip))
  (.seq (.region false [] [
     ⟨(some 17), none, (.mov (.t 1))⟩,
     ⟨(some 18), none, (.bsl 9 1 1 [(0, (.v (.string ⟨#[66]⟩)))])⟩,
     ⟨(some 19), none, (.call 7 [(.t 17), (.v (.string ⟨#[84, 69, 65, 77]⟩)), (.t 18)])⟩,
     ⟨(some 16), none, (.mov (.t 19))⟩,
     ⟨(some 20), none, (.ext 0 (.t 16))⟩,
     ⟨(some 21), none, (.ext 1 (.t 16))⟩,
     ⟨(some 3), none, (.mov (.t 20))⟩,
     ⟨(some 4), none, (.mov (.t 21))⟩])
  (.seq (.region false [] [
     ⟨(some 22), none, (.mov (.t 4))⟩,
     ⟨(some 23), none, (.bin .eql 24 (.t 22) (.v (.int .i64 0)))⟩,
     ⟨(some 24), none, (.mov (.t 23))⟩,
     ⟨(some 25), (some (24, true)), (.mov (.t 3))⟩,
     ⟨(some 26), (some (24, true)), (.bin .eql 3 (.t 25) (.v (.int .i64 1)))⟩,
     ⟨(some 27), none, (.pick (.t 24) (.t 26) (.v (.bool false)))⟩,
     ⟨(some 28), none, (.mov (.t 27))⟩,
     ⟨(some 29), (some (28, true)), (.mov (.t 1))⟩,
     ⟨(some 30), (some (28, true)), (.call 9 [(.t 29)])⟩,
     ⟨(some 31), (some (28, true)), (.bsl 9 1 1 [(0, (.v (.string ⟨#[66]⟩)))])⟩,
     ⟨(some 32), (some (28, true)), (.call 12 [(.t 30), (.t 31)])⟩,
     ⟨(some 33), none, (.pick (.t 28) (.t 32) (.v (.bool false)))⟩,
     ⟨(some 0), none, (.mov (.t 33))⟩])
  .ret)))))
theorem k5 : FnIs Try.prog 5 34 [.t 0] a5 := ⟨_, _, Try.func5, rfl, by kernel_rfl, by kernel_rfl, rfl⟩
/- gridhall/gridhallkeep4.PermitGone -/
def a3 : ACode :=
  (.seq (.region false [] [
     ⟨(some 4), none, (.mov (.v (.bool false)))⟩])
  (.seq (.region false [] [
     ⟨(some 15), none, (.mov (.t 0))⟩,
     ⟨(some 16), none, (.call 4 [(.t 15)])⟩,
     ⟨(some 14), none, (.mov (.t 16))⟩,
     ⟨(some 17), none, (.ext 0 (.t 14))⟩,
     ⟨(some 18), none, (.ext 1 (.t 14))⟩,
     ⟨(some 5), none, (.mov (.t 17))⟩,
     ⟨(some 6), none, (.mov (.t 18))⟩])
  (.seq (.seq (.region false [] [
     ⟨(some 19), none, (.mov (.t 6))⟩,
     ⟨(some 20), none, (.bin .neq 24 (.t 19) (.v (.int .i64 0)))⟩,
     ⟨(some 21), none, (.mov (.t 20))⟩,
     ⟨(some 22), (some (21, false)), (.mov (.t 5))⟩,
     ⟨(some 23), (some (21, false)), (.nilP false (.t 22))⟩,
     ⟨(some 24), none, (.pick (.t 21) (.v (.bool true)) (.t 23))⟩])
  (.cond (.t 24)
    (.seq (.region false [] [
       ⟨(some 25), none, (.call 5 [])⟩,
       ⟨(some 26), none, (.mov (.t 25))⟩,
       ⟨(some 27), (some (26, true)), (.mov (.t 6))⟩,
       ⟨(some 28), (some (26, true)), (.mov (.t 0))⟩,
       ⟨(some 29), (some (26, true)), (.call 6 [(.t 28)])⟩,
       ⟨(some 30), (some (26, true)), (.bin .eql 24 (.t 27) (.t 29))⟩,
       ⟨(some 31), none, (.pick (.t 26) (.t 30) (.v (.bool false)))⟩,
       ⟨(some 32), none, (.mov (.t 31))⟩,
       ⟨(some 33), (some (32, true)), (.mov (.t 5))⟩,
       ⟨(some 34), (some (32, true)), (.nilP false (.t 33))⟩,
       ⟨(some 35), none, (.pick (.t 32) (.t 34) (.v (.bool false)))⟩,
       ⟨(some 4), none, (.mov (.t 35))⟩])
    .ret)
    .skip))
  (.seq (.region false [] [
     ⟨(some 7), none, (.mov (.v (.int .i64 0)))⟩])
  (.seq (.seq (.region false [] [
     ⟨(some 36), none, (.mov (.t 1))⟩,
     ⟨(some 37), none, (.mov (.t 1))⟩,
     ⟨(some 38), none, (.len (.t 37))⟩,
     ⟨(some 39), none, (.mni (.t 38) (.v (.int .i64 10)))⟩,
     ⟨(some 40), none, (.slc 1 (.t 36) none (some (.t 39)) none)⟩,
     ⟨(some 41), none, (.len (.t 40))⟩,
     ⟨(some 42), none, (.mov (.v (.int .i64 0)))⟩])
  (.block 0 (.loop (.seq (.region false [] [
       ⟨(some 43), none, (.bin .lss 3 (.t 42) (.t 41))⟩])
    (.seq (.cond (.t 43)
      .skip
      (.exit 0))
    (.seq (.block 1 (.seq (.region false [] [
        ⟨(some 44), none, (.mov (.t 42))⟩,
        ⟨(some 45), none, (.idx 1 (.t 40) (.t 42))⟩,
        ⟨(some 46), none, (.load 1 false (.t 45))⟩,
        ⟨(some 8), none, (.mov (.t 44))⟩,
        ⟨(some 9), none, (.mov (.t 46))⟩])
     (.seq (.seq (.region false [] [
        ⟨(some 47), none, (.mov (.t 0))⟩,
        ⟨(some 48), none, (.len (.t 47))⟩,
        ⟨(some 49), none, (.bin .eql 3 (.t 48) (.v (.int .i64 0)))⟩])
     (.cond (.t 49)
       (.exit 0)
       .skip))
     (.seq (.region false [] [
        ⟨(some 51), none, (.mov (.t 5))⟩,
        ⟨(some 52), none, (.mov (.t 9))⟩,
        ⟨(some 53), none, (.mov (.t 0))⟩,
        ⟨(some 54), none, (.mov (.t 8))⟩,
        ⟨(some 55), none, (.mov (.t 0))⟩,
        ⟨(some 56), none, (.len (.t 55))⟩,
        ⟨(some 57), none, (.bin .rem 3 (.t 54) (.t 56))⟩,
        ⟨(some 58), none, (.slc 1 (.t 53) (some (.t 57)) none none)⟩,
        ⟨(some 59), none, (.slc 1 (.t 58) none (some (.v (.int .i64 1))) none)⟩,
        ⟨(some 60), none, (.call 7 [(.t 51), (.t 52), (.t 59)])⟩,
        ⟨(some 50), none, (.mov (.t 60))⟩,
        ⟨(some 61), none, (.ext 0 (.t 50))⟩,
        ⟨(some 62), none, (.ext 1 (.t 50))⟩,
        ⟨(some 10), none, (.mov (.t 61))⟩,
        ⟨(some 11), none, (.mov (.t 62))⟩])
     (.seq (.region false [] [
        ⟨(some 63), none, (.mov (.t 11))⟩,
        ⟨(some 64), none, (.bin .eql 24 (.t 63) (.v (.int .i64 0)))⟩])
     (.cond (.t 64)
       (.seq (.seq (.region false [] [
          ⟨(some 65), none, (.mov (.t 10))⟩,
          ⟨(some 66), none, (.mov (.t 7))⟩,
          ⟨(some 67), none, (.bin .leq 3 (.t 65) (.t 66))⟩])
       (.cond (.t 67)
         (.seq (.region false [] [
            ⟨(some 4), none, (.mov (.v (.bool false)))⟩])
         .ret)
         .skip))
       (.region false [] [
          ⟨(some 68), none, (.mov (.t 10))⟩,
          ⟨(some 7), none, (.mov (.t 68))⟩]))
       .skip))))))
    (.region false [] [
       ⟨(some 69), none, (.bin .add 3 (.t 42) (.v (.int .i64 1)))⟩,
       ⟨(some 42), none, (.mov (.t 69))⟩])))))))
  (.seq (.seq (.region false [] [
     ⟨(some 70), none, (.mov (.t 5))⟩,
     ⟨(some 71), none, (.call 8 [(.t 70)])⟩,
     ⟨(some 72), none, (.len (.t 71))⟩,
     ⟨(some 73), none, (.mov (.v (.int .i64 0)))⟩])
  (.block 2 (.loop (.seq (.region false [] [
       ⟨(some 74), none, (.bin .lss 3 (.t 73) (.t 72))⟩])
    (.seq (.cond (.t 74)
      .skip
      (.exit 2))
    (.seq (.block 3 (.seq (.region false [] [
        ⟨(some 75), none, (.idx 3 (.t 71) (.t 73))⟩,
        ⟨(some 76), none, (.load 3 true (.t 75))⟩,
        ⟨(some 13), none, (.alloc 34 (.agg #[(.int .i64 0), (.string ⟨#[]⟩), (.slice none 0 0)]))⟩,
        ⟨none, none, (.store 3 (.t 13) (.t 76))⟩])
     (.seq (.region false [] [
        ⟨(some 77), none, (.mov (.t 5))⟩,
        ⟨(some 78), none, (.call 9 [(.t 77)])⟩,
        ⟨(some 79), none, (.len (.t 78))⟩,
        ⟨(some 80), none, (.bin .eql 3 (.t 79) (.v (.int .i64 0)))⟩,
        ⟨(some 81), none, (.mov (.t 80))⟩,
        ⟨(some 82), (some (81, false)), (.mov (.t 5))⟩,
        ⟨(some 83), (some (81, false)), (.fld 0 (.t 13))⟩,
        ⟨(some 84), (some (81, false)), (.load 1 false (.t 83))⟩,
        ⟨(some 85), (some (81, false)), (.fld 1 (.t 13))⟩,
        ⟨(some 86), (some (81, false)), (.load 1 false (.t 85))⟩,
        ⟨(some 87), (some (81, false)), (.call 10 [(.t 82), (.t 84), (.t 86)])⟩,
        ⟨(some 88), (some (81, false)), (.bin .neq 24 (.t 87) (.v (.int .i64 0)))⟩,
        ⟨(some 89), none, (.pick (.t 81) (.v (.bool true)) (.t 88))⟩,
        ⟨(some 90), none, (.mov (.t 89))⟩,
        ⟨(some 91), (some (90, false)), (.mov (.t 5))⟩,
        ⟨(some 92), (some (90, false)), (.fld 0 (.t 13))⟩,
        ⟨(some 93), (some (90, false)), (.load 1 false (.t 92))⟩,
        ⟨(some 94), (some (90, false)), (.fld 1 (.t 13))⟩,
        ⟨(some 95), (some (90, false)), (.load 1 false (.t 94))⟩,
        ⟨(some 96), (some (90, false)), (.call 10 [(.t 91), (.t 93), (.t 95)])⟩,
        ⟨(some 97), (some (90, false)), (.bin .neq 24 (.t 96) (.v (.int .i64 8)))⟩,
        ⟨(some 98), none, (.pick (.t 90) (.v (.bool true)) (.t 97))⟩])
     (.cond (.t 98)
       (.seq (.region false [] [
          ⟨(some 4), none, (.mov (.v (.bool false)))⟩])
       .ret)
       .skip))))
    (.region false [] [
       ⟨(some 99), none, (.bin .add 3 (.t 73) (.v (.int .i64 1)))⟩,
       ⟨(some 73), none, (.mov (.t 99))⟩])))))))
  (.seq (.region false [] [
     ⟨(some 100), none, (.call 5 [])⟩,
     ⟨(some 101), none, (.mov (.t 100))⟩,
     ⟨(some 102), (some (101, true)), (.mov (.t 5))⟩,
     ⟨(some 103), (some (101, true)), (.call 9 [(.t 102)])⟩,
     ⟨(some 104), (some (101, true)), (.len (.t 103))⟩,
     ⟨(some 105), (some (101, true)), (.bin .eql 3 (.t 104) (.v (.int .i64 0)))⟩,
     ⟨(some 106), none, (.pick (.t 101) (.t 105) (.v (.bool false)))⟩,
     ⟨(some 107), none, (.mov (.t 106))⟩,
     ⟨(some 108), (some (107, true)), (.mov (.t 5))⟩,
     ⟨(some 109), (some (107, true)), (.call 8 [(.t 108)])⟩,
     ⟨(some 110), (some (107, true)), (.len (.t 109))⟩,
     ⟨(some 111), (some (107, true)), (.bin .eql 3 (.t 110) (.v (.int .i64 0)))⟩,
     ⟨(some 112), none, (.pick (.t 107) (.t 111) (.v (.bool false)))⟩,
     ⟨(some 4), none, (.mov (.t 112))⟩])
  .ret)))))))
theorem k3 : FnIs Try.prog 3 113 [.t 4] a3 := ⟨_, _, Try.func3, rfl, by kernel_rfl, by kernel_rfl, rfl⟩

theorem AWp.cutE {P : Program} {E : Env} {Q : Exit → St → Prop} {s : St} (e0 : Exit) (S0 : St) {c : ACode} (h : AWp P E (fun e s' => e = e0 ∧ Weak E s' S0) c s) (k : Q e0 S0) : AWp P E Q c s := fun code hc a w hr =>
  wp_mono (h code hc a w hr) fun e a w ⟨s', ⟨he, hw⟩, hr'⟩ => by subst he; exact ⟨S0, k, hw a w hr'⟩
/-- The desk after the first i holders asked. -/
def runD (l : List ByteArray) (H : List ByteArray) : Nat → Dk
  | 0 => ⟨l, [], 0⟩
  | i + 1 => if l.length = 0 then runD l H i else issD (runD l H i) (H.getD i default) [l.getD (i % l.length) default]
structure PI (l : List ByteArray) (d : Dk) (i : Nat) : Prop where
  dev : d.dev = l
  few : d.papers.length ≤ i
  last : 0 ≤ d.last ∧ d.last ≤ i
  one : ∀ p ∈ d.papers, ∃ x ∈ l, p.devs = [x]
  num : ∀ p ∈ d.papers, p.num ≤ d.last
  inc : d.papers.Pairwise fun p q => p.num < q.num
theorem getD_mem {l : List ByteArray} {k : Nat} (h : k < l.length) : l.getD k default ∈ l := by
  rw [List.getD_eq_getElem?_getD, List.getElem?_eq_getElem h]; exact List.getElem_mem h
theorem runD_inv (l H : List ByteArray) : ∀ i, PI l (runD l H i) i
  | 0 => ⟨rfl, Nat.le_refl _, ⟨Int.le_refl _, Int.le_refl _⟩, (fun p hp => by cases hp), (fun p hp => by cases hp), List.Pairwise.nil⟩
  | i + 1 => by
    have hi := runD_inv l H i
    unfold runD
    have h2 := hi.few
    have h3 := hi.last
    split
    · exact ⟨hi.dev, by omega, by omega, hi.one, hi.num, hi.inc⟩
    · rename_i hl
      generalize runD l H i = d at *
      unfold issD
      split
      · refine ⟨hi.dev, by simp; exact h2, by dsimp only; omega, fun p hp => ?_, fun p hp => ?_, ?_⟩
        · rcases List.mem_append.1 hp with hp | hp
          · exact hi.one p hp
          · rw [List.mem_singleton.1 hp]
            exact ⟨_, getD_mem (Nat.mod_lt _ (by omega)), rfl⟩
        · rcases List.mem_append.1 hp with hp | hp
          · have := hi.num p hp; dsimp only; omega
          · rw [List.mem_singleton.1 hp]; exact Int.le_refl _
        · refine List.pairwise_append.2 ⟨hi.inc, List.pairwise_singleton _ _, fun p hp q hq => ?_⟩
          rw [List.mem_singleton.1 hq]
          have := hi.num p hp; dsimp only; omega
      · exact ⟨hi.dev, by omega, by omega, hi.one, hi.num, hi.inc⟩
theorem PI.ok {l d i} (h : PI l d i) (hl : l.length ≤ 256) (hi : i ≤ 10) : DkOk d :=
  ⟨by rw [h.dev]; exact hl, by have := h.few; omega, fun p hp => by obtain ⟨x, _, hx⟩ := h.one p hp; rw [hx]; simp⟩
theorem runD_empty {l H : List ByteArray} (hz : l.length = 0) : ∀ i, runD l H i = ⟨l, [], 0⟩
  | 0 => rfl
  | i + 1 => by unfold runD; rw [if_pos hz]; exact runD_empty hz i
theorem runD_succ {l H : List ByteArray} (hz : ¬ l.length = 0) (i : Nat) : runD l H (i + 1) = issD (runD l H i) (H.getD i default) [l.getD (i % l.length) default] := by
  rw [runD, if_neg hz]
/-- The desk with the papers that are left. -/
def restD (d : Dk) (i : Nat) : Dk := ⟨d.dev, d.papers.drop i, d.last⟩
theorem DkOk.rest {d : Dk} (h : DkOk d) (i : Nat) : DkOk (restD d i) :=
  ⟨h.dl, by have := h.pl; unfold restD; simp; omega, fun p hp => h.few p (List.mem_of_mem_drop hp)⟩
theorem held_pos {l d n} (h : PI l d n) {i : Nat} (hi : i < d.papers.length) : 0 < (heldL (restD d i).papers (restD d i).dev).length := by
  obtain ⟨x, hx, hp⟩ := h.one _ (List.getElem_mem hi)
  have hm : d.papers[i] ∈ (restD d i).papers := by unfold restD; rw [List.drop_eq_getElem_cons hi]; exact List.mem_cons_self
  have h1 : 0 < (tagsL (restD d i).papers x).length := by
    unfold tagsL
    rw [List.length_map]
    refine List.length_pos_of_mem (a := d.papers[i]) (List.mem_filter.2 ⟨hm, ?_⟩)
    rw [hp]; simp [seq_self]
  unfold heldL
  refine List.length_pos_of_mem (a := x) (List.mem_filter.2 ⟨by show x ∈ d.dev; rw [h.dev]; exact hx, decide_eq_true h1⟩)
theorem find_head {l d n} (h : PI l d n) {i : Nat} (hi : i < d.papers.length) : findF (restD d i) d.papers[i].num d.papers[i].holder = (0, 0) := by
  have hk : fIndex (fun p : Paper => p.num == d.papers[i].num) 0 (restD d i).papers = 0 := by
    unfold restD; dsimp only; rw [List.drop_eq_getElem_cons hi]; unfold fIndex; rw [if_pos (by simp)]; rfl
  unfold findF
  rw [hk, if_neg (by decide)]
  have : (restD d i).papers.getD (0 : Int).toNat default = d.papers[i] := by unfold restD; dsimp only; rw [List.drop_eq_getElem_cons hi]; rfl
  rw [this, seq_self, if_pos rfl]
theorem fIndex_none {α : Type} {p : α → Bool} : ∀ {l : List α} {j : Nat}, (∀ x ∈ l, p x = false) → fIndex p j l = -1
  | [], _, _ => rfl
  | x :: l, j, h => by
    unfold fIndex
    rw [if_neg (by rw [h x List.mem_cons_self]; decide)]
    exact fIndex_none fun y hy => h y (List.mem_cons_of_mem _ hy)
theorem find_gone {l d n} (h : PI l d n) {i : Nat} (hi : i < d.papers.length) : findF (restD d (i + 1)) d.papers[i].num d.papers[i].holder = (0, 8) := by
  have hk : fIndex (fun p : Paper => p.num == d.papers[i].num) 0 (restD d (i + 1)).papers = -1 := by
    refine fIndex_none fun q hq => ?_
    have hinc := h.inc
    have hd : (d.papers.drop i).Pairwise fun p q => p.num < q.num := hinc.sublist (List.drop_sublist _ _)
    rw [List.drop_eq_getElem_cons hi] at hd
    have := (List.pairwise_cons.1 hd).1 q hq
    simp only [beq_eq_false_iff_ne]; omega
  unfold findF
  rw [hk, if_pos (by decide)]
theorem ret_head {l d n} (h : PI l d n) {i : Nat} (hi : i < d.papers.length) : retD (restD d i) d.papers[i].num d.papers[i].holder = restD d (i + 1) := by
  unfold retD
  rw [find_head h hi, if_pos rfl]
  unfold restD
  dsimp only
  rw [List.drop_eq_getElem_cons hi]; rfl
theorem ret_gone {l d n} (h : PI l d n) {i : Nat} (hi : i < d.papers.length) : retD (restD d (i + 1)) d.papers[i].num d.papers[i].holder = restD d (i + 1) := by
  unfold retD
  rw [find_gone h hi, if_neg (by decide)]
theorem tagsL_nil (x) : tagsL [] x = [] := rfl
theorem heldL_nil (l) : heldL [] l = [] := by
  unfold heldL
  rw [List.filter_eq_nil_iff]
  intro x _
  rw [tagsL_nil]; decide
theorem restD_all (d : Dk) : restD d d.papers.length = ⟨d.dev, [], d.last⟩ := by unfold restD; rw [List.drop_length]
def factE : Dk := ⟨[⟨#[65]⟩, ⟨#[66]⟩], [⟨1, ⟨#[84, 69, 65, 77]⟩, [⟨#[66]⟩]⟩], 1⟩
def factD : Dk := ⟨[⟨#[65]⟩, ⟨#[66]⟩], [], 0⟩
set_option maxRecDepth 20000 in
theorem s5 : Aw.Spec Try.prog 5 [] [] (Gives (· = B true)) := by
  refine Aw.Spec.givesW k5 rfl rfl fun E hn hnp hp => ?_
  unfold a5
  have pin : ∀ r, E.pin r = none := fun r => hp.none hnp (Nat.zero_le _)
  refine AWp.seq (AWp.ofD [] [] hn mixed rfl ?_)
  simp (config := { maxSteps := 2000000 }) only [go_sem, ↓reduceIte, Int.reduceToNat, Nat.reduceMul, Int.reduceBEq, Int.reduceBNe, Nat.reduceBEq, Nat.reduceAdd, Nat.reduceSub, Nat.reduceLeDiff, Nat.reduceEqDiff, Nat.reduceLT, reduceCtorEq]
  refine AWp.seq (AWp.region (AWpL.upto 1 hn rfl ?_))
  simp (config := { maxSteps := 2000000 }) only [go_sem, ↓reduceIte, Int.reduceToNat, Nat.reduceMul, Int.reduceBEq, Int.reduceBNe, Nat.reduceBEq, Nat.reduceAdd, Nat.reduceSub, Nat.reduceLeDiff, Nat.reduceEqDiff, Nat.reduceLT, reduceCtorEq]
  refine AWpL.weak (weak_freeze 0 rfl (pin 0) (by simp (config := { maxSteps := 2000000 }) only [go_sem, ↓reduceIte, Int.reduceToNat, Nat.reduceMul, Int.reduceBEq, Int.reduceBNe, Nat.reduceBEq, Nat.reduceAdd, Nat.reduceSub, Nat.reduceLeDiff, Nat.reduceEqDiff, Nat.reduceLT, reduceCtorEq, Nat.le_refl])) (AWpL.ofM hn rfl ?_)
  simp (config := { maxSteps := 2000000 }) only [go_sem, ↓reduceIte, Int.reduceToNat, Nat.reduceMul, Int.reduceBEq, Int.reduceBNe, Nat.reduceBEq, Nat.reduceAdd, Nat.reduceSub, Nat.reduceLeDiff, Nat.reduceEqDiff, Nat.reduceLT, reduceCtorEq]
  have hck : perChk factD.dev = 0 := by decide +kernel
  refine AWpL.callA [] (s4 none true factD.dev (fun x hx => by
    rcases List.mem_cons.1 hx with rfl | hx
    · decide
    · rw [List.mem_singleton.1 hx]; decide) (by decide)) rfl rfl (by rw [hn]; rfl) rfl (fun r hr => by cases hr) fun rg v hv => ?_
  obtain ⟨rfl, rfl⟩ := hv.2 hck
  refine ⟨Nat.zero_le _, AWpL.ofM hn rfl ?_⟩
  simp (config := { maxSteps := 2000000 }) only [go_sem, ↓reduceIte, Int.reduceToNat, Nat.reduceMul, Int.reduceBEq, Int.reduceBNe, Nat.reduceBEq, Nat.reduceAdd, Nat.reduceSub, Nat.reduceLeDiff, Nat.reduceEqDiff, Nat.reduceLT, reduceCtorEq, Aw.retS, Aw.retRg, Aw.kpM, Aw.bkM, Aw.pos, Aw.isBox, dkR, List.getElem?_nil]
  refine AWp.weak (weak_to (tm := [(1, .ptr 0 0 0), (2, I 0)]) (rg := dkR factD) [1, 2] hp hnp rfl (by simp (config := { maxSteps := 2000000 }) only [go_sem, ↓reduceIte, Int.reduceToNat, Nat.reduceMul, Int.reduceBEq, Int.reduceBNe, Nat.reduceBEq, Nat.reduceAdd, Nat.reduceSub, Nat.reduceLeDiff, Nat.reduceEqDiff, Nat.reduceLT, reduceCtorEq, Aw.pos]) (by simp (config := { maxSteps := 2000000 }) only [go_sem, ↓reduceIte, Int.reduceToNat, Nat.reduceMul, Int.reduceBEq, Int.reduceBNe, Nat.reduceBEq, Nat.reduceAdd, Nat.reduceSub, Nat.reduceLeDiff, Nat.reduceEqDiff, Nat.reduceLT, reduceCtorEq, Aw.renR, Aw.pos, dkR, factD]; rfl)) ?_
  refine AWp.ofD [] [] hn mixed rfl ?_
  simp (config := { maxSteps := 2000000 }) only [go_sem, ↓reduceIte, Int.reduceToNat, Nat.reduceMul, Int.reduceBEq, Int.reduceBNe, Nat.reduceBEq, Nat.reduceAdd, Nat.reduceSub, Nat.reduceLeDiff, Nat.reduceEqDiff, Nat.reduceLT, reduceCtorEq, dkR]
  refine AWpL.weak (weak_freeze 2 rfl (pin 2) (by simp (config := { maxSteps := 2000000 }) only [go_sem, ↓reduceIte, Int.reduceToNat, Nat.reduceMul, Int.reduceBEq, Int.reduceBNe, Nat.reduceBEq, Nat.reduceAdd, Nat.reduceSub, Nat.reduceLeDiff, Nat.reduceEqDiff, Nat.reduceLT, reduceCtorEq, Nat.le_refl])) (AWpL.ofM hn rfl ?_)
  simp (config := { maxSteps := 2000000 }) only [go_sem, ↓reduceIte, Int.reduceToNat, Nat.reduceMul, Int.reduceBEq, Int.reduceBNe, Nat.reduceBEq, Nat.reduceAdd, Nat.reduceSub, Nat.reduceLeDiff, Nat.reduceEqDiff, Nat.reduceLT, reduceCtorEq]
  have hE : issE factD ⟨#[84, 69, 65, 77]⟩ [⟨#[66]⟩] = 0 := by decide +kernel
  have hN : issN factD ⟨#[84, 69, 65, 77]⟩ [⟨#[66]⟩] = 1 := by decide +kernel
  have hD : issD factD ⟨#[84, 69, 65, 77]⟩ [⟨#[66]⟩] = factE := by unfold issD; rw [if_pos hE]; rfl
  have hok : DkOk factE := ⟨by decide, by decide, fun p hp => by cases List.mem_singleton.1 hp; decide⟩
  have hhe : heldL factE.papers factE.dev = [⟨#[66]⟩] := by decide +kernel
  (refine AWpL.callA [0, 1] (s7 factD ⟨#[84, 69, 65, 77]⟩ none true [⟨#[66]⟩] (by decide) (by decide) (by decide) (by decide) (fun x hx => by cases List.mem_singleton.1 hx; decide) (by decide)) rfl rfl (by rw [hn]; rfl) rfl (fun r hr => .inr (pin r)) fun rg v hv => ?_; obtain ⟨rfl, rfl⟩ := hv; refine ⟨Nat.le_refl _, AWpL.ofM hn rfl ?_⟩)
  simp (config := { maxSteps := 2000000 }) only [go_sem, ↓reduceIte, Int.reduceToNat, Nat.reduceMul, Int.reduceBEq, Int.reduceBNe, Nat.reduceBEq, Nat.reduceAdd, Nat.reduceSub, Nat.reduceLeDiff, Nat.reduceEqDiff, Nat.reduceLT, reduceCtorEq, Aw.retS, Aw.retRg, Aw.kpM, Aw.bkM, Aw.pos, Aw.isBox, hE, hN, hD, dkR]
  refine AWpL.guardT rfl (AWpL.weak (weak_opt 29 rfl) ?_)
  (refine AWpL.callA [0, 1] (s9 factE hok) rfl rfl (by rw [hn]; rfl) rfl (fun r hr => .inr (pin r)) fun rg v hv => ?_; obtain ⟨rfl, rfl⟩ := hv; refine ⟨Nat.le_refl _, AWpL.ofM hn rfl ?_⟩)
  simp (config := { maxSteps := 2000000 }) only [go_sem, ↓reduceIte, Int.reduceToNat, Nat.reduceMul, Int.reduceBEq, Int.reduceBNe, Nat.reduceBEq, Nat.reduceAdd, Nat.reduceSub, Nat.reduceLeDiff, Nat.reduceEqDiff, Nat.reduceLT, reduceCtorEq, Aw.retS, Aw.retRg, Aw.kpM, Aw.bkM, Aw.pos, Aw.isBox, hhe, dkR]
  refine AWpL.weak (weak_freeze 3 rfl (pin 3) (by simp (config := { maxSteps := 2000000 }) only [go_sem, ↓reduceIte, Int.reduceToNat, Nat.reduceMul, Int.reduceBEq, Int.reduceBNe, Nat.reduceBEq, Nat.reduceAdd, Nat.reduceSub, Nat.reduceLeDiff, Nat.reduceEqDiff, Nat.reduceLT, reduceCtorEq, Nat.le_refl])) (AWpL.ofM hn rfl ?_)
  simp (config := { maxSteps := 2000000 }) only [go_sem, ↓reduceIte, Int.reduceToNat, Nat.reduceMul, Int.reduceBEq, Int.reduceBNe, Nat.reduceBEq, Nat.reduceAdd, Nat.reduceSub, Nat.reduceLeDiff, Nat.reduceEqDiff, Nat.reduceLT, reduceCtorEq]
  (refine AWpL.gcalle (b := true) rfl (fun _ => (s12 none false [⟨#[66]⟩] none true [⟨#[66]⟩] (by decide) (by decide))) rfl (by rw [hn]; rfl) (fun _ => by simp (config := { maxSteps := 2000000 }) only [go_sem, ↓reduceIte, Int.reduceToNat, Nat.reduceMul, Int.reduceBEq, Int.reduceBNe, Nat.reduceBEq, Nat.reduceAdd, Nat.reduceSub, Nat.reduceLeDiff, Nat.reduceEqDiff, Nat.reduceLT, reduceCtorEq]) (AWpL.ofM hn rfl ?_); simp (config := { maxSteps := 2000000 }) only [go_sem, ↓reduceIte, Int.reduceToNat, Nat.reduceMul, Int.reduceBEq, Int.reduceBNe, Nat.reduceBEq, Nat.reduceAdd, Nat.reduceSub, Nat.reduceLeDiff, Nat.reduceEqDiff, Nat.reduceLT, reduceCtorEq])
  have h4 : eqs seq [(⟨#[66]⟩ : ByteArray)] [⟨#[66]⟩] = true := by decide +kernel
  rw [h4]
set_option maxRecDepth 20000 in
set_option maxHeartbeats 2000000 in
theorem s3 (nl fl) (l : List ByteArray) (nh fh) (H0 : List ByteArray) (hs : ∀ x ∈ l, x.size ≤ 9223372036854775807) (hl63 : l.length ≤ 9223372036854775807) (hh : ∀ x ∈ H0, x.size ≤ 9223372036854775807) (hH63 : H0.length ≤ 9223372036854775807) :
    Aw.Spec Try.prog 3 [] [ss nl fl l, ss nh fh H0] (Gives (· = B true)) := by
  refine Aw.Spec.givesD k3 mixed rfl rfl rfl fun E hn hnp hp => ?_
  unfold a3
  have pin : ∀ r, E.pin r = none := fun r => hp.none hnp (Nat.zero_le _)
  simp (config := { maxSteps := 2000000 }) only [go_sem, ↓reduceIte, Int.reduceToNat, Nat.reduceMul, Int.reduceBEq, Int.reduceBNe, Nat.reduceBEq, Nat.reduceAdd, Nat.reduceSub, Nat.reduceLeDiff, Nat.reduceEqDiff, Nat.reduceLT, reduceCtorEq]
  refine AWpL.callA [] (s4 nl fl l hs hl63) rfl rfl (by rw [hn]; rfl) rfl (fun r hr => by cases hr) fun rg v hv => ?_
  refine ⟨Nat.zero_le _, ?_⟩
  by_cases hc : perChk l = 0
  case neg =>
    obtain ⟨rfl, rfl⟩ := hv.1 hc
    rw [retS_nil]
    refine AWpL.ofM hn rfl ?_
    have e1 : (perChk l != 0) = true := by simp [hc]
    simp (config := { maxSteps := 2000000 }) only [go_sem, ↓reduceIte, Int.reduceToNat, Nat.reduceMul, Int.reduceBEq, Int.reduceBNe, Nat.reduceBEq, Nat.reduceAdd, Nat.reduceSub, Nat.reduceLeDiff, Nat.reduceEqDiff, Nat.reduceLT, reduceCtorEq, e1, beq_self_eq_true]
    (refine AWpL.calle (s5) rfl (by rw [hn]; rfl) (by simp (config := { maxSteps := 2000000 }) only [go_sem, ↓reduceIte, Int.reduceToNat, Nat.reduceMul, Int.reduceBEq, Int.reduceBNe, Nat.reduceBEq, Nat.reduceAdd, Nat.reduceSub, Nat.reduceLeDiff, Nat.reduceEqDiff, Nat.reduceLT, reduceCtorEq]) (AWpL.ofM hn rfl ?_); simp (config := { maxSteps := 2000000 }) only [go_sem, ↓reduceIte, Int.reduceToNat, Nat.reduceMul, Int.reduceBEq, Int.reduceBNe, Nat.reduceBEq, Nat.reduceAdd, Nat.reduceSub, Nat.reduceLeDiff, Nat.reduceEqDiff, Nat.reduceLT, reduceCtorEq])
    (refine AWpL.gcalle (b := true) rfl (fun _ => (s6 nl fl l hs)) rfl (by rw [hn]; rfl) (fun _ => by simp (config := { maxSteps := 2000000 }) only [go_sem, ↓reduceIte, Int.reduceToNat, Nat.reduceMul, Int.reduceBEq, Int.reduceBNe, Nat.reduceBEq, Nat.reduceAdd, Nat.reduceSub, Nat.reduceLeDiff, Nat.reduceEqDiff, Nat.reduceLT, reduceCtorEq]) (AWpL.ofM hn rfl ?_); simp (config := { maxSteps := 2000000 }) only [go_sem, ↓reduceIte, Int.reduceToNat, Nat.reduceMul, Int.reduceBEq, Int.reduceBNe, Nat.reduceBEq, Nat.reduceAdd, Nat.reduceSub, Nat.reduceLeDiff, Nat.reduceEqDiff, Nat.reduceLT, reduceCtorEq])
  have hl : l.length ≤ 256 := by
    unfold perChk at hc
    split at hc
    · cases hc
    · omega
  obtain ⟨rfl, rfl⟩ := hv.2 hc
  refine AWpL.ofM hn rfl ?_
  have hmin : ((H0.map sc).take (min (H0.length : Int) 10).toNat) = (H0.take 10).map sc := by
    rw [List.map_take]
    rcases Nat.le_total H0.length 10 with h | h
    · rw [List.take_of_length_le (by simp; omega), List.take_of_length_le (by simp; omega)]
    · congr 1; omega
  simp (config := { maxSteps := 2000000 }) only [go_sem, ↓reduceIte, Int.reduceToNat, Nat.reduceMul, Int.reduceBEq, Int.reduceBNe, Nat.reduceBEq, Nat.reduceAdd, Nat.reduceSub, Nat.reduceLeDiff, Nat.reduceEqDiff, Nat.reduceLT, reduceCtorEq, Aw.retS, Aw.retRg, Aw.kpM, Aw.bkM, Aw.pos, Aw.isBox, dkR, hmin, List.getElem?_nil]
  (repeat (refine And.intro (by first | omega | (refine ⟨by omega, by omega⟩) | (refine ⟨by omega, by omega, by omega⟩) | (simp only [List.length_map, List.length_range, List.length_append, List.length_cons, List.length_nil, List.length_replicate, List.length_set]; omega) | (simp; omega) | (intro hgd; cases hgd) | (intro hgd; refine ⟨hgd, ?_⟩; first | omega | (refine ⟨by omega, by omega⟩) | (simp; omega))) ?_))
  generalize hH : H0.take 10 = H at *
  have hH10 : H.length ≤ 10 := by rw [← hH]; simp; omega
  have hHs : ∀ x ∈ H, x.size ≤ 9223372036854775807 := fun x hx => hh x (List.mem_of_mem_take (by rw [hH]; exact hx))
  refine AWp.cutE (.exit 0) ⟨[(0, ss nl fl l), (5, .ptr 0 0 0)], dkR (runD l H H.length)⟩ ?_ ?_
  · refine AWp.loop (fun k s => ∃ i : Nat, i + k = H.length ∧ Weak E s ⟨[(0, ss nl fl l), (5, .ptr 0 0 0), (7, I (runD l H i).last), (40, .imm nh false 1 (H.map sc)), (41, I H.length), (42, I i)], dkR (runD l H i)⟩) (n := H.length)
      ⟨0, by omega, weak_to [0, 1] hp hnp rfl (by simp (config := { maxSteps := 2000000 }) only [go_sem, ↓reduceIte, Int.reduceToNat, Nat.reduceMul, Int.reduceBEq, Int.reduceBNe, Nat.reduceBEq, Nat.reduceAdd, Nat.reduceSub, Nat.reduceLeDiff, Nat.reduceEqDiff, Nat.reduceLT, reduceCtorEq, Aw.pos]; rfl) (by simp (config := { maxSteps := 2000000 }) only [go_sem, ↓reduceIte, Int.reduceToNat, Nat.reduceMul, Int.reduceBEq, Int.reduceBNe, Nat.reduceBEq, Nat.reduceAdd, Nat.reduceSub, Nat.reduceLeDiff, Nat.reduceEqDiff, Nat.reduceLT, reduceCtorEq, Aw.renR, Aw.pos]; rfl)⟩ ?_
    rintro k s ⟨i, hik, hw⟩
    refine AWp.weak hw (AWp.ofD [] [] hn mixed rfl ?_)
    have hPI := runD_inv l H i
    rcases Nat.lt_or_ge i H.length with hlt | hge
    · have e0 : decide ((i : Int) < (H.length : Int)) = true := decide_eq_true (by omega)
      have e1 := getD_map sc hlt
      have e2 : IntKind.i64.wrap ((i : Int) + 1) = ((i + 1 : Nat) : Int) := by rw [w64 (by omega) (by omega)]; omega
      have hg : H.getD i default = H[i] := by rw [List.getD_eq_getElem?_getD, List.getElem?_eq_getElem hlt]; rfl
      have hx := hHs _ (List.getElem_mem hlt)
      by_cases hz : l.length = 0
      · have ez : ((l.length : Int) == 0) = true := by simp [hz]
        have hr1 := runD_empty (H := H) hz i
        have hr2 := runD_empty (H := H) hz H.length
        rw [hr1]
        simp (config := { maxSteps := 2000000 }) only [go_sem, ↓reduceIte, Int.reduceToNat, Nat.reduceMul, Int.reduceBEq, Int.reduceBNe, Nat.reduceBEq, Nat.reduceAdd, Nat.reduceSub, Nat.reduceLeDiff, Nat.reduceEqDiff, Nat.reduceLT, reduceCtorEq, e0, e1, ez]
        rw [hr2]
        (repeat (refine And.intro (by first | omega | (refine ⟨by omega, by omega⟩) | (refine ⟨by omega, by omega, by omega⟩) | (simp only [List.length_map, List.length_range, List.length_append, List.length_cons, List.length_nil, List.length_replicate, List.length_set]; omega) | (simp; omega) | (intro hgd; cases hgd) | (intro hgd; refine ⟨hgd, ?_⟩; first | omega | (refine ⟨by omega, by omega⟩) | (simp; omega))) ?_))
        exact weak_to [0, 1] hp hnp rfl (by simp (config := { maxSteps := 2000000 }) only [go_sem, ↓reduceIte, Int.reduceToNat, Nat.reduceMul, Int.reduceBEq, Int.reduceBNe, Nat.reduceBEq, Nat.reduceAdd, Nat.reduceSub, Nat.reduceLeDiff, Nat.reduceEqDiff, Nat.reduceLT, reduceCtorEq, Aw.pos]) (by simp (config := { maxSteps := 2000000 }) only [go_sem, ↓reduceIte, Int.reduceToNat, Nat.reduceMul, Int.reduceBEq, Int.reduceBNe, Nat.reduceBEq, Nat.reduceAdd, Nat.reduceSub, Nat.reduceLeDiff, Nat.reduceEqDiff, Nat.reduceLT, reduceCtorEq, Aw.renR, Aw.pos]; rfl)
      · have ez : ((l.length : Int) == 0) = false := by simp [hz]
        have hrs := runD_succ (H := H) hz i
        rw [hg] at hrs
        generalize H[i] = h at e1 hrs hx
        generalize runD l H i = d at *
        have hml : i % l.length < l.length := Nat.mod_lt _ (by omega)
        have htm : (i : Int).tmod (l.length : Int) = ((i % l.length : Nat) : Int) := by rw [Int.tmod_eq_emod_of_nonneg (by omega)]; rfl
        have htl : (l.map sc).take l.length = l.map sc := List.take_of_length_le (by simp)
        have hgx := getD_mem hml
        have hdr : ((l.map sc).drop (i % l.length)).take 1 = [[S (l.getD (i % l.length) default)]] := by
          rw [List.drop_eq_getElem_cons (by simpa using hml), List.take_succ_cons, List.take_zero, List.getElem_map, List.getD_eq_getElem?_getD, List.getElem?_eq_getElem hml]; rfl
        generalize i % l.length = j at *
        generalize l.getD j default = x at *
        have hf := hPI.few
        have hla := hPI.last
        have hdv := hPI.dev
        simp (config := { maxSteps := 2000000 }) only [go_sem, ↓reduceIte, Int.reduceToNat, Nat.reduceMul, Int.reduceBEq, Int.reduceBNe, Nat.reduceBEq, Nat.reduceAdd, Nat.reduceSub, Nat.reduceLeDiff, Nat.reduceEqDiff, Nat.reduceLT, reduceCtorEq, e0, e1, ez, htm, htl, hdr]
        (repeat (refine And.intro (by first | omega | (refine ⟨by omega, by omega⟩) | (refine ⟨by omega, by omega, by omega⟩) | (simp only [List.length_map, List.length_range, List.length_append, List.length_cons, List.length_nil, List.length_replicate, List.length_set]; omega) | (simp; omega) | (intro hgd; cases hgd) | (intro hgd; refine ⟨hgd, ?_⟩; first | omega | (refine ⟨by omega, by omega⟩) | (simp; omega))) ?_))
        by_cases hE : issE d h [x] = 0
        · have hN : issN d h [x] = d.last + 1 := if_pos hE
          have hdl : decide (d.last + 1 ≤ d.last) = false := decide_eq_false (by omega)
          have hL : (issD d h [x]).last = d.last + 1 := by unfold issD; rw [if_pos hE]
          (refine AWpL.callA [0, 1] (s7 d h _ _ [x] (by omega) (by rw [hdv]; exact hl) (by omega) hx (fun y hy => by cases List.mem_singleton.1 hy; exact hs _ hgx) (by simp)) rfl rfl (by rw [hn]; rfl) rfl (fun r hr => .inr (pin r)) fun rg v hv => ?_; obtain ⟨rfl, rfl⟩ := hv; refine ⟨Nat.le_refl _, AWpL.ofM hn rfl ?_⟩)
          simp (config := { maxSteps := 2000000 }) only [go_sem, ↓reduceIte, Int.reduceToNat, Nat.reduceMul, Int.reduceBEq, Int.reduceBNe, Nat.reduceBEq, Nat.reduceAdd, Nat.reduceSub, Nat.reduceLeDiff, Nat.reduceEqDiff, Nat.reduceLT, reduceCtorEq, Aw.retS, Aw.retRg, Aw.kpM, Aw.bkM, Aw.pos, Aw.isBox, hE, hN, hdl, e2, dkR]
          refine ⟨k - 1, by omega, i + 1, by omega, ?_⟩
          rw [hrs, hL]
          exact weak_to [0, 1] hp hnp rfl (by simp (config := { maxSteps := 2000000 }) only [go_sem, ↓reduceIte, Int.reduceToNat, Nat.reduceMul, Int.reduceBEq, Int.reduceBNe, Nat.reduceBEq, Nat.reduceAdd, Nat.reduceSub, Nat.reduceLeDiff, Nat.reduceEqDiff, Nat.reduceLT, reduceCtorEq, Aw.pos]) (by simp (config := { maxSteps := 2000000 }) only [go_sem, ↓reduceIte, Int.reduceToNat, Nat.reduceMul, Int.reduceBEq, Int.reduceBNe, Nat.reduceBEq, Nat.reduceAdd, Nat.reduceSub, Nat.reduceLeDiff, Nat.reduceEqDiff, Nat.reduceLT, reduceCtorEq, Aw.renR, Aw.pos, hL])
        · have hE2 : (issE d h [x] == 0) = false := by simpa using hE
          have hD : issD d h [x] = d := if_neg hE
          (refine AWpL.callA [0, 1] (s7 d h _ _ [x] (by omega) (by rw [hdv]; exact hl) (by omega) hx (fun y hy => by cases List.mem_singleton.1 hy; exact hs _ hgx) (by simp)) rfl rfl (by rw [hn]; rfl) rfl (fun r hr => .inr (pin r)) fun rg v hv => ?_; obtain ⟨rfl, rfl⟩ := hv; refine ⟨Nat.le_refl _, AWpL.ofM hn rfl ?_⟩)
          simp (config := { maxSteps := 2000000 }) only [go_sem, ↓reduceIte, Int.reduceToNat, Nat.reduceMul, Int.reduceBEq, Int.reduceBNe, Nat.reduceBEq, Nat.reduceAdd, Nat.reduceSub, Nat.reduceLeDiff, Nat.reduceEqDiff, Nat.reduceLT, reduceCtorEq, Aw.retS, Aw.retRg, Aw.kpM, Aw.bkM, Aw.pos, Aw.isBox, hE2, e2, hD, dkR]
          refine ⟨k - 1, by omega, i + 1, by omega, ?_⟩
          rw [hrs, hD]
          exact weak_to [0, 1] hp hnp rfl (by simp (config := { maxSteps := 2000000 }) only [go_sem, ↓reduceIte, Int.reduceToNat, Nat.reduceMul, Int.reduceBEq, Int.reduceBNe, Nat.reduceBEq, Nat.reduceAdd, Nat.reduceSub, Nat.reduceLeDiff, Nat.reduceEqDiff, Nat.reduceLT, reduceCtorEq, Aw.pos]) (by simp (config := { maxSteps := 2000000 }) only [go_sem, ↓reduceIte, Int.reduceToNat, Nat.reduceMul, Int.reduceBEq, Int.reduceBNe, Nat.reduceBEq, Nat.reduceAdd, Nat.reduceSub, Nat.reduceLeDiff, Nat.reduceEqDiff, Nat.reduceLT, reduceCtorEq, Aw.renR, Aw.pos])
    · have e0 : decide ((i : Int) < (H.length : Int)) = false := decide_eq_false (by omega)
      obtain rfl : i = H.length := by omega
      simp (config := { maxSteps := 2000000 }) only [go_sem, ↓reduceIte, Int.reduceToNat, Nat.reduceMul, Int.reduceBEq, Int.reduceBNe, Nat.reduceBEq, Nat.reduceAdd, Nat.reduceSub, Nat.reduceLeDiff, Nat.reduceEqDiff, Nat.reduceLT, reduceCtorEq, e0]
      exact weak_to [0, 1] hp hnp rfl (by simp (config := { maxSteps := 2000000 }) only [go_sem, ↓reduceIte, Int.reduceToNat, Nat.reduceMul, Int.reduceBEq, Int.reduceBNe, Nat.reduceBEq, Nat.reduceAdd, Nat.reduceSub, Nat.reduceLeDiff, Nat.reduceEqDiff, Nat.reduceLT, reduceCtorEq, Aw.pos]) (by simp (config := { maxSteps := 2000000 }) only [go_sem, ↓reduceIte, Int.reduceToNat, Nat.reduceMul, Int.reduceBEq, Int.reduceBNe, Nat.reduceBEq, Nat.reduceAdd, Nat.reduceSub, Nat.reduceLeDiff, Nat.reduceEqDiff, Nat.reduceLT, reduceCtorEq, Aw.renR, Aw.pos])
  have hPI := runD_inv l H H.length
  generalize runD l H H.length = d at *
  have hok := hPI.ok hl hH10
  simp (config := { maxSteps := 2000000 }) only [go_sem, ↓reduceIte, Int.reduceToNat, Nat.reduceMul, Int.reduceBEq, Int.reduceBNe, Nat.reduceBEq, Nat.reduceAdd, Nat.reduceSub, Nat.reduceLeDiff, Nat.reduceEqDiff, Nat.reduceLT, reduceCtorEq]
  (refine AWpL.callA [0, 1] (s8 d hok) rfl rfl (by rw [hn]; rfl) rfl (fun r hr => .inr (pin r)) fun rg v hv => ?_; obtain ⟨rfl, rfl⟩ := hv; refine ⟨Nat.le_refl _, AWpL.ofM hn rfl ?_⟩)
  simp (config := { maxSteps := 2000000 }) only [go_sem, ↓reduceIte, Int.reduceToNat, Nat.reduceMul, Int.reduceBEq, Int.reduceBNe, Nat.reduceBEq, Nat.reduceAdd, Nat.reduceSub, Nat.reduceLeDiff, Nat.reduceEqDiff, Nat.reduceLT, reduceCtorEq, Aw.retS, Aw.retRg, Aw.kpM, Aw.bkM, Aw.pos, Aw.isBox, dkR]
  refine AWp.loop (fun k s => ∃ i : Nat, i + k = d.papers.length ∧ Weak E s ⟨[(5, .ptr 0 0 0), (71, .imm none false 3 (d.papers.map ppc)), (72, I d.papers.length), (73, I i)], dkR (restD d i)⟩) (n := d.papers.length)
    ⟨0, by omega, weak_to [0, 1] hp hnp rfl (by simp (config := { maxSteps := 2000000 }) only [go_sem, ↓reduceIte, Int.reduceToNat, Nat.reduceMul, Int.reduceBEq, Int.reduceBNe, Nat.reduceBEq, Nat.reduceAdd, Nat.reduceSub, Nat.reduceLeDiff, Nat.reduceEqDiff, Nat.reduceLT, reduceCtorEq, Aw.pos, Int.natCast_zero]) (by simp (config := { maxSteps := 2000000 }) only [go_sem, ↓reduceIte, Int.reduceToNat, Nat.reduceMul, Int.reduceBEq, Int.reduceBNe, Nat.reduceBEq, Nat.reduceAdd, Nat.reduceSub, Nat.reduceLeDiff, Nat.reduceEqDiff, Nat.reduceLT, reduceCtorEq, Aw.renR, Aw.pos]; rfl)⟩ ?_
  rintro k s ⟨i, hik, hw⟩
  rcases Nat.lt_or_ge i d.papers.length with hlt | hge
  · refine AWp.weak hw (AWp.ofD [] [] hn mixed rfl ?_)
    have e0 : decide ((i : Int) < (d.papers.length : Int)) = true := decide_eq_true (by omega)
    have e1 := getD_map ppc hlt
    have e2 : IntKind.i64.wrap ((i : Int) + 1) = ((i + 1 : Nat) : Int) := by rw [w64 (by have := hok.pl; omega) (by have := hok.pl; omega)]; omega
    have hpos := held_pos hPI hlt
    have e5 : (((heldL (restD d i).papers (restD d i).dev).length : Int) == 0) = false := by simp only [beq_eq_false_iff_ne]; omega
    have f1 := find_head hPI hlt
    have f2 := find_gone hPI hlt
    have f3 := ret_head hPI hlt
    have f4 := ret_gone hPI hlt
    generalize d.papers[i] = p at e1 f1 f2 f3 f4
    simp (config := { maxSteps := 2000000 }) only [go_sem, ↓reduceIte, Int.reduceToNat, Nat.reduceMul, Int.reduceBEq, Int.reduceBNe, Nat.reduceBEq, Nat.reduceAdd, Nat.reduceSub, Nat.reduceLeDiff, Nat.reduceEqDiff, Nat.reduceLT, reduceCtorEq, e0, e1, dkR]
    (repeat (refine And.intro (by first | omega | (refine ⟨by omega, by omega⟩) | (refine ⟨by omega, by omega, by omega⟩) | (simp only [List.length_map, List.length_range, List.length_append, List.length_cons, List.length_nil, List.length_replicate, List.length_set]; omega) | (simp; omega) | (intro hgd; cases hgd) | (intro hgd; refine ⟨hgd, ?_⟩; first | omega | (refine ⟨by omega, by omega⟩) | (simp; omega))) ?_))
    (refine AWpL.callA [0, 1] (s9 (restD d i) (hok.rest i)) rfl rfl (by rw [hn]; rfl) rfl (fun r hr => .inr (pin r)) fun rg v hv => ?_; obtain ⟨rfl, rfl⟩ := hv; refine ⟨Nat.le_refl _, AWpL.ofM hn rfl ?_⟩)
    simp (config := { maxSteps := 2000000 }) only [go_sem, ↓reduceIte, Int.reduceToNat, Nat.reduceMul, Int.reduceBEq, Int.reduceBNe, Nat.reduceBEq, Nat.reduceAdd, Nat.reduceSub, Nat.reduceLeDiff, Nat.reduceEqDiff, Nat.reduceLT, reduceCtorEq, Aw.retS, Aw.retRg, Aw.kpM, Aw.bkM, Aw.pos, Aw.isBox, e5, dkR]
    refine AWpL.guardT rfl (AWpL.weak (weak_opt 86 rfl) (AWpL.weak (weak_opt 84 rfl) (AWpL.weak (weak_opt 82 rfl) ?_)))
    (refine AWpL.callA [0, 1] (s10 (restD d i) p.num p.holder (hok.rest i).pl) rfl rfl (by rw [hn]; rfl) rfl (fun r hr => .inr (pin r)) fun rg v hv => ?_; obtain ⟨rfl, rfl⟩ := hv; refine ⟨Nat.le_refl _, AWpL.ofM hn rfl ?_⟩)
    simp (config := { maxSteps := 2000000 }) only [go_sem, ↓reduceIte, Int.reduceToNat, Nat.reduceMul, Int.reduceBEq, Int.reduceBNe, Nat.reduceBEq, Nat.reduceAdd, Nat.reduceSub, Nat.reduceLeDiff, Nat.reduceEqDiff, Nat.reduceLT, reduceCtorEq, Aw.retS, Aw.retRg, Aw.kpM, Aw.bkM, Aw.pos, Aw.isBox, f1, f3, dkR]
    refine AWpL.guardT rfl (AWpL.weak (weak_opt 95 rfl) (AWpL.weak (weak_opt 93 rfl) (AWpL.weak (weak_opt 91 rfl) ?_)))
    (refine AWpL.callA [0, 1] (s10 (restD d (i + 1)) p.num p.holder (hok.rest (i + 1)).pl) rfl rfl (by rw [hn]; rfl) rfl (fun r hr => .inr (pin r)) fun rg v hv => ?_; obtain ⟨rfl, rfl⟩ := hv; refine ⟨Nat.le_refl _, AWpL.ofM hn rfl ?_⟩)
    simp (config := { maxSteps := 2000000 }) only [go_sem, ↓reduceIte, Int.reduceToNat, Nat.reduceMul, Int.reduceBEq, Int.reduceBNe, Nat.reduceBEq, Nat.reduceAdd, Nat.reduceSub, Nat.reduceLeDiff, Nat.reduceEqDiff, Nat.reduceLT, reduceCtorEq, Aw.retS, Aw.retRg, Aw.kpM, Aw.bkM, Aw.pos, Aw.isBox, f2, f4, e2, dkR]
    exact ⟨k - 1, by omega, i + 1, by omega, weak_to [0, 1] hp hnp rfl (by simp (config := { maxSteps := 2000000 }) only [go_sem, ↓reduceIte, Int.reduceToNat, Nat.reduceMul, Int.reduceBEq, Int.reduceBNe, Nat.reduceBEq, Nat.reduceAdd, Nat.reduceSub, Nat.reduceLeDiff, Nat.reduceEqDiff, Nat.reduceLT, reduceCtorEq, Aw.pos]) (by simp (config := { maxSteps := 2000000 }) only [go_sem, ↓reduceIte, Int.reduceToNat, Nat.reduceMul, Int.reduceBEq, Int.reduceBNe, Nat.reduceBEq, Nat.reduceAdd, Nat.reduceSub, Nat.reduceLeDiff, Nat.reduceEqDiff, Nat.reduceLT, reduceCtorEq, Aw.renR, Aw.pos])⟩
  · obtain rfl : i = d.papers.length := by omega
    rw [restD_all] at hw
    refine AWp.weak hw (AWp.ofD [] [] hn mixed rfl ?_)
    have e0 : decide ((d.papers.length : Int) < (d.papers.length : Int)) = false := decide_eq_false (by omega)
    have hok2 : DkOk ⟨d.dev, [], d.last⟩ := ⟨hok.dl, Nat.zero_le _, fun p hp => by cases hp⟩
    simp (config := { maxSteps := 2000000 }) only [go_sem, ↓reduceIte, Int.reduceToNat, Nat.reduceMul, Int.reduceBEq, Int.reduceBNe, Nat.reduceBEq, Nat.reduceAdd, Nat.reduceSub, Nat.reduceLeDiff, Nat.reduceEqDiff, Nat.reduceLT, reduceCtorEq, e0, dkR]
    (refine AWpL.calle (s5) rfl (by rw [hn]; rfl) (by simp (config := { maxSteps := 2000000 }) only [go_sem, ↓reduceIte, Int.reduceToNat, Nat.reduceMul, Int.reduceBEq, Int.reduceBNe, Nat.reduceBEq, Nat.reduceAdd, Nat.reduceSub, Nat.reduceLeDiff, Nat.reduceEqDiff, Nat.reduceLT, reduceCtorEq]) (AWpL.ofM hn rfl ?_); simp (config := { maxSteps := 2000000 }) only [go_sem, ↓reduceIte, Int.reduceToNat, Nat.reduceMul, Int.reduceBEq, Int.reduceBNe, Nat.reduceBEq, Nat.reduceAdd, Nat.reduceSub, Nat.reduceLeDiff, Nat.reduceEqDiff, Nat.reduceLT, reduceCtorEq])
    refine AWpL.guardT rfl (AWpL.weak (weak_opt 102 rfl) ?_)
    (refine AWpL.callA [0, 1] (s9 ⟨d.dev, [], d.last⟩ hok2) rfl rfl (by rw [hn]; rfl) rfl (fun r hr => .inr (pin r)) fun rg v hv => ?_; obtain ⟨rfl, rfl⟩ := hv; refine ⟨Nat.le_refl _, AWpL.ofM hn rfl ?_⟩)
    simp (config := { maxSteps := 2000000 }) only [go_sem, ↓reduceIte, Int.reduceToNat, Nat.reduceMul, Int.reduceBEq, Int.reduceBNe, Nat.reduceBEq, Nat.reduceAdd, Nat.reduceSub, Nat.reduceLeDiff, Nat.reduceEqDiff, Nat.reduceLT, reduceCtorEq, Aw.retS, Aw.retRg, Aw.kpM, Aw.bkM, Aw.pos, Aw.isBox, heldL_nil, dkR]
    refine AWpL.guardT rfl (AWpL.weak (weak_opt 108 rfl) ?_)
    (refine AWpL.callA [0, 1] (s8 ⟨d.dev, [], d.last⟩ hok2) rfl rfl (by rw [hn]; rfl) rfl (fun r hr => .inr (pin r)) fun rg v hv => ?_; obtain ⟨rfl, rfl⟩ := hv; refine ⟨Nat.le_refl _, AWpL.ofM hn rfl ?_⟩)
    simp (config := { maxSteps := 2000000 }) only [go_sem, ↓reduceIte, Int.reduceToNat, Nat.reduceMul, Int.reduceBEq, Int.reduceBNe, Nat.reduceBEq, Nat.reduceAdd, Nat.reduceSub, Nat.reduceLeDiff, Nat.reduceEqDiff, Nat.reduceLT, reduceCtorEq, Aw.retS, Aw.retRg, Aw.kpM, Aw.bkM, Aw.pos, Aw.isBox, dkR]
end Go.Proofs.Ytmepjgpmhkahdaa
