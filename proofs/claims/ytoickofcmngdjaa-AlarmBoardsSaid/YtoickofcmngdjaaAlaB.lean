/- Alarms: which of them explain which. -/
import Derived.Test.YtoickofcmngdjaaAwZl
import Derived.Test.YtoickofcmngdjaaAlaA
set_option linter.unusedVariables false
set_option linter.unusedSimpArgs false
namespace Go.Proofs.Ytoickofcmngdjaa
open Go.Proofs.Ytoickofcmngdjaa.Aw
attribute [local go_sem] Int.natCast_zero Int.natCast_one bne_self_eq_false beq_self_eq_true Bool.not_true Bool.not_false Option.isSome_none Option.isSome_some Aw.bkM_nil Option.getD_some Option.getD_none Nat.sub_zero Int.toNat_zero Aw.frzS Aw.frzT Aw.frzA Aw.frzL Aw.frzR Aw.frzO Aw.frzOL Aw.frzOT Aw.frzOR Aw.killS Aw.mapT Aw.mapR Aw.killM Aw.resAVs Aw.resAV Aw.quietOps Aw.wpP Aw.wpT Aw.wpS Aw.AOp.mild List.getElem?_cons_zero List.getElem?_cons_succ Bool.and_false Bool.and_self Bool.false_and Aw.opOb Aw.gdB Aw.Rnd Aw.subTm List.length_map Int.toNat_natCast and_self Aw.SeqC Aw.stops Aw.Ends Aw.looks Aw.renA Aw.renL Aw.renT Aw.renS Aw.wpO Aw.aop Aw.putTm Aw.St.ev Aw.St.put Aw.St.putO Aw.binAV Aw.intBin Aw.strBin Aw.pickAV Aw.optInt Aw.AV.strip Aw.AV.guard Aw.AV.cells Aw.gdOb Aw.AOp.opds Aw.AOp.still Aw.ptrCells Aw.St.reg Aw.fillAV Aw.fillOb Aw.elsOb Aw.splice Aw.firm Aw.cellish Aw.AV.shut Aw.shutAll Aw.Seq Aw.Blk Aw.retS_nil Aw.mapA Aw.mapL Aw.borA Aw.borOb Aw.allOb Aw.tupOf Aw.params Aw.Opd.of Array.toList Value.cells List.map_cons List.map_nil List.getD_cons_zero List.getD_cons_succ List.getD_nil List.length_cons List.length_nil List.take_succ_cons List.take_zero List.take_nil List.drop_zero List.drop_succ_cons List.drop_nil List.set_cons_zero List.set_cons_succ List.append_nil List.nil_append List.cons_append List.all_cons List.all_nil cond_false cond_true if_true if_false true_and and_true Bool.and_true Bool.true_and Option.map_some Option.map_none false_implies forall_const implies_true forall_eq imp_self Bool.cond_false_right Bool.cond_true_left beq_true beq_false Bool.not_eq_true' Bool.false_eq_true Nat.zero_add Nat.add_zero Aw.eqCells Aw.stopDraw Aw.skipS Aw.exactCap Aw.revealS Aw.srcEls Aw.srcSz
attribute [local go_sem ↓] Aw.look_nil Aw.look_ite Aw.wpL_nil Aw.wpL_op Aw.wpL_gd Aw.wpQ_nil Aw.wpQ_op Aw.wpQ_gd Aw.wpC_draw Aw.wpC_reg Aw.wpC_skip Aw.wpC_ret Aw.wpC_exit Aw.wpC_seq Aw.wpC_block Aw.wpC_loop Aw.wpC_cond Aw.stopAt_nil Aw.stopAt_cons Aw.wpD_skip Aw.wpD_ret Aw.wpD_exit Aw.wpD_region Aw.wpD_draw Aw.wpM_nil Aw.wpM_op Aw.wpM_gd Aw.wpD_seq Aw.wpD_block Aw.wpD_loop Aw.wpD_cond
/- gridhall/alarm.reach -/
def a25 : ACode :=
  (.seq (.region false [] [
     ⟨(some 4), none, (.mov (.v (.slice none 0 0)))⟩])
  (.seq (.region false [] [
     ⟨(some 14), none, (.mov (.t 1))⟩,
     ⟨(some 15), none, (.len (.t 14))⟩,
     ⟨(some 16), none, (.mksl 55 1 24 (.slice none 0 0) (.t 15) (.t 15))⟩,
     ⟨(some 5), none, (.mov (.t 16))⟩])
  (.seq (.seq (.region false [] [
     ⟨(some 17), none, (.mov (.t 1))⟩,
     ⟨(some 18), none, (.len (.t 17))⟩,
     ⟨(some 19), none, (.mov (.v (.int .i64 0)))⟩])
  (.block 0 (.loop (.seq (.region false [] [
       ⟨(some 20), none, (.bin .lss 3 (.t 19) (.t 18))⟩])
    (.seq (.cond (.t 20)
      .skip
      (.exit 0))
    (.seq (.block 1 (.seq (.region false [] [
        ⟨(some 21), none, (.mov (.t 19))⟩,
        ⟨(some 6), none, (.mov (.t 21))⟩])
     (.seq (.region false [] [
        ⟨(some 22), none, (.mov (.t 5))⟩,
        ⟨(some 23), none, (.mov (.t 6))⟩,
        ⟨(some 24), none, (.mov (.t 1))⟩,
        ⟨(some 25), none, (.len (.t 24))⟩,
        ⟨(some 26), none, (.mksl 4 1 1 (.bool false) (.t 25) (.t 25))⟩,
        ⟨(some 27), none, (.idx 1 (.t 22) (.t 23))⟩,
        ⟨none, none, (.store 1 (.t 27) (.t 26))⟩])
     (.region false [] [
        ⟨(some 28), none, (.mov (.t 5))⟩,
        ⟨(some 29), none, (.mov (.t 6))⟩,
        ⟨(some 30), none, (.idx 1 (.t 28) (.t 29))⟩,
        ⟨(some 31), none, (.load 1 false (.t 30))⟩,
        ⟨(some 32), none, (.mov (.t 6))⟩,
        ⟨(some 33), none, (.idx 1 (.t 31) (.t 32))⟩,
        ⟨none, none, (.store 1 (.t 33) (.v (.bool true)))⟩]))))
    (.region false [] [
       ⟨(some 34), none, (.bin .add 3 (.t 19) (.v (.int .i64 1)))⟩,
       ⟨(some 19), none, (.mov (.t 34))⟩])))))))
  (.seq (.seq (.region false [] [
     ⟨(some 35), none, (.mov (.t 0))⟩,
     ⟨(some 36), none, (.len (.t 35))⟩,
     ⟨(some 37), none, (.mov (.v (.int .i64 0)))⟩])
  (.block 2 (.loop (.seq (.region false [] [
       ⟨(some 38), none, (.bin .lss 3 (.t 37) (.t 36))⟩])
    (.seq (.cond (.t 38)
      .skip
      (.exit 2))
    (.seq (.block 3 (.seq (.region false [] [
        ⟨(some 39), none, (.idx 2 (.t 35) (.t 37))⟩,
        ⟨(some 40), none, (.load 2 true (.t 39))⟩,
        ⟨(some 8), none, (.alloc 28 (.agg #[(.string ⟨#[]⟩), (.string ⟨#[]⟩)]))⟩,
        ⟨none, none, (.store 2 (.t 8) (.t 40))⟩])
     (.seq (.region true [[], [], [1], [0, 2], [], [], [5], [4, 6, 3], [3, 7, 0, 1, 2, 3], [7, 8, 0, 1, 2, 3, 4, 5, 6, 7, 8]] [
        ⟨(some 41), none, (.mov (.t 1))⟩,
        ⟨(some 42), none, (.fld 0 (.t 8))⟩,
        ⟨(some 43), none, (.load 1 false (.t 42))⟩,
        ⟨(some 44), none, (.call 16 [(.t 41), (.t 43)])⟩,
        ⟨(some 45), none, (.mov (.t 1))⟩,
        ⟨(some 46), none, (.fld 1 (.t 8))⟩,
        ⟨(some 47), none, (.load 1 false (.t 46))⟩,
        ⟨(some 48), none, (.call 16 [(.t 45), (.t 47)])⟩,
        ⟨(some 9), none, (.mov (.t 44))⟩,
        ⟨(some 10), none, (.mov (.t 48))⟩])
     (.seq (.region false [] [
        ⟨(some 49), none, (.mov (.t 9))⟩,
        ⟨(some 50), none, (.bin .geq 3 (.t 49) (.v (.int .i64 0)))⟩,
        ⟨(some 51), none, (.mov (.t 50))⟩,
        ⟨(some 52), (some (51, true)), (.mov (.t 10))⟩,
        ⟨(some 53), (some (51, true)), (.bin .geq 3 (.t 52) (.v (.int .i64 0)))⟩,
        ⟨(some 54), none, (.pick (.t 51) (.t 53) (.v (.bool false)))⟩])
     (.cond (.t 54)
       (.region false [] [
          ⟨(some 55), none, (.mov (.t 5))⟩,
          ⟨(some 56), none, (.mov (.t 9))⟩,
          ⟨(some 57), none, (.idx 1 (.t 55) (.t 56))⟩,
          ⟨(some 58), none, (.load 1 false (.t 57))⟩,
          ⟨(some 59), none, (.mov (.t 10))⟩,
          ⟨(some 60), none, (.idx 1 (.t 58) (.t 59))⟩,
          ⟨none, none, (.store 1 (.t 60) (.v (.bool true)))⟩])
       .skip)))))
    (.region false [] [
       ⟨(some 61), none, (.bin .add 3 (.t 37) (.v (.int .i64 1)))⟩,
       ⟨(some 37), none, (.mov (.t 61))⟩])))))))
  (.seq (.seq (.region false [] [
     ⟨(some 62), none, (.mov (.t 1))⟩,
     ⟨(some 63), none, (.len (.t 62))⟩,
     ⟨(some 64), none, (.mov (.v (.int .i64 0)))⟩])
  (.block 4 (.loop (.seq (.region false [] [
       ⟨(some 65), none, (.bin .lss 3 (.t 64) (.t 63))⟩])
    (.seq (.cond (.t 65)
      .skip
      (.exit 4))
    (.seq (.block 5 (.seq (.region false [] [
        ⟨(some 66), none, (.mov (.t 64))⟩,
        ⟨(some 11), none, (.mov (.t 66))⟩])
     (.seq (.region false [] [
        ⟨(some 67), none, (.mov (.t 1))⟩,
        ⟨(some 68), none, (.len (.t 67))⟩,
        ⟨(some 69), none, (.mov (.v (.int .i64 0)))⟩])
     (.block 6 (.loop (.seq (.region false [] [
          ⟨(some 70), none, (.bin .lss 3 (.t 69) (.t 68))⟩])
       (.seq (.cond (.t 70)
         .skip
         (.exit 6))
       (.seq (.block 7 (.seq (.region false [] [
           ⟨(some 71), none, (.mov (.t 69))⟩,
           ⟨(some 12), none, (.mov (.t 71))⟩])
        (.seq (.region false [] [
           ⟨(some 72), none, (.mov (.t 1))⟩,
           ⟨(some 73), none, (.len (.t 72))⟩,
           ⟨(some 74), none, (.mov (.v (.int .i64 0)))⟩])
        (.block 8 (.loop (.seq (.region false [] [
             ⟨(some 75), none, (.bin .lss 3 (.t 74) (.t 73))⟩])
          (.seq (.cond (.t 75)
            .skip
            (.exit 8))
          (.seq (.block 9 (.seq (.region false [] [
              ⟨(some 76), none, (.mov (.t 74))⟩,
              ⟨(some 13), none, (.mov (.t 76))⟩])
           (.region true [[], [], [0, 1], [2], [], [], [], [5, 6], [7], [], [8, 9], [10], [11], [12], [12], [13, 14, 12], [15, 12], [12], [16, 17, 12], [18, 12], [19, 12, 12], [20], [20], [21, 22, 20], [23, 20], [20], [24, 25, 20], [26, 20], [20, 27, 12], [12, 28], [3, 4, 0, 1, 2, 3, 4, 5, 6, 7, 8, 9, 10, 11, 12, 13, 14, 15, 16, 17, 18, 19, 20, 21, 22, 23, 24, 25, 26, 27, 28, 29], [30, 29, 20, 0, 1, 2, 3, 4, 5, 6, 7, 8, 9, 10, 11, 12, 13, 14, 15, 16, 17, 18, 19, 20, 21, 22, 23, 24, 25, 26, 27, 28, 29]] [
              ⟨(some 77), none, (.mov (.t 5))⟩,
              ⟨(some 78), none, (.mov (.t 12))⟩,
              ⟨(some 79), none, (.idx 1 (.t 77) (.t 78))⟩,
              ⟨(some 80), none, (.load 1 false (.t 79))⟩,
              ⟨(some 81), none, (.mov (.t 13))⟩,
              ⟨(some 82), none, (.mov (.t 5))⟩,
              ⟨(some 83), none, (.mov (.t 12))⟩,
              ⟨(some 84), none, (.idx 1 (.t 82) (.t 83))⟩,
              ⟨(some 85), none, (.load 1 false (.t 84))⟩,
              ⟨(some 86), none, (.mov (.t 13))⟩,
              ⟨(some 87), none, (.idx 1 (.t 85) (.t 86))⟩,
              ⟨(some 88), none, (.load 1 false (.t 87))⟩,
              ⟨(some 89), none, (.mov (.t 88))⟩,
              ⟨(some 90), (some (89, false)), (.mov (.t 5))⟩,
              ⟨(some 91), (some (89, false)), (.mov (.t 12))⟩,
              ⟨(some 92), (some (89, false)), (.idx 1 (.t 90) (.t 91))⟩,
              ⟨(some 93), (some (89, false)), (.load 1 false (.t 92))⟩,
              ⟨(some 94), (some (89, false)), (.mov (.t 11))⟩,
              ⟨(some 95), (some (89, false)), (.idx 1 (.t 93) (.t 94))⟩,
              ⟨(some 96), (some (89, false)), (.load 1 false (.t 95))⟩,
              ⟨(some 97), (some (89, false)), (.mov (.t 96))⟩,
              ⟨(some 98), (some (97, true)), (.mov (.t 5))⟩,
              ⟨(some 99), (some (97, true)), (.mov (.t 11))⟩,
              ⟨(some 100), (some (97, true)), (.idx 1 (.t 98) (.t 99))⟩,
              ⟨(some 101), (some (97, true)), (.load 1 false (.t 100))⟩,
              ⟨(some 102), (some (97, true)), (.mov (.t 13))⟩,
              ⟨(some 103), (some (97, true)), (.idx 1 (.t 101) (.t 102))⟩,
              ⟨(some 104), (some (97, true)), (.load 1 false (.t 103))⟩,
              ⟨(some 105), (some (89, false)), (.pick (.t 97) (.t 104) (.v (.bool false)))⟩,
              ⟨(some 106), none, (.pick (.t 89) (.v (.bool true)) (.t 105))⟩,
              ⟨(some 107), none, (.idx 1 (.t 80) (.t 81))⟩,
              ⟨none, none, (.store 1 (.t 107) (.t 106))⟩])))
          (.region false [] [
             ⟨(some 108), none, (.bin .add 3 (.t 74) (.v (.int .i64 1)))⟩,
             ⟨(some 74), none, (.mov (.t 108))⟩])))))))))
       (.region false [] [
          ⟨(some 109), none, (.bin .add 3 (.t 69) (.v (.int .i64 1)))⟩,
          ⟨(some 69), none, (.mov (.t 109))⟩])))))))))
    (.region false [] [
       ⟨(some 110), none, (.bin .add 3 (.t 64) (.v (.int .i64 1)))⟩,
       ⟨(some 64), none, (.mov (.t 110))⟩])))))))
  (.seq (.region false [] [
     ⟨(some 111), none, (.mov (.t 5))⟩,
     ⟨(some 4), none, (.mov (.t 111))⟩])
  .ret))))))
theorem k25 : FnIs Try.prog 25 112 [.t 4] a25 := ⟨_, _, Try.func25, rfl, by kernel_rfl, by kernel_rfl, rfl⟩

/-- What explains it directly, or itself. -/
def baseF (cs : List Cau) (l : List ByteArray) (i k : Nat) : Bool := i == k || cs.any fun c => (sIndex c.of 0 l == (i : Int)) && (sIndex c.by' 0 l == (k : Int))
def wsh (R : Nat → Nat → Bool) : Nat → Nat → Nat → Bool
  | 0 => R
  | m + 1 => fun i k => wsh R m i k || (wsh R m i m && wsh R m m k)
def reachF (cs : List Cau) (l : List ByteArray) : Nat → Nat → Bool := wsh (baseF cs l) l.length
theorem wsh_refl {R : Nat → Nat → Bool} (h : ∀ i, R i i = true) : ∀ m i, wsh R m i i = true
  | 0, i => h i
  | m + 1, i => by unfold wsh; rw [wsh_refl h m i]; rfl
theorem baseF_refl (cs : List Cau) (l : List ByteArray) (i : Nat) : baseF cs l i i = true := by unfold baseF; simp
theorem wsh_trans {R : Nat → Nat → Bool} (h : ∀ i, R i i = true) : ∀ m j, j < m → ∀ i k, wsh R m i j = true → wsh R m j k = true → wsh R m i k = true
  | m + 1, j, hj => fun i k h1 h2 => by
    have hr := wsh_refl h m m
    have ih := fun j hj i k => wsh_trans h m j hj i k
    unfold wsh at h1 h2 ⊢
    simp only [Bool.or_eq_true, Bool.and_eq_true] at h1 h2 ⊢
    rcases Nat.lt_or_eq_of_le (Nat.le_of_lt_succ hj) with hj | rfl
    · rcases h1 with h1 | ⟨h1, h1'⟩ <;> rcases h2 with h2 | ⟨h2, h2'⟩
      · exact .inl (ih j hj i k h1 h2)
      · exact .inr ⟨ih j hj i m h1 h2, h2'⟩
      · exact .inr ⟨h1, ih j hj m k h1' h2⟩
      · exact .inr ⟨h1, h2'⟩
    · exact .inr ⟨by rcases h1 with h1 | ⟨h1, _⟩ <;> exact h1, by rcases h2 with h2 | ⟨_, h2⟩ <;> exact h2⟩
/-- The rows of a matrix. -/
abbrev rowR (n : Nat) (M : Nat → Nat → Bool) (i : Nat) : Reg := .arr 4 1 ((List.range n).map fun k => [B (M i k)])
abbrev matR (n : Nat) (M : Nat → Nat → Bool) : List Reg := .tab 55 ((List.range n).map fun i => .hnd (i + 1) 0 n n true) :: (List.range n).map (rowR n M)
theorem matR_get {n : Nat} {M : Nat → Nat → Bool} {i : Nat} (h : i < n) : ((List.range n).map (rowR n M)).getD i .dead = rowR n M i := by
  rw [List.getD_eq_getElem?_getD, List.getElem?_map, List.getElem?_range h]; rfl
theorem tabR_get {n : Nat} {i : Nat} (h : i < n) : ((List.range n).map fun i => AV.hnd (i + 1) 0 n n true).getD i .any = .hnd (i + 1) 0 n n true := by
  rw [List.getD_eq_getElem?_getD, List.getElem?_map, List.getElem?_range h]; rfl
def upM (M : Nat → Nat → Bool) (a b : Nat) (v : Bool) : Nat → Nat → Bool := fun i k => if i = a ∧ k = b then v else M i k
theorem matR_set {n : Nat} {M : Nat → Nat → Bool} {a b : Nat} {v : Bool} (ha : a < n) (hb : b < n) :
    ((List.range n).map (rowR n M)).set a (.arr 4 1 (((List.range n).map fun k => [B (M a k)]).set b [B v])) = (List.range n).map (rowR n (upM M a b v)) := by
  refine List.ext_getElem (by simp) fun i h1 h2 => ?_
  have hi : i < n := by simpa using h2
  rw [List.getElem_set, List.getElem_map, List.getElem_map, List.getElem_range]
  by_cases e : a = i
  · subst e
    rw [if_pos rfl, set_rng]
    unfold rowR
    congr 1
    refine List.map_congr_left fun k hk => ?_
    unfold upM
    by_cases e2 : k = b
    · rw [if_pos e2, if_pos ⟨rfl, e2⟩]
    · rw [if_neg e2, if_neg (fun h => e2 h.2)]
  · rw [if_neg e]
    unfold rowR upM
    congr 1
    refine List.map_congr_left fun k hk => ?_
    rw [if_neg (fun h => e h.1.symm)]
theorem last_get {n : Nat} {f : Nat → Reg} (x : Reg) : ((List.range n).map f ++ [x]).getD n .dead = x := by
  rw [List.getD_eq_getElem?_getD, List.getElem?_append_right (by simp)]; simp
theorem last_set {n : Nat} {f : Nat → Reg} (x y : Reg) : ((List.range n).map f ++ [x]).set n y = (List.range n).map f ++ [y] := by
  rw [List.set_append_right _ _ (by simp)]; simp
theorem app_get {n a : Nat} {f : Nat → Reg} (J : List Reg) (h : a < n) : ((List.range n).map f ++ J).getD a .dead = f a := by
  rw [List.getD_eq_getElem?_getD, List.getElem?_append_left (by simpa using h), List.getElem?_map, List.getElem?_range h]; rfl
theorem app_set {n a : Nat} {f : Nat → Reg} (J : List Reg) (y : Reg) (h : a < n) : ((List.range n).map f ++ J).set a y = ((List.range n).map f).set a y ++ J := List.set_append_left _ _ (by simpa using h)
theorem getD_none {n b : Nat} {g : Nat → List AV} (h : b < n) : ((List.range n).map g).getD b [] = g b := getD_rng g h
theorem sIndex_range (x : ByteArray) : ∀ (l : List ByteArray) (k : Nat), sIndex x k l = -1 ∨ ((k : Int) ≤ sIndex x k l ∧ sIndex x k l < (k : Int) + l.length)
  | [], k => .inl rfl
  | y :: l, k => by
    unfold sIndex
    split
    · right; rw [List.length_cons]; omega
    · rcases sIndex_range x l (k + 1) with h | h
      · exact .inl h
      · right; rw [List.length_cons]; omega
theorem baseF_more (cs : List Cau) (x : Cau) (l : List ByteArray) : baseF (cs ++ [x]) l = fun p q => baseF cs l p q || ((sIndex x.of 0 l == (p : Int)) && (sIndex x.by' 0 l == (q : Int))) := by
  funext p q
  unfold baseF
  rw [List.any_append]
  simp [Bool.or_assoc]
theorem mat_bd (n : Nat) (M : Nat → Nat → Bool) : ∀ g ∈ matR n M, bdR (matR n M).length g = true := fun g hg => by
  have hlen : (matR n M).length = n + 1 := by simp [matR]
  rw [hlen]
  rcases List.mem_cons.1 hg with rfl | hg
  · refine bdL_all fun x hx => ?_
    obtain ⟨i, hi, rfl⟩ := List.mem_map.1 hx
    unfold bdA
    rw [Nat.blt_eq]
    have := List.mem_range.1 hi; omega
  · obtain ⟨i, hi, rfl⟩ := List.mem_map.1 hg; rfl
set_option maxRecDepth 20000 in
set_option maxHeartbeats 1000000 in
theorem s25 (nl fl) (cs : List Cau) (nm' fm) (l : List ByteArray) (hl : l.length ≤ 1000) (hc : cs.length ≤ 1000) :
    Aw.Spec Try.prog 25 [] [cas nl fl cs, ss nm' fm l] (fun rg v => rg = [] ∧ v = .imm none true 1 ((List.range l.length).map fun i => [.imm none true 1 ((List.range l.length).map fun k => [B (reachF cs l i k)])])) := by
  refine Aw.Spec.regsW k25 rfl rfl fun E hn hnp hp => ?_
  unfold a25
  have pin : ∀ r, E.pin r = none := fun r => hp.none hnp (Nat.zero_le _)
  generalize hN : l.length = N at *
  refine AWp.ofD [] [] hn mixed rfl ?_
  simp (config := { maxSteps := 2000000 }) only [go_sem, ↓reduceIte, Int.reduceToNat, Nat.reduceMul, Int.reduceBEq, Int.reduceBNe, Nat.reduceBEq, Nat.reduceAdd, Nat.reduceSub, Nat.reduceLeDiff, Nat.reduceEqDiff, Nat.reduceLT, reduceCtorEq, hN]
  (repeat (refine And.intro (by first | omega | (refine ⟨by omega, by omega⟩) | (refine ⟨by omega, by omega, by omega⟩) | (simp only [List.length_map, List.length_range, List.length_append, List.length_cons, List.length_nil, List.length_replicate, List.length_set]; omega) | (simp; omega) | (intro hgd; cases hgd) | (intro hgd; refine ⟨hgd, ?_⟩; first | omega | (refine ⟨by omega, by omega⟩) | (simp; omega))) ?_))
  refine AWp.weak (weak_tab 0 (List.replicate N (.val (.slice none 0 0))) rfl (by rw [List.map_replicate])) ?_
  simp (config := { maxSteps := 2000000 }) only [go_sem, ↓reduceIte, Int.reduceToNat, Nat.reduceMul, Int.reduceBEq, Int.reduceBNe, Nat.reduceBEq, Nat.reduceAdd, Nat.reduceSub, Nat.reduceLeDiff, Nat.reduceEqDiff, Nat.reduceLT, reduceCtorEq]
  refine AWp.loop (fun k s => ∃ j : Nat, j + k = N ∧ Weak E s ⟨[(0, cas nl fl cs), (1, ss nm' fm l), (5, .hnd 0 0 N N true), (18, I N), (19, I j)],
      .tab 55 ((List.range N).map fun i => if i < j then .hnd (i + 1) 0 N N true else .val (.slice none 0 0)) :: (List.range j).map (rowR N fun i k => i == k)⟩) (n := N)
    ⟨0, by omega, ?_⟩ ?_
  · have h0 : ((List.range N).map fun i => if i < 0 then AV.hnd (i + 1) 0 N N true else .val (.slice none 0 0)) = List.replicate N (.val (.slice none 0 0)) := by
      refine List.ext_getElem (by simp) fun i h1 h2 => ?_
      simp
    rw [h0]
    exact weak_tm (by simp (config := { maxSteps := 2000000 }) only [go_sem, ↓reduceIte, Int.reduceToNat, Nat.reduceMul, Int.reduceBEq, Int.reduceBNe, Nat.reduceBEq, Nat.reduceAdd, Nat.reduceSub, Nat.reduceLeDiff, Nat.reduceEqDiff, Nat.reduceLT, reduceCtorEq, Int.natCast_zero])
  rintro k s ⟨j, hj, hw⟩
  refine AWp.weak hw (AWp.ofD [] [] hn mixed rfl ?_)
  rcases Nat.lt_or_ge j N with hlt | hge
  · have e0 : decide ((j : Int) < (N : Int)) = true := decide_eq_true (by omega)
    have e2 : IntKind.i64.wrap ((j : Int) + 1) = ((j + 1 : Nat) : Int) := by rw [w64 (by omega) (by omega)]; omega
    have e3 : ((List.range N).map fun i => if i < j then AV.hnd (i + 1) 0 N N true else .val (.slice none 0 0)).set j (.hnd (j + 1) 0 N N true) = (List.range N).map fun i => if i < j + 1 then AV.hnd (i + 1) 0 N N true else .val (.slice none 0 0) := by
      rw [set_rng]
      refine List.map_congr_left fun i _ => ?_
      by_cases h1 : i = j
      · subst h1; rw [if_pos rfl, if_pos (by omega)]
      · rw [if_neg h1]
        by_cases h2 : i < j
        · rw [if_pos h2, if_pos (by omega)]
        · rw [if_neg h2, if_neg (by omega)]
    have e4 : ((List.range N).map fun i => if i < j + 1 then AV.hnd (i + 1) 0 N N true else .val (.slice none 0 0)).getD j .any = .hnd (j + 1) 0 N N true := by
      rw [List.getD_eq_getElem?_getD, List.getElem?_map, List.getElem?_range hlt]
      simp
    have e5 : ∀ x : Reg, ((List.range j).map (rowR N fun i k => i == k) ++ [x]).getD j .dead = x := fun x => by
      rw [List.getD_eq_getElem?_getD, List.getElem?_append_right (by simp)]; simp
    have e6 : ∀ x y : Reg, ((List.range j).map (rowR N fun i k => i == k) ++ [x]).set j y = (List.range j).map (rowR N fun i k => i == k) ++ [y] := fun x y => by
      rw [List.set_append_right _ _ (by simp)]; simp
    have e7 : (List.range j).map (rowR N fun i k => i == k) ++ [.arr 4 1 ((List.replicate N [.val (.bool false)]).set j [.val (.bool true)])] = (List.range (j + 1)).map (rowR N fun i k => i == k) := by
      rw [List.range_succ, List.map_append]
      congr 2
      unfold rowR
      congr 1
      refine List.ext_getElem (by simp) fun i h1 h2 => ?_
      rw [List.getElem_set, List.getElem_replicate, List.getElem_map, List.getElem_range]
      by_cases h3 : j = i
      · subst h3; simp
      · rw [if_neg h3]
        show _ = [B (j == i)]
        rw [beq_eq_false_iff_ne.2 h3]
    have e8 : (List.replicate N [AV.val (.bool false)]).getD j [] = [.val (.bool false)] := by
      rw [List.getD_eq_getElem?_getD, List.getElem?_replicate, if_pos hlt]; rfl
    simp (config := { maxSteps := 2000000 }) only [go_sem, ↓reduceIte, Int.reduceToNat, Nat.reduceMul, Int.reduceBEq, Int.reduceBNe, Nat.reduceBEq, Nat.reduceAdd, Nat.reduceSub, Nat.reduceLeDiff, Nat.reduceEqDiff, Nat.reduceLT, reduceCtorEq, e0, hN, List.length_range, e3, e4]
    (repeat (refine And.intro (by first | omega | (refine ⟨by omega, by omega⟩) | (refine ⟨by omega, by omega, by omega⟩) | (simp only [List.length_map, List.length_range, List.length_append, List.length_cons, List.length_nil, List.length_replicate, List.length_set]; omega) | (simp; omega) | (intro hgd; cases hgd) | (intro hgd; refine ⟨hgd, ?_⟩; first | omega | (refine ⟨by omega, by omega⟩) | (simp; omega))) ?_))
    simp (config := { maxSteps := 2000000 }) only [go_sem, ↓reduceIte, Int.reduceToNat, Nat.reduceMul, Int.reduceBEq, Int.reduceBNe, Nat.reduceBEq, Nat.reduceAdd, Nat.reduceSub, Nat.reduceLeDiff, Nat.reduceEqDiff, Nat.reduceLT, reduceCtorEq, e4, e5, e6, e8, e2, e7]
    refine ⟨⟨by omega, by omega⟩, by rw [List.length_replicate]; exact hlt, k - 1, by omega, j + 1, by omega, ?_⟩
    rw [← List.range_succ]
    refine weak_tm ?_
    simp (config := { maxSteps := 2000000 }) only [go_sem, ↓reduceIte, Int.reduceToNat, Nat.reduceMul, Int.reduceBEq, Int.reduceBNe, Nat.reduceBEq, Nat.reduceAdd, Nat.reduceSub, Nat.reduceLeDiff, Nat.reduceEqDiff, Nat.reduceLT, reduceCtorEq]
  have e0 : decide ((j : Int) < (N : Int)) = false := decide_eq_false (by omega)
  obtain rfl : j = N := by omega
  have e9 : ((List.range j).map fun i => if i < j then AV.hnd (i + 1) 0 j j true else .val (.slice none 0 0)) = (List.range j).map fun i => .hnd (i + 1) 0 j j true :=
    List.map_congr_left fun i hi => if_pos (List.mem_range.1 hi)
  simp (config := { maxSteps := 2000000 }) only [go_sem, ↓reduceIte, Int.reduceToNat, Nat.reduceMul, Int.reduceBEq, Int.reduceBNe, Nat.reduceBEq, Nat.reduceAdd, Nat.reduceSub, Nat.reduceLeDiff, Nat.reduceEqDiff, Nat.reduceLT, reduceCtorEq, e0, e9]
  refine AWp.loop (fun k s => ∃ i : Nat, i + k = cs.length ∧ Weak E s ⟨[(0, cas nl fl cs), (1, ss nm' fm l), (5, .hnd 0 0 j j true), (35, cas nl fl cs), (36, I cs.length), (37, I i)], matR j (baseF (cs.take i) l)⟩) (n := cs.length)
    ⟨0, by omega, ?_⟩ ?_
  · have e10 : (fun i k : Nat => i == k) = baseF (cs.take 0) l := by
      funext i k
      show _ = ((i == k) || ([] : List Cau).any _)
      simp
    rw [e10]
    exact weak_tm (by simp (config := { maxSteps := 2000000 }) only [go_sem, ↓reduceIte, Int.reduceToNat, Nat.reduceMul, Int.reduceBEq, Int.reduceBNe, Nat.reduceBEq, Nat.reduceAdd, Nat.reduceSub, Nat.reduceLeDiff, Nat.reduceEqDiff, Nat.reduceLT, reduceCtorEq, Int.natCast_zero])
  rintro k s ⟨i, hik, hw⟩
  refine AWp.weak hw (AWp.ofD [] [] hn mixed rfl ?_)
  clear e9
  rcases Nat.lt_or_ge i cs.length with hlt | hge
  · have e0 : decide ((i : Int) < (cs.length : Int)) = true := decide_eq_true (by omega)
    have e1 := getD_map cac hlt
    have e2 : IntKind.i64.wrap ((i : Int) + 1) = ((i + 1 : Nat) : Int) := by rw [w64 (by omega) (by omega)]; omega
    have htk := take_get hlt
    generalize cs[i] = x at *
    simp (config := { maxSteps := 2000000 }) only [go_sem, ↓reduceIte, Int.reduceToNat, Nat.reduceMul, Int.reduceBEq, Int.reduceBNe, Nat.reduceBEq, Nat.reduceAdd, Nat.reduceSub, Nat.reduceLeDiff, Nat.reduceEqDiff, Nat.reduceLT, reduceCtorEq, e0, e1]
    (repeat (refine And.intro (by first | omega | (refine ⟨by omega, by omega⟩) | (refine ⟨by omega, by omega, by omega⟩) | (simp only [List.length_map, List.length_range, List.length_append, List.length_cons, List.length_nil, List.length_replicate, List.length_set]; omega) | (simp; omega) | (intro hgd; cases hgd) | (intro hgd; refine ⟨hgd, ?_⟩; first | omega | (refine ⟨by omega, by omega⟩) | (simp; omega))) ?_))
    simp (config := { maxSteps := 2000000 }) only [go_sem, ↓reduceIte, Int.reduceToNat, Nat.reduceMul, Int.reduceBEq, Int.reduceBNe, Nat.reduceBEq, Nat.reduceAdd, Nat.reduceSub, Nat.reduceLeDiff, Nat.reduceEqDiff, Nat.reduceLT, reduceCtorEq, List.length_range, last_get, last_set]
    refine AWpQ.calle (s16 nm' fm l x.of (by omega)) (by rw [hn]; rfl) (by simp (config := { maxSteps := 2000000 }) only [go_sem, ↓reduceIte, Int.reduceToNat, Nat.reduceMul, Int.reduceBEq, Int.reduceBNe, Nat.reduceBEq, Nat.reduceAdd, Nat.reduceSub, Nat.reduceLeDiff, Nat.reduceEqDiff, Nat.reduceLT, reduceCtorEq]) (AWpQ.of hn rfl ?_)
    simp (config := { maxSteps := 2000000 }) only [go_sem, ↓reduceIte, Int.reduceToNat, Nat.reduceMul, Int.reduceBEq, Int.reduceBNe, Nat.reduceBEq, Nat.reduceAdd, Nat.reduceSub, Nat.reduceLeDiff, Nat.reduceEqDiff, Nat.reduceLT, reduceCtorEq, last_get]
    refine AWpQ.calle (s16 nm' fm l x.by' (by omega)) (by rw [hn]; rfl) (by simp (config := { maxSteps := 2000000 }) only [go_sem, ↓reduceIte, Int.reduceToNat, Nat.reduceMul, Int.reduceBEq, Int.reduceBNe, Nat.reduceBEq, Nat.reduceAdd, Nat.reduceSub, Nat.reduceLeDiff, Nat.reduceEqDiff, Nat.reduceLT, reduceCtorEq]) (AWpQ.of hn rfl ?_)
    have ra := sIndex_range x.of l 0
    have rb := sIndex_range x.by' l 0
    have hb := baseF_more (cs.take i) x l
    rw [← htk] at hb
    generalize sIndex x.of 0 l = A at *
    generalize sIndex x.by' 0 l = Z at *
    have hno : ¬ (0 ≤ A ∧ 0 ≤ Z) → baseF (cs.take (i + 1)) l = baseF (cs.take i) l := fun h => by
      rw [hb]
      funext p q
      have : ((A == (p : Int)) && (Z == (q : Int))) = false := by
        rw [Bool.and_eq_false_iff, beq_eq_false_iff_ne, beq_eq_false_iff_ne]
        omega
      rw [this, Bool.or_false]
    have fin : ∀ M : Nat → Nat → Bool, baseF (cs.take (i + 1)) l = M → ∀ tm, subTm tm [(0, cas nl fl cs), (1, ss nm' fm l), (5, .hnd 0 0 j j true), (35, cas nl fl cs), (36, I cs.length), (37, I (i + 1 : Nat))] → ∀ J,
        Weak E ⟨tm, matR j M ++ J⟩ ⟨[(0, cas nl fl cs), (1, ss nm' fm l), (5, .hnd 0 0 j j true), (35, cas nl fl cs), (36, I cs.length), (37, I (i + 1 : Nat))], matR j (baseF (cs.take (i + 1)) l)⟩ := fun M hM tm ht J => by
      rw [hM]
      exact (weak_tm ht).trans (weak_pop (rg := matR j M) (J := J) (fun r p h => by rw [pin r] at h; cases h) rfl (mat_bd _ _))
    by_cases hA : 0 ≤ A
    · by_cases hZ : 0 ≤ Z
      · obtain ⟨p, rfl⟩ : ∃ p : Nat, A = p := ⟨A.toNat, by omega⟩
        obtain ⟨q, rfl⟩ : ∃ q : Nat, Z = q := ⟨Z.toNat, by omega⟩
        have hp' : p < j := by omega
        have hq' : q < j := by omega
        have e5 : decide ((p : Int) ≥ 0) = true := decide_eq_true (by omega)
        have e6 : decide ((q : Int) ≥ 0) = true := decide_eq_true (by omega)
        have e7 : [B true] = List.take 0 [B (baseF (cs.take i) l p q)] ++ ([B true] ++ List.drop (0 + 1) [B (baseF (cs.take i) l p q)]) := rfl
        simp (config := { maxSteps := 2000000 }) only [go_sem, ↓reduceIte, Int.reduceToNat, Nat.reduceMul, Int.reduceBEq, Int.reduceBNe, Nat.reduceBEq, Nat.reduceAdd, Nat.reduceSub, Nat.reduceLeDiff, Nat.reduceEqDiff, Nat.reduceLT, reduceCtorEq, e5, e6, List.length_range, tabR_get hp', app_get _ hp', app_set _ _ hp', getD_none hq']
        rw [matR_set hp' hq']
        refine ⟨⟨by omega, by omega⟩, hp', ⟨by omega, by omega⟩, hq', k - 1, by omega, i + 1, by omega, ?_⟩
        refine fin (upM (baseF (cs.take i) l) p q true) ?_ _ ?_ [.box 28 [S x.of, S x.by']]
        · rw [hb]
          funext p1 q1
          unfold upM
          by_cases h1 : p1 = p ∧ q1 = q
          · rw [if_pos h1, h1.1, h1.2]; simp
          · rw [if_neg h1]
            have : (((p : Int) == (p1 : Int)) && ((q : Int) == (q1 : Int))) = false := by
              rw [Bool.and_eq_false_iff, beq_eq_false_iff_ne, beq_eq_false_iff_ne]
              omega
            rw [this, Bool.or_false]
        · simp (config := { maxSteps := 2000000 }) only [go_sem, ↓reduceIte, Int.reduceToNat, Nat.reduceMul, Int.reduceBEq, Int.reduceBNe, Nat.reduceBEq, Nat.reduceAdd, Nat.reduceSub, Nat.reduceLeDiff, Nat.reduceEqDiff, Nat.reduceLT, reduceCtorEq, e2]
      · have e5 : decide (A ≥ 0) = true := decide_eq_true (by omega)
        have e6 : decide (Z ≥ 0) = false := decide_eq_false (by omega)
        simp (config := { maxSteps := 2000000 }) only [go_sem, ↓reduceIte, Int.reduceToNat, Nat.reduceMul, Int.reduceBEq, Int.reduceBNe, Nat.reduceBEq, Nat.reduceAdd, Nat.reduceSub, Nat.reduceLeDiff, Nat.reduceEqDiff, Nat.reduceLT, reduceCtorEq, e5, e6]
        refine ⟨k - 1, by omega, i + 1, by omega, ?_⟩
        refine fin _ (hno (by omega)) _ ?_ [.box 28 [S x.of, S x.by']]
        simp (config := { maxSteps := 2000000 }) only [go_sem, ↓reduceIte, Int.reduceToNat, Nat.reduceMul, Int.reduceBEq, Int.reduceBNe, Nat.reduceBEq, Nat.reduceAdd, Nat.reduceSub, Nat.reduceLeDiff, Nat.reduceEqDiff, Nat.reduceLT, reduceCtorEq, e2]
    · have e5 : decide (A ≥ 0) = false := decide_eq_false (by omega)
      simp (config := { maxSteps := 2000000 }) only [go_sem, ↓reduceIte, Int.reduceToNat, Nat.reduceMul, Int.reduceBEq, Int.reduceBNe, Nat.reduceBEq, Nat.reduceAdd, Nat.reduceSub, Nat.reduceLeDiff, Nat.reduceEqDiff, Nat.reduceLT, reduceCtorEq, e5]
      refine ⟨k - 1, by omega, i + 1, by omega, ?_⟩
      refine fin _ (hno (by omega)) _ ?_ [.box 28 [S x.of, S x.by']]
      simp (config := { maxSteps := 2000000 }) only [go_sem, ↓reduceIte, Int.reduceToNat, Nat.reduceMul, Int.reduceBEq, Int.reduceBNe, Nat.reduceBEq, Nat.reduceAdd, Nat.reduceSub, Nat.reduceLeDiff, Nat.reduceEqDiff, Nat.reduceLT, reduceCtorEq, e2]
  have e0 : decide ((i : Int) < (cs.length : Int)) = false := decide_eq_false (by omega)
  obtain rfl : i = cs.length := by omega
  rw [List.take_length] at *
  simp (config := { maxSteps := 2000000 }) only [go_sem, ↓reduceIte, Int.reduceToNat, Nat.reduceMul, Int.reduceBEq, Int.reduceBNe, Nat.reduceBEq, Nat.reduceAdd, Nat.reduceSub, Nat.reduceLeDiff, Nat.reduceEqDiff, Nat.reduceLT, reduceCtorEq, e0, hN]
  refine AWp.loop (fun k s => ∃ m : Nat, m + k = j ∧ Weak E s ⟨[(0, cas nl fl cs), (1, ss nm' fm l), (5, .hnd 0 0 j j true), (63, I j), (64, I m)], matR j (wsh (baseF cs l) m)⟩) (n := j)
    ⟨0, by omega, ?_⟩ ?_
  · refine weak_tm ?_
    simp (config := { maxSteps := 2000000 }) only [go_sem, ↓reduceIte, Int.reduceToNat, Nat.reduceMul, Int.reduceBEq, Int.reduceBNe, Nat.reduceBEq, Nat.reduceAdd, Nat.reduceSub, Nat.reduceLeDiff, Nat.reduceEqDiff, Nat.reduceLT, reduceCtorEq, Int.natCast_zero]
  rintro k s ⟨m, hmk, hw⟩
  refine AWp.weak hw (AWp.ofD [] [] hn mixed rfl ?_)
  rcases Nat.lt_or_ge m j with hlt | hge
  · have e0 : decide ((m : Int) < (j : Int)) = true := decide_eq_true (by omega)
    have em : IntKind.i64.wrap ((m : Int) + 1) = ((m + 1 : Nat) : Int) := by rw [w64 (by omega) (by omega)]; omega
    have hrf : wsh (baseF cs l) m m m = true := wsh_refl (baseF_refl cs l) m m
    have hnx : wsh (baseF cs l) (m + 1) = fun i k => wsh (baseF cs l) m i k || (wsh (baseF cs l) m i m && wsh (baseF cs l) m m k) := rfl
    generalize wsh (baseF cs l) m = M at *
    generalize hM' : wsh (baseF cs l) (m + 1) = M' at *
    simp (config := { maxSteps := 2000000 }) only [go_sem, ↓reduceIte, Int.reduceToNat, Nat.reduceMul, Int.reduceBEq, Int.reduceBNe, Nat.reduceBEq, Nat.reduceAdd, Nat.reduceSub, Nat.reduceLeDiff, Nat.reduceEqDiff, Nat.reduceLT, reduceCtorEq, e0, hN]
    have hM0 : M = fun p q => if p < 0 then M' p q else M p q := by funext p q; simp
    refine AWp.loop (fun k2 s => ∃ i : Nat, i + k2 = j ∧ Weak E s ⟨[(0, cas nl fl cs), (1, ss nm' fm l), (5, .hnd 0 0 j j true), (11, I m), (63, I j), (64, I m), (68, I j), (69, I i)], matR j (fun p q => if p < i then M' p q else M p q)⟩) (n := j)
      ⟨0, by omega, ?_⟩ ?_
    · rw [← hM0]
      refine weak_tm ?_
      simp (config := { maxSteps := 2000000 }) only [go_sem, ↓reduceIte, Int.reduceToNat, Nat.reduceMul, Int.reduceBEq, Int.reduceBNe, Nat.reduceBEq, Nat.reduceAdd, Nat.reduceSub, Nat.reduceLeDiff, Nat.reduceEqDiff, Nat.reduceLT, reduceCtorEq, Int.natCast_zero]
    rintro k2 s ⟨i, hik2, hw⟩
    refine AWp.weak hw (AWp.ofD [] [] hn mixed rfl ?_)
    rcases Nat.lt_or_ge i j with hli | hgi
    · have e0 : decide ((i : Int) < (j : Int)) = true := decide_eq_true (by omega)
      have ei : IntKind.i64.wrap ((i : Int) + 1) = ((i + 1 : Nat) : Int) := by rw [w64 (by omega) (by omega)]; omega
      simp (config := { maxSteps := 2000000 }) only [go_sem, ↓reduceIte, Int.reduceToNat, Nat.reduceMul, Int.reduceBEq, Int.reduceBNe, Nat.reduceBEq, Nat.reduceAdd, Nat.reduceSub, Nat.reduceLeDiff, Nat.reduceEqDiff, Nat.reduceLT, reduceCtorEq, e0, hN]
      have hM1 : (fun p q => if p < i then M' p q else M p q) = fun p q => if p < i ∨ (p = i ∧ q < 0) then M' p q else M p q := by funext p q; simp
      refine AWp.loop (fun k3 s => ∃ q : Nat, q + k3 = j ∧ Weak E s ⟨[(0, cas nl fl cs), (1, ss nm' fm l), (5, .hnd 0 0 j j true), (11, I m), (12, I i), (63, I j), (64, I m), (68, I j), (69, I i), (73, I j), (74, I q)], matR j (fun p q' => if p < i ∨ (p = i ∧ q' < q) then M' p q' else M p q')⟩) (n := j)
        ⟨0, by omega, ?_⟩ ?_
      · rw [← hM1]
        refine weak_tm ?_
        simp (config := { maxSteps := 2000000 }) only [go_sem, ↓reduceIte, Int.reduceToNat, Nat.reduceMul, Int.reduceBEq, Int.reduceBNe, Nat.reduceBEq, Nat.reduceAdd, Nat.reduceSub, Nat.reduceLeDiff, Nat.reduceEqDiff, Nat.reduceLT, reduceCtorEq, Int.natCast_zero]
      rintro k3 s ⟨q, hqk, hw⟩
      refine AWp.weak hw (AWp.ofD [] [] hn mixed rfl ?_)
      rcases Nat.lt_or_ge q j with hlq | hgq
      · have e0 : decide ((q : Int) < (j : Int)) = true := decide_eq_true (by omega)
        have eq' : IntKind.i64.wrap ((q : Int) + 1) = ((q + 1 : Nat) : Int) := by rw [w64 (by omega) (by omega)]; omega
        simp (config := { maxSteps := 2000000 }) only [go_sem, ↓reduceIte, Int.reduceToNat, Nat.reduceMul, Int.reduceBEq, Int.reduceBNe, Nat.reduceBEq, Nat.reduceAdd, Nat.reduceSub, Nat.reduceLeDiff, Nat.reduceEqDiff, Nat.reduceLT, reduceCtorEq, e0]
        have c1 : (if i < i ∨ (i = i ∧ q < q) then M' i q else M i q) = M i q := if_neg (by omega)
        have c2 : (if i < i ∨ (i = i ∧ m < q) then M' i m else M i m) = M i m := by
          rw [hnx]; dsimp only; rw [hrf]
          split <;> cases M i m <;> rfl
        have c3 : (if m < i ∨ (m = i ∧ q < q) then M' m q else M m q) = M m q := by
          rw [hnx]; dsimp only; rw [hrf]
          split <;> cases M m q <;> rfl
        have hup : upM (fun p q' => if p < i ∨ (p = i ∧ q' < q) then M' p q' else M p q') i q (M i q || (M i m && M m q)) = fun p q' => if p < i ∨ (p = i ∧ q' < q + 1) then M' p q' else M p q' := by
          funext p q'
          unfold upM
          by_cases h1 : p = i ∧ q' = q
          · rw [if_pos h1, if_pos (by omega), h1.1, h1.2, hnx]
          · rw [if_neg h1]
            show (if p < i ∨ (p = i ∧ q' < q) then M' p q' else M p q') = _
            by_cases h2 : p < i ∨ (p = i ∧ q' < q)
            · rw [if_pos h2, if_pos (by omega)]
            · rw [if_neg h2, if_neg (by omega)]
        generalize hMC : (fun p q' => if p < i ∨ (p = i ∧ q' < q) then M' p q' else M p q') = MC at *
        have hms := matR_set (n := j) (M := MC) (v := M i q || (M i m && M m q)) hli hlq
        rw [hup] at hms
        have d1 : MC i q = M i q := by rw [← hMC]; exact c1
        have d2 : MC i m = M i m := by rw [← hMC]; exact c2
        have d3 : MC m q = M m q := by rw [← hMC]; exact c3
        refine AWp.cut ⟨[(0, cas nl fl cs), (1, ss nm' fm l), (5, .hnd 0 0 j j true), (11, I m), (12, I i), (63, I j), (64, I m), (68, I j), (69, I i), (73, I j), (74, I q)], matR j (fun p q' => if p < i ∨ (p = i ∧ q' < q + 1) then M' p q' else M p q')⟩ ?_ ?_
        · refine AWp.plan (.take 0 [false, true, false, false, true, true, true, true, true, true, true, true, true, true, true, true, true, true, true, true, true, true, true, true, true, true, true, true, true, true, false, false] (.take 1 [true, false, false, false, true, true, true, true, true, true, true, true, true, true, true, true, true, true, true, true, true, true, true, true, true, true, true, true, true, true, false, false] (.take 2 [true, true, false, false, true, true, true, true, true, true, true, true, true, true, true, true, true, true, true, true, true, true, true, true, true, true, true, true, true, true, false, false] (.take 3 [true, true, true, false, true, true, true, true, true, true, true, true, true, true, true, true, true, true, true, true, true, true, true, true, true, true, true, true, true, true, false, false] (.take 4 [true, true, true, true, false, true, true, true, true, true, true, true, true, true, true, true, true, true, true, true, true, true, true, true, true, true, true, true, true, true, false, false] (.take 5 [true, true, true, true, true, false, true, false, false, true, false, false, false, false, false, false, false, false, false, false, false, false, false, false, false, false, false, false, false, false, false, false] (.take 6 [true, true, true, true, true, true, false, false, false, true, false, false, false, false, false, false, false, false, false, false, false, false, false, false, false, false, false, false, false, false, false, false] (.take 7 [true, true, true, true, true, true, true, false, false, true, false, false, false, false, false, false, false, false, false, false, false, false, false, false, false, false, false, false, false, false, false, false] (.take 8 [true, true, true, true, true, true, true, true, false, true, false, false, false, false, false, false, false, false, false, false, false, false, false, false, false, false, false, false, false, false, false, false] (.take 9 [true, true, true, true, true, true, true, true, true, false, false, false, false, false, false, false, false, false, false, false, false, false, false, false, false, false, false, false, false, false, false, false] (.take 10 [true, true, true, true, true, true, true, true, true, true, false, false, false, false, false, false, false, false, false, false, false, false, false, false, false, false, false, false, false, false, false, false] (.take 11 [true, true, true, true, true, true, true, true, true, true, true, false, false, false, false, false, false, false, false, false, false, false, false, false, false, false, false, false, false, false, false, false] (.take 12 [true, true, true, true, true, true, true, true, true, true, true, true, false, false, false, false, false, false, false, false, false, false, false, false, false, false, false, false, false, false, false, false] (.take 13 [true, true, true, true, true, true, true, true, true, true, true, true, true, false, true, false, false, true, false, false, false, false, false, false, false, false, false, false, false, false, false, false] (.take 14 [true, true, true, true, true, true, true, true, true, true, true, true, true, true, false, false, false, true, false, false, false, false, false, false, false, false, false, false, false, false, false, false] (.take 15 [true, true, true, true, true, true, true, true, true, true, true, true, true, true, true, false, false, true, false, false, false, false, false, false, false, false, false, false, false, false, false, false] (.take 16 [true, true, true, true, true, true, true, true, true, true, true, true, true, true, true, true, false, true, false, false, false, false, false, false, false, false, false, false, false, false, false, false] (.take 17 [true, true, true, true, true, true, true, true, true, true, true, true, true, true, true, true, true, false, false, false, false, false, false, false, false, false, false, false, false, false, false, false] (.take 18 [true, true, true, true, true, true, true, true, true, true, true, true, true, true, true, true, true, true, false, false, false, false, false, false, false, false, false, false, false, false, false, false] (.take 19 [true, true, true, true, true, true, true, true, true, true, true, true, true, true, true, true, true, true, true, false, false, false, false, false, false, false, false, false, false, false, false, false] (.take 20 [true, true, true, true, true, true, true, true, true, true, true, true, true, true, true, true, true, true, true, true, false, false, false, false, false, false, false, false, false, false, false, false] (.take 21 [true, true, true, true, true, true, true, true, true, true, true, true, true, true, true, true, true, true, true, true, true, false, true, false, false, true, false, false, false, false, false, false] (.take 22 [true, true, true, true, true, true, true, true, true, true, true, true, true, true, true, true, true, true, true, true, true, true, false, false, false, true, false, false, false, false, false, false] (.take 23 [true, true, true, true, true, true, true, true, true, true, true, true, true, true, true, true, true, true, true, true, true, true, true, false, false, true, false, false, false, false, false, false] (.take 24 [true, true, true, true, true, true, true, true, true, true, true, true, true, true, true, true, true, true, true, true, true, true, true, true, false, true, false, false, false, false, false, false] (.take 25 [true, true, true, true, true, true, true, true, true, true, true, true, true, true, true, true, true, true, true, true, true, true, true, true, true, false, false, false, false, false, false, false] (.take 26 [true, true, true, true, true, true, true, true, true, true, true, true, true, true, true, true, true, true, true, true, true, true, true, true, true, true, false, false, false, false, false, false] (.take 27 [true, true, true, true, true, true, true, true, true, true, true, true, true, true, true, true, true, true, true, true, true, true, true, true, true, true, true, false, false, false, false, false] (.take 28 [true, true, true, true, true, true, true, true, true, true, true, true, true, true, true, true, true, true, true, true, true, true, true, true, true, true, true, true, false, false, false, false] (.take 29 [true, true, true, true, true, true, true, true, true, true, true, true, true, true, true, true, true, true, true, true, true, true, true, true, true, true, true, true, true, false, false, false] (.take 30 [true, true, true, true, true, true, true, true, true, true, true, true, true, true, true, true, true, true, true, true, true, true, true, true, true, true, true, true, true, true, false, false] (.one 31 .done)))))))))))))))))))))))))))))))) [true, true, true, true, true, true, true, true, true, true, true, true, true, true, true, true, true, true, true, true, true, true, true, true, true, true, true, true, true, true, true, false] mixed hn rfl rfl ?_
          simp (config := { maxSteps := 2000000 }) only [go_sem, ↓reduceIte, Int.reduceToNat, Nat.reduceMul, Int.reduceBEq, Int.reduceBNe, Nat.reduceBEq, Nat.reduceAdd, Nat.reduceSub, Nat.reduceLeDiff, Nat.reduceEqDiff, Nat.reduceLT, reduceCtorEq, tabR_get hli, tabR_get hlt, matR_get hli, matR_get hlt, getD_none hlq, getD_none hlt, d1, d2, d3, List.length_range]
          refine ⟨⟨by omega, by omega⟩, hli, ⟨by omega, by omega⟩, hli, ⟨by omega, by omega⟩, hlq, fun h => ⟨h, by omega, by omega⟩, fun h => ⟨h, hli⟩, fun h => ⟨h, by omega, by omega⟩, fun h => ⟨h, hlt⟩, fun h => ⟨h, by omega, by omega⟩, fun h => ⟨h, hlt⟩, fun h => ⟨h, by omega, by omega⟩, fun h => ⟨h, hlq⟩, fun h => ⟨h, fun h2 => by rw [h, h2]; rfl⟩, ⟨by omega, by omega⟩, hlq, ?_⟩
          rw [hms]
          refine weak_tm ?_
          simp (config := { maxSteps := 2000000 }) only [go_sem, ↓reduceIte, Int.reduceToNat, Nat.reduceMul, Int.reduceBEq, Int.reduceBNe, Nat.reduceBEq, Nat.reduceAdd, Nat.reduceSub, Nat.reduceLeDiff, Nat.reduceEqDiff, Nat.reduceLT, reduceCtorEq]
        · simp (config := { maxSteps := 2000000 }) only [go_sem, ↓reduceIte, Int.reduceToNat, Nat.reduceMul, Int.reduceBEq, Int.reduceBNe, Nat.reduceBEq, Nat.reduceAdd, Nat.reduceSub, Nat.reduceLeDiff, Nat.reduceEqDiff, Nat.reduceLT, reduceCtorEq, eq']
          refine ⟨k3 - 1, by omega, q + 1, by omega, ?_⟩
          refine weak_tm ?_
          simp (config := { maxSteps := 2000000 }) only [go_sem, ↓reduceIte, Int.reduceToNat, Nat.reduceMul, Int.reduceBEq, Int.reduceBNe, Nat.reduceBEq, Nat.reduceAdd, Nat.reduceSub, Nat.reduceLeDiff, Nat.reduceEqDiff, Nat.reduceLT, reduceCtorEq]
      · have e0 : decide ((q : Int) < (j : Int)) = false := decide_eq_false (by omega)
        have hM2 : matR j (fun p q' => if p < i ∨ (p = i ∧ q' < q) then M' p q' else M p q') = matR j (fun p q => if p < i + 1 then M' p q else M p q) := by
          obtain rfl : q = j := by omega
          unfold matR
          congr 1
          refine List.map_congr_left fun p hp' => ?_
          unfold rowR
          congr 1
          refine List.map_congr_left fun q' hq' => ?_
          have h1 := List.mem_range.1 hp'
          have h2 := List.mem_range.1 hq'
          dsimp only
          by_cases h3 : p < i + 1
          · rw [if_pos h3, if_pos (by omega)]
          · rw [if_neg h3, if_neg (by omega)]
        rw [hM2]
        simp (config := { maxSteps := 2000000 }) only [go_sem, ↓reduceIte, Int.reduceToNat, Nat.reduceMul, Int.reduceBEq, Int.reduceBNe, Nat.reduceBEq, Nat.reduceAdd, Nat.reduceSub, Nat.reduceLeDiff, Nat.reduceEqDiff, Nat.reduceLT, reduceCtorEq, e0, ei]
        refine ⟨k2 - 1, by omega, i + 1, by omega, ?_⟩
        refine weak_tm ?_
        simp (config := { maxSteps := 2000000 }) only [go_sem, ↓reduceIte, Int.reduceToNat, Nat.reduceMul, Int.reduceBEq, Int.reduceBNe, Nat.reduceBEq, Nat.reduceAdd, Nat.reduceSub, Nat.reduceLeDiff, Nat.reduceEqDiff, Nat.reduceLT, reduceCtorEq]
    · have e0 : decide ((i : Int) < (j : Int)) = false := decide_eq_false (by omega)
      have hM2 : matR j (fun p q => if p < i then M' p q else M p q) = matR j M' := by
        obtain rfl : i = j := by omega
        unfold matR
        congr 1
        refine List.map_congr_left fun p hp' => ?_
        unfold rowR
        congr 1
        refine List.map_congr_left fun q' hq' => ?_
        have h1 := List.mem_range.1 hp'
        dsimp only
        rw [if_pos h1]
      rw [hM2]
      simp (config := { maxSteps := 2000000 }) only [go_sem, ↓reduceIte, Int.reduceToNat, Nat.reduceMul, Int.reduceBEq, Int.reduceBNe, Nat.reduceBEq, Nat.reduceAdd, Nat.reduceSub, Nat.reduceLeDiff, Nat.reduceEqDiff, Nat.reduceLT, reduceCtorEq, e0, em]
      refine ⟨k - 1, by omega, m + 1, by omega, ?_⟩
      rw [hM']
      refine weak_tm ?_
      simp (config := { maxSteps := 2000000 }) only [go_sem, ↓reduceIte, Int.reduceToNat, Nat.reduceMul, Int.reduceBEq, Int.reduceBNe, Nat.reduceBEq, Nat.reduceAdd, Nat.reduceSub, Nat.reduceLeDiff, Nat.reduceEqDiff, Nat.reduceLT, reduceCtorEq]
  have e0 : decide ((m : Int) < (j : Int)) = false := decide_eq_false (by omega)
  obtain rfl : m = j := by omega
  simp (config := { maxSteps := 2000000 }) only [go_sem, ↓reduceIte, Int.reduceToNat, Nat.reduceMul, Int.reduceBEq, Int.reduceBNe, Nat.reduceBEq, Nat.reduceAdd, Nat.reduceSub, Nat.reduceLeDiff, Nat.reduceEqDiff, Nat.reduceLT, reduceCtorEq, e0]
  refine Retn.weak (weak_tm (tm := [(4, .hnd 0 0 m m true)]) ?_) _ ?_
  · simp (config := { maxSteps := 2000000 }) only [go_sem, ↓reduceIte, Int.reduceToNat, Nat.reduceMul, Int.reduceBEq, Int.reduceBNe, Nat.reduceBEq, Nat.reduceAdd, Nat.reduceSub, Nat.reduceLeDiff, Nat.reduceEqDiff, Nat.reduceLT, reduceCtorEq]
  refine Retn.weak (weak_rows (e := 55) (e' := 4) (sz := 1) (n := m) (m := m) (fun i => (List.range m).map fun k => [B (wsh (baseF cs l) m i k)]) (fun i _ => by simp) (fun r => pin (r + 1)) rfl) _ ?_
  refine Retn.weak (weak_freeze 0 rfl (pin 0) ?_) _ ?_
  · refine ⟨⟨fun _ => by simp, trivial⟩, ?_⟩
    exact frzOR_plain fun g hg => by
      rcases List.mem_cons.1 hg with rfl | hg
      · exact .inr ⟨_, _, _, rfl⟩
      · exact .inl (List.eq_of_mem_replicate hg)
  have hR : reachF cs l = wsh (baseF cs l) m := by unfold reachF; rw [hN]
  rw [hR]
  have htk : ((List.range m).map fun i => [AV.imm none true 1 ((List.range m).map fun k => [B (wsh (baseF cs l) m i k)])]).take m = (List.range m).map fun i => [AV.imm none true 1 ((List.range m).map fun k => [B (wsh (baseF cs l) m i k)])] := List.take_of_length_le (by simp)
  refine Retn.ret (π := []) hp hnp ⟨rfl, ?_⟩
  simp (config := { maxSteps := 2000000 }) only [go_sem, ↓reduceIte, Int.reduceToNat, Nat.reduceMul, Int.reduceBEq, Int.reduceBNe, Nat.reduceBEq, Nat.reduceAdd, Nat.reduceSub, Nat.reduceLeDiff, Nat.reduceEqDiff, Nat.reduceLT, reduceCtorEq, htk]
end Go.Proofs.Ytoickofcmngdjaa
