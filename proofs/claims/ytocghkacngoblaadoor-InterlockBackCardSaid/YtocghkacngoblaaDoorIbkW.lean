/- Interlocks: rules printed. -/
import Derived.Test.YtocghkacngoblaaDoorAwZo
import Derived.Test.YtocghkacngoblaaDoorIbkV
import Derived.Test.YtocghkacngoblaaDoorBldC
import Derived.Test.YtocghkacngoblaaDoorOrdB
set_option linter.unusedVariables false
set_option linter.unusedSimpArgs false
namespace Go.Proofs.YtocghkacngoblaaDoor
open Go.Proofs.YtocghkacngoblaaDoor.Aw
attribute [local go_sem] Int.natCast_zero Int.natCast_one bne_self_eq_false beq_self_eq_true Bool.not_true Bool.not_false Option.isSome_none Option.isSome_some Aw.bkM_nil Option.getD_some Option.getD_none Nat.sub_zero Int.toNat_zero Aw.frzS Aw.frzT Aw.frzA Aw.frzL Aw.frzR Aw.frzO Aw.frzOL Aw.frzOT Aw.frzOR Aw.killS Aw.mapT Aw.mapR Aw.killM Aw.resAVs Aw.resAV Aw.quietOps Aw.wpP Aw.wpT Aw.wpS Aw.AOp.mild List.getElem?_cons_zero List.getElem?_cons_succ Bool.and_false Bool.and_self Bool.false_and Aw.opOb Aw.gdB Aw.Rnd Aw.subTm List.length_map Int.toNat_natCast and_self Aw.SeqC Aw.stops Aw.Ends Aw.looks Aw.renA Aw.renL Aw.renT Aw.renS Aw.wpO Aw.aop Aw.putTm Aw.St.ev Aw.St.put Aw.St.putO Aw.binAV Aw.intBin Aw.strBin Aw.pickAV Aw.optInt Aw.AV.strip Aw.AV.guard Aw.AV.cells Aw.gdOb Aw.AOp.opds Aw.AOp.still Aw.ptrCells Aw.St.reg Aw.fillAV Aw.fillOb Aw.elsOb Aw.splice Aw.firm Aw.cellish Aw.AV.shut Aw.shutAll Aw.Seq Aw.Blk Aw.retS_nil Aw.mapA Aw.mapL Aw.borA Aw.borOb Aw.allOb Aw.tupOf Aw.params Aw.Opd.of Array.toList Value.cells List.map_cons List.map_nil List.getD_cons_zero List.getD_cons_succ List.getD_nil List.length_cons List.length_nil List.take_succ_cons List.take_zero List.take_nil List.drop_zero List.drop_succ_cons List.drop_nil List.set_cons_zero List.set_cons_succ List.append_nil List.nil_append List.cons_append List.all_cons List.all_nil cond_false cond_true if_true if_false true_and and_true Bool.and_true Bool.true_and Option.map_some Option.map_none false_implies forall_const implies_true forall_eq imp_self Bool.cond_false_right Bool.cond_true_left beq_true beq_false Bool.not_eq_true' Bool.false_eq_true Nat.zero_add Nat.add_zero Aw.eqCells Aw.stopDraw Aw.skipS Aw.exactCap Aw.revealS Aw.srcEls Aw.srcSz
attribute [local go_sem ↓] Aw.look_nil Aw.look_ite Aw.wpL_nil Aw.wpL_op Aw.wpL_gd Aw.wpQ_nil Aw.wpQ_op Aw.wpQ_gd Aw.wpC_draw Aw.wpC_reg Aw.wpC_skip Aw.wpC_ret Aw.wpC_exit Aw.wpC_seq Aw.wpC_block Aw.wpC_loop Aw.wpC_cond Aw.stopAt_nil Aw.stopAt_cons Aw.wpD_skip Aw.wpD_ret Aw.wpD_exit Aw.wpD_region Aw.wpD_draw Aw.wpM_nil Aw.wpM_op Aw.wpM_gd Aw.wpD_seq Aw.wpD_block Aw.wpD_loop Aw.wpD_cond
open Ibk
/- gridhall/interlock.Print -/
def a15 : ACode :=
  (.seq (.region false [] [
     ⟨(some 2), none, (.mov (.v (.string ⟨#[]⟩)))⟩,
     ⟨(some 3), none, (.mov (.v (.int .i64 0)))⟩])
  (.seq (.seq (.region false [] [
     ⟨(some 9), none, (.mov (.t 0))⟩,
     ⟨(some 10), none, (.call 18 [(.t 9)])⟩,
     ⟨(some 4), none, (.mov (.t 10))⟩])
  (.seq (.region false [] [
     ⟨(some 11), none, (.mov (.t 4))⟩,
     ⟨(some 12), none, (.bin .neq 27 (.t 11) (.v (.int .i64 0)))⟩])
  (.cond (.t 12)
    (.seq (.region false [] [
       ⟨(some 13), none, (.mov (.t 4))⟩,
       ⟨(some 2), none, (.mov (.v (.string ⟨#[]⟩)))⟩,
       ⟨(some 3), none, (.mov (.t 13))⟩])
    .ret)
    .skip)))
  (.seq (.region false [] [
     ⟨(some 5), none, (.alloc 64 (.agg #[(.pointer none), (.slice none 0 0)]))⟩])
  (.seq (.seq (.region false [] [
     ⟨(some 14), none, (.mov (.t 0))⟩,
     ⟨(some 15), none, (.len (.t 14))⟩,
     ⟨(some 16), none, (.mov (.v (.int .i64 0)))⟩])
  (.block 0 (.loop (.seq (.region false [] [
       ⟨(some 17), none, (.bin .lss 3 (.t 16) (.t 15))⟩])
    (.seq (.cond (.t 17)
      .skip
      (.exit 0))
    (.seq (.block 1 (.seq (.region false [] [
        ⟨(some 18), none, (.idx 3 (.t 14) (.t 16))⟩,
        ⟨(some 19), none, (.load 3 true (.t 18))⟩,
        ⟨(some 7), none, (.alloc 24 (.agg #[(.bool false), (.string ⟨#[]⟩), (.slice none 0 0)]))⟩,
        ⟨none, none, (.store 3 (.t 7) (.t 19))⟩])
     (.seq (.region false [] [
        ⟨(some 8), none, (.mov (.v (.string ⟨#[111, 112, 101, 110, 32]⟩)))⟩])
     (.seq (.seq (.region false [] [
        ⟨(some 20), none, (.fld 0 (.t 7))⟩,
        ⟨(some 21), none, (.load 1 false (.t 20))⟩])
     (.cond (.t 21)
       (.region false [] [
          ⟨(some 8), none, (.mov (.v (.string ⟨#[99, 108, 111, 115, 101, 32]⟩)))⟩])
       .skip))
     (.region true [[], [], [1], [0, 2], [3], [], [5], [], [7], [8], [9], [6, 10], [4, 11], [12], [13, 11]] [
        ⟨(some 22), none, (.mov (.t 8))⟩,
        ⟨(some 23), none, (.fld 1 (.t 7))⟩,
        ⟨(some 24), none, (.load 1 false (.t 23))⟩,
        ⟨(some 25), none, (.bin .add 9 (.t 22) (.t 24))⟩,
        ⟨(some 26), none, (.bin .add 9 (.t 25) (.v (.string ⟨#[32, 119, 104, 101, 110, 32]⟩)))⟩,
        ⟨(some 27), none, (.fld 2 (.t 7))⟩,
        ⟨(some 28), none, (.load 1 false (.t 27))⟩,
        ⟨(some 29), none, (.fld 2 (.t 7))⟩,
        ⟨(some 30), none, (.load 1 false (.t 29))⟩,
        ⟨(some 31), none, (.len (.t 30))⟩,
        ⟨(some 32), none, (.bin .sub 3 (.t 31) (.v (.int .i64 1)))⟩,
        ⟨(some 33), none, (.call 26 [(.t 28), (.t 32), (.v (.int .i64 0))])⟩,
        ⟨(some 34), none, (.bin .add 9 (.t 26) (.t 33))⟩,
        ⟨(some 35), none, (.bin .add 9 (.t 34) (.v (.string ⟨#[10]⟩)))⟩,
        ⟨(some 36), none, (.call 25 [(.t 5), (.t 35)])⟩])))))
    (.region false [] [
       ⟨(some 37), none, (.bin .add 3 (.t 16) (.v (.int .i64 1)))⟩,
       ⟨(some 16), none, (.mov (.t 37))⟩])))))))
  (.seq (.seq (.region false [] [
     ⟨(some 38), none, (.call 27 [(.t 5)])⟩,
     ⟨(some 39), none, (.bin .gtr 3 (.t 38) (.v (.int .i64 8192)))⟩])
  (.cond (.t 39)
    (.seq (.region false [] [
       ⟨(some 2), none, (.mov (.v (.string ⟨#[]⟩)))⟩,
       ⟨(some 3), none, (.mov (.v (.int .i64 2)))⟩])
    .ret)
    .skip))
  (.seq (.region false [] [
     ⟨(some 40), none, (.call 28 [(.t 5)])⟩,
     ⟨(some 2), none, (.mov (.t 40))⟩,
     ⟨(some 3), none, (.mov (.v (.int .i64 0)))⟩])
  .ret))))))
theorem k15 : FnIs Tryd.prog 15 41 [.t 2, .t 3] a15 := ⟨_, _, Tryd.func15, rfl, by kernel_rfl, by kernel_rfl, rfl⟩

def GoodX (x : Rul × Tr) : Prop := nm 8 x.1.sw = true ∧ Val (nm 8) x.2 ∧ sz x.2 ≤ 40 ∧ x.1.cond = nds x.2 0
def lnW (x : Rul × Tr) : List ByteArray := vb x.1.close :: x.1.sw :: wWhen :: toks x.2 0
def lnT (x : Rul × Tr) : ByteArray := joinS 32 (lnW x)
def txtX : List (Rul × Tr) → ByteArray
  | [] => ⟨#[]⟩
  | x :: l => lnT x ++ ⟨#[10]⟩ ++ txtX l
theorem txtX_snoc : ∀ (l : List (Rul × Tr)) (x : Rul × Tr), txtX (l ++ [x]) = txtX l ++ (lnT x ++ ⟨#[10]⟩)
  | [], x => by
    show lnT x ++ ⟨#[10]⟩ ++ ⟨#[]⟩ = ⟨#[]⟩ ++ (lnT x ++ ⟨#[10]⟩)
    rw [show (⟨#[]⟩ : ByteArray) = ByteArray.empty from rfl, ByteArray.append_empty, ByteArray.empty_append]
  | y :: l, x => by
    show lnT y ++ ⟨#[10]⟩ ++ txtX (l ++ [x]) = lnT y ++ ⟨#[10]⟩ ++ txtX l ++ _
    rw [txtX_snoc l x]
    simp only [ByteArray.append_assoc]
/-- How long a line is. -/
theorem lnT_size {x : Rul × Tr} (h : GoodX x) : (lnT x).size ≤ 900 := by
  have h1 := join_size 32 (l := lnW x) (by unfold lnW; simp)
  have h2 := wl_le x.2 0 h.2.1
  have h3 := nm_le h.1
  have h4 : (vb x.1.close).size ≤ 5 := by unfold vb; split <;> decide
  have h5 := h.2.2.1
  unfold lnT
  have h6 : wl (lnW x) = (vb x.1.close).size + 1 + (x.1.sw.size + 1 + (5 + wl (toks x.2 0))) := by
    unfold lnW
    simp only [wl]
    rw [show wWhen.size = 4 from rfl]
  omega
theorem txtX_size : ∀ {l : List (Rul × Tr)}, (∀ x ∈ l, GoodX x) → (txtX l).size ≤ 901 * l.length
  | [], _ => Nat.le_refl _
  | x :: l, h => by
    have h1 := lnT_size (h x List.mem_cons_self)
    have h2 := txtX_size (l := l) fun y hy => h y (List.mem_cons_of_mem _ hy)
    show (lnT x ++ ⟨#[10]⟩ ++ txtX l).size ≤ _
    rw [ByteArray.size_append, ByteArray.size_append, List.length_cons]
    have : (⟨#[10]⟩ : ByteArray).size = 1 := rfl
    omega
theorem txtX_pos {x : Rul × Tr} {l : List (Rul × Tr)} : 0 < (txtX (x :: l)).size := by
  show 0 < (lnT x ++ ⟨#[10]⟩ ++ txtX l).size
  rw [ByteArray.size_append, ByteArray.size_append]
  have : (⟨#[10]⟩ : ByteArray).size = 1 := rfl
  omega
theorem lnT_eq (x : Rul × Tr) : vb x.1.close ++ ⟨#[32]⟩ ++ x.1.sw ++ ⟨#[32, 119, 104, 101, 110, 32]⟩ ++ txtT x.2 0 = lnT x := by
  unfold lnT lnW
  rw [join_cons 32 _ (by simp), join_cons 32 _ (by simp), join_cons 32 _ (toks_ne _ _)]
  rw [show (⟨#[32, 119, 104, 101, 110, 32]⟩ : ByteArray) = ⟨#[32]⟩ ++ wWhen ++ ⟨#[32]⟩ by decide +kernel]
  unfold txtT
  simp only [ByteArray.append_assoc]
theorem check_val {l : List Rul} (h : checkF l = 0) : l.length ≤ 24 ∧ ∀ r ∈ l, nm 8 r.sw = true ∧ condF r.cond = 0 := by
  unfold checkF at h
  split at h
  · cases h
  · refine ⟨by omega, ?_⟩
    rename_i hle
    clear hle
    induction l with
    | nil => intro r hr; cases hr
    | cons y l ih =>
      have h' : (if ruleE y ≠ 0 then ruleE y else checkGo l) = 0 := h
      split at h'
      · rename_i e; exact absurd h' e
      · rename_i e
        intro r hr
        rcases List.mem_cons.1 hr with rfl | hr
        · unfold ruleE at e
          split at e
          · exact absurd (by decide) e
          · rename_i e2
            exact ⟨by simpa using e2, Decidable.not_not.1 e⟩
        · exact ih h' r hr
theorem check_ok {l : List Rul} (hl : l.length ≤ 24) (h : ∀ r ∈ l, nm 8 r.sw = true ∧ condF r.cond = 0) : checkF l = 0 := by
  unfold checkF
  rw [if_neg (by omega)]
  clear hl
  induction l with
  | nil => rfl
  | cons y l ih =>
    show (if ruleE y ≠ 0 then ruleE y else checkGo l) = 0
    have h1 := h y List.mem_cons_self
    have : ruleE y = 0 := by unfold ruleE; rw [if_neg (by simp [h1.1]), h1.2]
    rw [if_neg (by simp [this])]
    exact ih fun r hr => h r (List.mem_cons_of_mem _ hr)
/-- Valid rules are printed by their trees. -/
theorem good_of : ∀ {l : List Rul}, (∀ r ∈ l, nm 8 r.sw = true ∧ condF r.cond = 0) → ∃ xs : List (Rul × Tr), xs.map Prod.fst = l ∧ ∀ x ∈ xs, GoodX x
  | [], _ => ⟨[], rfl, fun x h => by cases h⟩
  | r :: l, h => by
    obtain ⟨xs, h1, h2⟩ := good_of (l := l) fun r hr => h r (List.mem_cons_of_mem _ hr)
    obtain ⟨h3, h4⟩ := h r List.mem_cons_self
    obtain ⟨t, h5, h6, h7⟩ := cond_iff.1 h4
    refine ⟨(r, t) :: xs, by simp [h1], fun x hx => ?_⟩
    rcases List.mem_cons.1 hx with rfl | hx
    · exact ⟨h3, h5, h6, h7⟩
    · exact h2 x hx
theorem good_chk {xs : List (Rul × Tr)} (hl : xs.length ≤ 24) (h : ∀ x ∈ xs, GoodX x) : checkF (xs.map Prod.fst) = 0 := by
  refine check_ok (by rw [List.length_map]; exact hl) fun r hr => ?_
  obtain ⟨x, hx, rfl⟩ := List.mem_map.1 hr
  obtain ⟨h1, h2, h3, h4⟩ := h x hx
  exact ⟨h1, cond_iff.2 ⟨x.2, h2, h3, h4⟩⟩
def PrR (xs : List (Rul × Tr)) : AV := if (txtX xs).size > 8192 then .tup [S ⟨#[]⟩, I 2] else .tup [S (txtX xs), I 0]
def pi (i : Nat) : AV := if i = 0 then .val (.pointer none) else .ptr 0 0 0
set_option maxRecDepth 100000 in
set_option maxHeartbeats 4000000 in
theorem print_bad (nl fl) (l : List Rul) (hs : ∀ r ∈ l, RulOk r) (hc : checkF l ≠ 0) : Aw.Spec Tryd.prog 15 [] [rs nl fl l] (fun rg v => rg = [] ∧ v = .tup [S ⟨#[]⟩, I (checkF l)]) := by
  refine Aw.Spec.regsW k15 rfl rfl fun E hn hnp hp => ?_
  unfold a15
  have pin : ∀ r, E.pin r = none := fun r => hp.none hnp (Nat.zero_le _)
  have e1 : (checkF l != 0) = true := by rw [bne_iff_ne]; exact hc
  refine AWp.ofD [] [] hn mixed rfl ?_
  simp (config := { maxSteps := 2000000 }) only [go_sem, ↓reduceIte, Int.reduceToNat, Nat.reduceMul, Int.reduceBEq, Int.reduceBNe, Nat.reduceBEq, Nat.reduceAdd, Nat.reduceSub, Nat.reduceLeDiff, Nat.reduceEqDiff, Nat.reduceLT, reduceCtorEq]
  (refine AWpL.calle (s18 nl fl l hs) rfl (by rw [hn]; rfl) (by simp (config := { maxSteps := 2000000 }) only [go_sem, ↓reduceIte, Int.reduceToNat, Nat.reduceMul, Int.reduceBEq, Int.reduceBNe, Nat.reduceBEq, Nat.reduceAdd, Nat.reduceSub, Nat.reduceLeDiff, Nat.reduceEqDiff, Nat.reduceLT, reduceCtorEq]) (AWpL.ofM hn rfl ?_); simp (config := { maxSteps := 2000000 }) only [go_sem, ↓reduceIte, Int.reduceToNat, Nat.reduceMul, Int.reduceBEq, Int.reduceBNe, Nat.reduceBEq, Nat.reduceAdd, Nat.reduceSub, Nat.reduceLeDiff, Nat.reduceEqDiff, Nat.reduceLT, reduceCtorEq])
  simp (config := { maxSteps := 2000000 }) only [go_sem, ↓reduceIte, Int.reduceToNat, Nat.reduceMul, Int.reduceBEq, Int.reduceBNe, Nat.reduceBEq, Nat.reduceAdd, Nat.reduceSub, Nat.reduceLeDiff, Nat.reduceEqDiff, Nat.reduceLT, reduceCtorEq, e1]
  refine Retn.ret (π := []) hp hnp ⟨rfl, ?_⟩
  simp (config := { maxSteps := 2000000 }) only [go_sem, ↓reduceIte, Int.reduceToNat, Nat.reduceMul, Int.reduceBEq, Int.reduceBNe, Nat.reduceBEq, Nat.reduceAdd, Nat.reduceSub, Nat.reduceLeDiff, Nat.reduceEqDiff, Nat.reduceLT, reduceCtorEq, Aw.renR, Aw.pos]
set_option maxRecDepth 100000 in
set_option maxHeartbeats 4000000 in
theorem print_good (nl fl) (x0 : Rul × Tr) (xs0 xs : List (Rul × Tr)) (hx0 : xs = x0 :: xs0) (hl : xs.length ≤ 24) (hg : ∀ x ∈ xs, GoodX x) (hs : ∀ r ∈ xs.map Prod.fst, RulOk r) : Aw.Spec Tryd.prog 15 [] [rs nl fl (xs.map Prod.fst)] (fun rg v => rg = [] ∧ v = PrR xs) := by
  refine Aw.Spec.regsW k15 rfl rfl fun E hn hnp hp => ?_
  unfold a15
  have pin : ∀ r, E.pin r = none := fun r => hp.none hnp (Nat.zero_le _)
  have hc := good_chk hl hg
  refine AWp.ofD [] [] hn mixed rfl ?_
  simp (config := { maxSteps := 2000000 }) only [go_sem, ↓reduceIte, Int.reduceToNat, Nat.reduceMul, Int.reduceBEq, Int.reduceBNe, Nat.reduceBEq, Nat.reduceAdd, Nat.reduceSub, Nat.reduceLeDiff, Nat.reduceEqDiff, Nat.reduceLT, reduceCtorEq]
  (refine AWpL.calle (s18 nl fl (xs.map Prod.fst) hs) rfl (by rw [hn]; rfl) (by simp (config := { maxSteps := 2000000 }) only [go_sem, ↓reduceIte, Int.reduceToNat, Nat.reduceMul, Int.reduceBEq, Int.reduceBNe, Nat.reduceBEq, Nat.reduceAdd, Nat.reduceSub, Nat.reduceLeDiff, Nat.reduceEqDiff, Nat.reduceLT, reduceCtorEq]) (AWpL.ofM hn rfl ?_); simp (config := { maxSteps := 2000000 }) only [go_sem, ↓reduceIte, Int.reduceToNat, Nat.reduceMul, Int.reduceBEq, Int.reduceBNe, Nat.reduceBEq, Nat.reduceAdd, Nat.reduceSub, Nat.reduceLeDiff, Nat.reduceEqDiff, Nat.reduceLT, reduceCtorEq])
  simp (config := { maxSteps := 2000000 }) only [go_sem, ↓reduceIte, Int.reduceToNat, Nat.reduceMul, Int.reduceBEq, Int.reduceBNe, Nat.reduceBEq, Nat.reduceAdd, Nat.reduceSub, Nat.reduceLeDiff, Nat.reduceEqDiff, Nat.reduceLT, reduceCtorEq, hc]
  refine AWp.weak (weak_nilbox 0 1 5 1 rfl rfl) ?_
  refine AWp.loop (fun k s1 => ∃ i : Nat, i + k = xs.length ∧ Weak E s1 ⟨[(5, .ptr 0 0 0), (14, rs nl fl (xs.map Prod.fst)), (15, I xs.length), (16, I i)], bldB (pi i) (txtX (xs.take i))⟩) (n := xs.length)
    ⟨0, by omega, weak_to [0, 1] hp hnp rfl (by simp (config := { maxSteps := 2000000 }) only [go_sem, ↓reduceIte, Int.reduceToNat, Nat.reduceMul, Int.reduceBEq, Int.reduceBNe, Nat.reduceBEq, Nat.reduceAdd, Nat.reduceSub, Nat.reduceLeDiff, Nat.reduceEqDiff, Nat.reduceLT, reduceCtorEq, Int.natCast_zero, Aw.pos]) (by simp (config := { maxSteps := 2000000 }) only [go_sem, ↓reduceIte, Int.reduceToNat, Nat.reduceMul, Int.reduceBEq, Int.reduceBNe, Nat.reduceBEq, Nat.reduceAdd, Nat.reduceSub, Nat.reduceLeDiff, Nat.reduceEqDiff, Nat.reduceLT, reduceCtorEq, Aw.renR, Aw.pos]; rfl)⟩ ?_
  rintro k s1 ⟨i, hik, hw⟩
  refine AWp.weak hw (AWp.ofD [999] [] hn mixed rfl ?_)
  by_cases hi : i < xs.length
  · have e0 : decide ((i : Int) < (xs.length : Int)) = true := by rw [decide_eq_true_eq]; omega
    have hgx := hg xs[i] (List.getElem_mem hi)
    have e3 : ((xs.map Prod.fst).map rlc).getD i [] = rlc xs[i].1 := by
      rw [getD_map rlc (by rw [List.length_map]; exact hi), List.getElem_map]
    have etx : txtX (xs.take (i + 1)) = txtX (xs.take i) ++ (lnT xs[i] ++ ⟨#[10]⟩) := by rw [List.take_succ_eq_append_getElem hi, txtX_snoc]
    have eln := lnT_eq xs[i]
    revert hgx e3 etx eln
    generalize xs[i] = x
    rcases x with ⟨⟨c, sw, n1, f1, cond⟩, t⟩
    rintro ⟨h1, h2, h3, h4⟩ e3 etx eln
    dsimp only at h1 h2 h3 h4 eln
    have hsw := nm_le h1
    have hsp := sz_pos t
    have hts := txt_size h2 0
    have hcl : cond.length = sz t := by rw [h4, nds_len]
    have htx := text_g n1 f1 cond (by omega) t [] [] 0 h2 (by decide) (by rw [h4]; simp)
    have ew : IntKind.i64.wrap ((cond.length : Int) - 1) = top 0 (sz t) := by rw [w64 (by omega) (by omega)]; unfold top; omega
    have ei : IntKind.i64.wrap ((i : Int) + 1) = ((i + 1 : Nat) : Int) := by rw [w64 (by omega) (by omega)]; omega
    have hti := txtX_size (l := xs.take i) fun x hx => hg x (List.mem_of_mem_take hx)
    rw [List.length_take] at hti
    have hln : (lnT (⟨c, sw, n1, f1, cond⟩, t)).size ≤ 900 := lnT_size (x := (⟨c, sw, n1, f1, cond⟩, t)) ⟨h1, h2, h3, h4⟩
    have hwr : Aw.Spec Tryd.prog 25 (bldB (pi i) (txtX (xs.take i))) [.ptr 0 0 0, S (lnT (⟨c, sw, n1, f1, cond⟩, t) ++ ⟨#[10]⟩)] (fun rg v => rg = bldB (pi (i + 1)) (txtX (xs.take (i + 1))) ∧ ∃ y, v = .tup [I y, .val .nilIface]) := by
      have hb : (txtX (xs.take i)).size + (lnT (⟨c, sw, n1, f1, cond⟩, t) ++ ⟨#[10]⟩).size ≤ 140737488355328 := by
        rw [ByteArray.size_append, show (⟨#[10]⟩ : ByteArray).size = 1 from rfl]; omega
      rw [etx]
      unfold pi
      rw [if_neg (Nat.succ_ne_zero i)]
      split
      · exact Aw.Spec.post (write_first _ _ hb) fun rg v h => ⟨h.1, _, h.2⟩
      · exact Aw.Spec.post (write_more _ _ hb) fun rg v h => ⟨h.1, _, h.2⟩
    have hpi : pi i = .val (.pointer none) ∨ pi i = .ptr 0 0 0 := by unfold pi; split; exact .inl rfl; exact .inr rfl
    have hpi1 : pi (i + 1) = .ptr 0 0 0 := by unfold pi; rw [if_neg (Nat.succ_ne_zero i)]
    rw [hpi1] at hwr
    cases c
    · have eln2 : (⟨#[111, 112, 101, 110, 32]⟩ : ByteArray) ++ sw ++ ⟨#[32, 119, 104, 101, 110, 32]⟩ ++ txtT t 0 = lnT (⟨false, sw, n1, f1, cond⟩, t) := by
        rw [← eln, show vb false ++ ⟨#[32]⟩ = (⟨#[111, 112, 101, 110, 32]⟩ : ByteArray) by decide +kernel]
      rcases hpi with hpi | hpi
      all_goals (
      rw [hpi] at hwr
      simp (config := { maxSteps := 2000000 }) only [go_sem, ↓reduceIte, Int.reduceToNat, Nat.reduceMul, Int.reduceBEq, Int.reduceBNe, Nat.reduceBEq, Nat.reduceAdd, Nat.reduceSub, Nat.reduceLeDiff, Nat.reduceEqDiff, Nat.reduceLT, reduceCtorEq, e0, e3, hpi]
      (repeat (refine And.intro (by first | omega | (refine ⟨by omega, by omega⟩) | (refine ⟨by omega, by omega, by omega⟩) | (simp only [List.length_map, List.length_range, List.length_append, List.length_cons, List.length_nil, List.length_replicate, List.length_set]; omega) | (simp; omega) | (intro hgd; cases hgd) | (intro hgd; refine ⟨hgd, ?_⟩; first | omega | (refine ⟨by omega, by omega⟩) | (simp; omega))) ?_))
      refine AWp.plan (.take 0 [false, true, true, false, false, true, true, true, true, true, true, true, false, false, false] (.take 1 [true, false, false, false, false, true, true, true, true, true, true, true, false, false, false] (.take 2 [true, true, false, false, false, true, true, true, true, true, true, true, false, false, false] (.take 3 [true, true, true, false, false, true, true, true, true, true, true, true, false, false, false] (.take 4 [true, true, true, true, false, true, true, true, true, true, true, true, false, false, false] (.take 5 [true, true, true, true, true, false, false, true, true, true, true, false, false, false, false] (.take 6 [true, true, true, true, true, true, false, true, true, true, true, false, false, false, false] (.take 7 [true, true, true, true, true, true, true, false, false, false, false, false, false, false, false] (.take 8 [true, true, true, true, true, true, true, true, false, false, false, false, false, false, false] (.take 9 [true, true, true, true, true, true, true, true, true, false, false, false, false, false, false] (.take 10 [true, true, true, true, true, true, true, true, true, true, false, false, false, false, false] (.one 11 (.take 12 [true, true, true, true, true, true, true, true, true, true, true, true, false, false, false] (.take 13 [true, true, true, true, true, true, true, true, true, true, true, true, true, false, false] (.one 14 .done))))))))))))))) [true, true, true, true, true, true, true, true, true, true, true, true, true, true, false] mixed hn rfl rfl ?_
      simp (config := { maxSteps := 2000000 }) only [go_sem, ↓reduceIte, Int.reduceToNat, Nat.reduceMul, Int.reduceBEq, Int.reduceBNe, Nat.reduceBEq, Nat.reduceAdd, Nat.reduceSub, Nat.reduceLeDiff, Nat.reduceEqDiff, Nat.reduceLT, reduceCtorEq, ew]
      refine ⟨by show 5 + sw.size ≤ _; omega, by show 5 + sw.size + 6 ≤ _; omega, ?_⟩
      refine AOne.calle htx rfl (by rw [hn]; rfl) (by simp (config := { maxSteps := 2000000 }) only [go_sem, ↓reduceIte, Int.reduceToNat, Nat.reduceMul, Int.reduceBEq, Int.reduceBNe, Nat.reduceBEq, Nat.reduceAdd, Nat.reduceSub, Nat.reduceLeDiff, Nat.reduceEqDiff, Nat.reduceLT, reduceCtorEq]) ?_
      simp (config := { maxSteps := 2000000 }) only [go_sem, ↓reduceIte, Int.reduceToNat, Nat.reduceMul, Int.reduceBEq, Int.reduceBNe, Nat.reduceBEq, Nat.reduceAdd, Nat.reduceSub, Nat.reduceLeDiff, Nat.reduceEqDiff, Nat.reduceLT, reduceCtorEq, eln2]
      refine ⟨by show 5 + sw.size + 6 + (txtT t 0).size ≤ _; omega, by show (lnT _).size + 1 ≤ _; omega, ?_⟩
      refine AOne.rule (AWpL.callA [0, 1] hwr rfl rfl (by rw [hn]; rfl) rfl (fun r hr => .inr (pin r)) fun rg v hv => ?_)
      obtain ⟨rfl, y, rfl⟩ := hv
      refine ⟨Nat.le_refl _, AWpL.ofM hn rfl ?_⟩
      simp (config := { maxSteps := 2000000 }) only [go_sem, ↓reduceIte, Int.reduceToNat, Nat.reduceMul, Int.reduceBEq, Int.reduceBNe, Nat.reduceBEq, Nat.reduceAdd, Nat.reduceSub, Nat.reduceLeDiff, Nat.reduceEqDiff, Nat.reduceLT, reduceCtorEq, Aw.retS, Aw.retRg, Aw.kpM, Aw.bkM, Aw.pos, Aw.isBox, ei]
      exact ⟨k - 1, by omega, i + 1, by omega, weak_to [0, 1] hp hnp rfl (by simp (config := { maxSteps := 2000000 }) only [go_sem, ↓reduceIte, Int.reduceToNat, Nat.reduceMul, Int.reduceBEq, Int.reduceBNe, Nat.reduceBEq, Nat.reduceAdd, Nat.reduceSub, Nat.reduceLeDiff, Nat.reduceEqDiff, Nat.reduceLT, reduceCtorEq, Aw.pos]) (by simp (config := { maxSteps := 2000000 }) only [go_sem, ↓reduceIte, Int.reduceToNat, Nat.reduceMul, Int.reduceBEq, Int.reduceBNe, Nat.reduceBEq, Nat.reduceAdd, Nat.reduceSub, Nat.reduceLeDiff, Nat.reduceEqDiff, Nat.reduceLT, reduceCtorEq, hpi1, Aw.renR, Aw.pos])⟩)
    · have eln2 : (⟨#[99, 108, 111, 115, 101, 32]⟩ : ByteArray) ++ sw ++ ⟨#[32, 119, 104, 101, 110, 32]⟩ ++ txtT t 0 = lnT (⟨true, sw, n1, f1, cond⟩, t) := by
        rw [← eln, show vb true ++ ⟨#[32]⟩ = (⟨#[99, 108, 111, 115, 101, 32]⟩ : ByteArray) by decide +kernel]
      rcases hpi with hpi | hpi
      all_goals (
      rw [hpi] at hwr
      simp (config := { maxSteps := 2000000 }) only [go_sem, ↓reduceIte, Int.reduceToNat, Nat.reduceMul, Int.reduceBEq, Int.reduceBNe, Nat.reduceBEq, Nat.reduceAdd, Nat.reduceSub, Nat.reduceLeDiff, Nat.reduceEqDiff, Nat.reduceLT, reduceCtorEq, e0, e3, hpi]
      (repeat (refine And.intro (by first | omega | (refine ⟨by omega, by omega⟩) | (refine ⟨by omega, by omega, by omega⟩) | (simp only [List.length_map, List.length_range, List.length_append, List.length_cons, List.length_nil, List.length_replicate, List.length_set]; omega) | (simp; omega) | (intro hgd; cases hgd) | (intro hgd; refine ⟨hgd, ?_⟩; first | omega | (refine ⟨by omega, by omega⟩) | (simp; omega))) ?_))
      refine AWp.plan (.take 0 [false, true, true, false, false, true, true, true, true, true, true, true, false, false, false] (.take 1 [true, false, false, false, false, true, true, true, true, true, true, true, false, false, false] (.take 2 [true, true, false, false, false, true, true, true, true, true, true, true, false, false, false] (.take 3 [true, true, true, false, false, true, true, true, true, true, true, true, false, false, false] (.take 4 [true, true, true, true, false, true, true, true, true, true, true, true, false, false, false] (.take 5 [true, true, true, true, true, false, false, true, true, true, true, false, false, false, false] (.take 6 [true, true, true, true, true, true, false, true, true, true, true, false, false, false, false] (.take 7 [true, true, true, true, true, true, true, false, false, false, false, false, false, false, false] (.take 8 [true, true, true, true, true, true, true, true, false, false, false, false, false, false, false] (.take 9 [true, true, true, true, true, true, true, true, true, false, false, false, false, false, false] (.take 10 [true, true, true, true, true, true, true, true, true, true, false, false, false, false, false] (.one 11 (.take 12 [true, true, true, true, true, true, true, true, true, true, true, true, false, false, false] (.take 13 [true, true, true, true, true, true, true, true, true, true, true, true, true, false, false] (.one 14 .done))))))))))))))) [true, true, true, true, true, true, true, true, true, true, true, true, true, true, false] mixed hn rfl rfl ?_
      simp (config := { maxSteps := 2000000 }) only [go_sem, ↓reduceIte, Int.reduceToNat, Nat.reduceMul, Int.reduceBEq, Int.reduceBNe, Nat.reduceBEq, Nat.reduceAdd, Nat.reduceSub, Nat.reduceLeDiff, Nat.reduceEqDiff, Nat.reduceLT, reduceCtorEq, ew]
      refine ⟨by show 6 + sw.size ≤ _; omega, by show 6 + sw.size + 6 ≤ _; omega, ?_⟩
      refine AOne.calle htx rfl (by rw [hn]; rfl) (by simp (config := { maxSteps := 2000000 }) only [go_sem, ↓reduceIte, Int.reduceToNat, Nat.reduceMul, Int.reduceBEq, Int.reduceBNe, Nat.reduceBEq, Nat.reduceAdd, Nat.reduceSub, Nat.reduceLeDiff, Nat.reduceEqDiff, Nat.reduceLT, reduceCtorEq]) ?_
      simp (config := { maxSteps := 2000000 }) only [go_sem, ↓reduceIte, Int.reduceToNat, Nat.reduceMul, Int.reduceBEq, Int.reduceBNe, Nat.reduceBEq, Nat.reduceAdd, Nat.reduceSub, Nat.reduceLeDiff, Nat.reduceEqDiff, Nat.reduceLT, reduceCtorEq, eln2]
      refine ⟨by show 6 + sw.size + 6 + (txtT t 0).size ≤ _; omega, by show (lnT _).size + 1 ≤ _; omega, ?_⟩
      refine AOne.rule (AWpL.callA [0, 1] hwr rfl rfl (by rw [hn]; rfl) rfl (fun r hr => .inr (pin r)) fun rg v hv => ?_)
      obtain ⟨rfl, y, rfl⟩ := hv
      refine ⟨Nat.le_refl _, AWpL.ofM hn rfl ?_⟩
      simp (config := { maxSteps := 2000000 }) only [go_sem, ↓reduceIte, Int.reduceToNat, Nat.reduceMul, Int.reduceBEq, Int.reduceBNe, Nat.reduceBEq, Nat.reduceAdd, Nat.reduceSub, Nat.reduceLeDiff, Nat.reduceEqDiff, Nat.reduceLT, reduceCtorEq, Aw.retS, Aw.retRg, Aw.kpM, Aw.bkM, Aw.pos, Aw.isBox, ei]
      exact ⟨k - 1, by omega, i + 1, by omega, weak_to [0, 1] hp hnp rfl (by simp (config := { maxSteps := 2000000 }) only [go_sem, ↓reduceIte, Int.reduceToNat, Nat.reduceMul, Int.reduceBEq, Int.reduceBNe, Nat.reduceBEq, Nat.reduceAdd, Nat.reduceSub, Nat.reduceLeDiff, Nat.reduceEqDiff, Nat.reduceLT, reduceCtorEq, Aw.pos]) (by simp (config := { maxSteps := 2000000 }) only [go_sem, ↓reduceIte, Int.reduceToNat, Nat.reduceMul, Int.reduceBEq, Int.reduceBNe, Nat.reduceBEq, Nat.reduceAdd, Nat.reduceSub, Nat.reduceLeDiff, Nat.reduceEqDiff, Nat.reduceLT, reduceCtorEq, hpi1, Aw.renR, Aw.pos])⟩)
  · have e0 : decide ((i : Int) < (xs.length : Int)) = false := by rw [decide_eq_false_iff_not]; omega
    have hi0 : i = xs.length := by omega
    have hpos : 0 < xs.length := by rw [hx0]; exact Nat.succ_pos _
    have hpi : pi i = .ptr 0 0 0 := by unfold pi; rw [if_neg (by omega)]
    have htk : xs.take i = xs := List.take_of_length_le (by omega)
    have hsz := txtX_size hg
    have hsp : 0 < (txtX xs).size := by rw [hx0]; exact txtX_pos
    simp (config := { maxSteps := 2000000 }) only [go_sem, ↓reduceIte, Int.reduceToNat, Nat.reduceMul, Int.reduceBEq, Int.reduceBNe, Nat.reduceBEq, Nat.reduceAdd, Nat.reduceSub, Nat.reduceLeDiff, Nat.reduceEqDiff, Nat.reduceLT, reduceCtorEq, e0, hpi, htk]
    refine AWpL.callA [0, 1] (len_spec (txtX xs)) rfl rfl (by rw [hn]; rfl) rfl (fun r hr => .inr (pin r)) fun rg v hv => ?_
    obtain ⟨rfl, rfl⟩ := hv
    refine ⟨Nat.le_refl _, AWpL.ofM hn rfl ?_⟩
    by_cases h81 : (txtX xs).size > 8192
    · have e1 : decide (((txtX xs).size : Int) > 8192) = true := by rw [decide_eq_true_eq]; omega
      simp (config := { maxSteps := 2000000 }) only [go_sem, ↓reduceIte, Int.reduceToNat, Nat.reduceMul, Int.reduceBEq, Int.reduceBNe, Nat.reduceBEq, Nat.reduceAdd, Nat.reduceSub, Nat.reduceLeDiff, Nat.reduceEqDiff, Nat.reduceLT, reduceCtorEq, Aw.retS, Aw.retRg, Aw.kpM, Aw.bkM, Aw.pos, Aw.isBox, e1]
      refine Retn.ret (π := []) hp hnp ⟨rfl, ?_⟩
      simp (config := { maxSteps := 2000000 }) only [go_sem, ↓reduceIte, Int.reduceToNat, Nat.reduceMul, Int.reduceBEq, Int.reduceBNe, Nat.reduceBEq, Nat.reduceAdd, Nat.reduceSub, Nat.reduceLeDiff, Nat.reduceEqDiff, Nat.reduceLT, reduceCtorEq, Aw.renR, Aw.pos]
      unfold PrR
      rw [if_pos h81]
    · have e1 : decide (((txtX xs).size : Int) > 8192) = false := by rw [decide_eq_false_iff_not]; omega
      simp (config := { maxSteps := 2000000 }) only [go_sem, ↓reduceIte, Int.reduceToNat, Nat.reduceMul, Int.reduceBEq, Int.reduceBNe, Nat.reduceBEq, Nat.reduceAdd, Nat.reduceSub, Nat.reduceLeDiff, Nat.reduceEqDiff, Nat.reduceLT, reduceCtorEq, Aw.retS, Aw.retRg, Aw.kpM, Aw.bkM, Aw.pos, Aw.isBox, e1]
      refine AWpL.callA [0, 1] (str_used (txtX xs) hsp (by omega)) rfl rfl (by rw [hn]; rfl) rfl (fun r hr => .inr (pin r)) fun rg v hv => ?_
      obtain ⟨rfl, rfl⟩ := hv
      refine ⟨Nat.le_refl _, AWpL.ofM hn rfl ?_⟩
      simp (config := { maxSteps := 2000000 }) only [go_sem, ↓reduceIte, Int.reduceToNat, Nat.reduceMul, Int.reduceBEq, Int.reduceBNe, Nat.reduceBEq, Nat.reduceAdd, Nat.reduceSub, Nat.reduceLeDiff, Nat.reduceEqDiff, Nat.reduceLT, reduceCtorEq, Aw.retS, Aw.retRg, Aw.kpM, Aw.bkM, Aw.pos, Aw.isBox]
      refine Retn.ret (π := []) hp hnp ⟨rfl, ?_⟩
      simp (config := { maxSteps := 2000000 }) only [go_sem, ↓reduceIte, Int.reduceToNat, Nat.reduceMul, Int.reduceBEq, Int.reduceBNe, Nat.reduceBEq, Nat.reduceAdd, Nat.reduceSub, Nat.reduceLeDiff, Nat.reduceEqDiff, Nat.reduceLT, reduceCtorEq, Aw.renR, Aw.pos]
      unfold PrR
      rw [if_neg h81]
set_option maxRecDepth 100000 in
set_option maxHeartbeats 4000000 in
theorem print_nil (nl fl) : Aw.Spec Tryd.prog 15 [] [rs nl fl []] (fun rg v => rg = [] ∧ v = PrR []) := by
  refine Aw.Spec.regsW k15 rfl rfl fun E hn hnp hp => ?_
  unfold a15
  have pin : ∀ r, E.pin r = none := fun r => hp.none hnp (Nat.zero_le _)
  refine AWp.ofD [] [] hn mixed rfl ?_
  simp (config := { maxSteps := 2000000 }) only [go_sem, ↓reduceIte, Int.reduceToNat, Nat.reduceMul, Int.reduceBEq, Int.reduceBNe, Nat.reduceBEq, Nat.reduceAdd, Nat.reduceSub, Nat.reduceLeDiff, Nat.reduceEqDiff, Nat.reduceLT, reduceCtorEq]
  (refine AWpL.calle (s18 nl fl [] (fun r h => by cases h)) rfl (by rw [hn]; rfl) (by simp (config := { maxSteps := 2000000 }) only [go_sem, ↓reduceIte, Int.reduceToNat, Nat.reduceMul, Int.reduceBEq, Int.reduceBNe, Nat.reduceBEq, Nat.reduceAdd, Nat.reduceSub, Nat.reduceLeDiff, Nat.reduceEqDiff, Nat.reduceLT, reduceCtorEq]) (AWpL.ofM hn rfl ?_); simp (config := { maxSteps := 2000000 }) only [go_sem, ↓reduceIte, Int.reduceToNat, Nat.reduceMul, Int.reduceBEq, Int.reduceBNe, Nat.reduceBEq, Nat.reduceAdd, Nat.reduceSub, Nat.reduceLeDiff, Nat.reduceEqDiff, Nat.reduceLT, reduceCtorEq])
  simp (config := { maxSteps := 2000000 }) only [go_sem, ↓reduceIte, Int.reduceToNat, Nat.reduceMul, Int.reduceBEq, Int.reduceBNe, Nat.reduceBEq, Nat.reduceAdd, Nat.reduceSub, Nat.reduceLeDiff, Nat.reduceEqDiff, Nat.reduceLT, reduceCtorEq, show checkF [] = 0 from rfl]
  refine AWp.loop (fun k s1 => k = 0 ∧ Weak E s1 ⟨[(5, .ptr 0 0 0), (14, rs nl fl []), (15, I 0), (16, I 0)], bldN⟩) (n := 0)
    ⟨rfl, weak_to [0] hp hnp rfl (by simp (config := { maxSteps := 2000000 }) only [go_sem, ↓reduceIte, Int.reduceToNat, Nat.reduceMul, Int.reduceBEq, Int.reduceBNe, Nat.reduceBEq, Nat.reduceAdd, Nat.reduceSub, Nat.reduceLeDiff, Nat.reduceEqDiff, Nat.reduceLT, reduceCtorEq, Int.natCast_zero, Aw.pos]; try rfl) (by simp (config := { maxSteps := 2000000 }) only [go_sem, ↓reduceIte, Int.reduceToNat, Nat.reduceMul, Int.reduceBEq, Int.reduceBNe, Nat.reduceBEq, Nat.reduceAdd, Nat.reduceSub, Nat.reduceLeDiff, Nat.reduceEqDiff, Nat.reduceLT, reduceCtorEq, Aw.renR, Aw.pos]; try rfl)⟩ ?_
  rintro k s1 ⟨rfl, hw⟩
  refine AWp.weak hw (AWp.ofD [999] [] hn mixed rfl ?_)
  have e0 : decide ((0 : Int) < 0) = false := rfl
  simp (config := { maxSteps := 2000000 }) only [go_sem, ↓reduceIte, Int.reduceToNat, Nat.reduceMul, Int.reduceBEq, Int.reduceBNe, Nat.reduceBEq, Nat.reduceAdd, Nat.reduceSub, Nat.reduceLeDiff, Nat.reduceEqDiff, Nat.reduceLT, reduceCtorEq, e0]
  refine AWpL.callA [0] len_none rfl rfl (by rw [hn]; rfl) rfl (fun r hr => .inr (pin r)) fun rg v hv => ?_
  obtain ⟨rfl, rfl⟩ := hv
  refine ⟨Nat.le_refl _, AWpL.ofM hn rfl ?_⟩
  have e1 : decide ((0 : Int) > 8192) = false := rfl
  simp (config := { maxSteps := 2000000 }) only [go_sem, ↓reduceIte, Int.reduceToNat, Nat.reduceMul, Int.reduceBEq, Int.reduceBNe, Nat.reduceBEq, Nat.reduceAdd, Nat.reduceSub, Nat.reduceLeDiff, Nat.reduceEqDiff, Nat.reduceLT, reduceCtorEq, Aw.retS, Aw.retRg, Aw.kpM, Aw.bkM, Aw.pos, Aw.isBox, e1]
  refine AWpL.callA [0] str_none rfl rfl (by rw [hn]; rfl) rfl (fun r hr => .inr (pin r)) fun rg v hv => ?_
  obtain ⟨rfl, rfl⟩ := hv
  refine ⟨Nat.le_refl _, AWpL.ofM hn rfl ?_⟩
  simp (config := { maxSteps := 2000000 }) only [go_sem, ↓reduceIte, Int.reduceToNat, Nat.reduceMul, Int.reduceBEq, Int.reduceBNe, Nat.reduceBEq, Nat.reduceAdd, Nat.reduceSub, Nat.reduceLeDiff, Nat.reduceEqDiff, Nat.reduceLT, reduceCtorEq, Aw.retS, Aw.retRg, Aw.kpM, Aw.bkM, Aw.pos, Aw.isBox]
  refine Retn.ret (π := []) hp hnp ⟨rfl, ?_⟩
  simp (config := { maxSteps := 2000000 }) only [go_sem, ↓reduceIte, Int.reduceToNat, Nat.reduceMul, Int.reduceBEq, Int.reduceBNe, Nat.reduceBEq, Nat.reduceAdd, Nat.reduceSub, Nat.reduceLeDiff, Nat.reduceEqDiff, Nat.reduceLT, reduceCtorEq, Aw.renR, Aw.pos]
  rfl
theorem print_all (nl fl) (xs : List (Rul × Tr)) (hl : xs.length ≤ 24) (hg : ∀ x ∈ xs, GoodX x) (hs : ∀ r ∈ xs.map Prod.fst, RulOk r) : Aw.Spec Tryd.prog 15 [] [rs nl fl (xs.map Prod.fst)] (fun rg v => rg = [] ∧ v = PrR xs) := by
  cases xs with
  | nil => exact print_nil nl fl
  | cons x l => exact print_good nl fl x l (x :: l) rfl hl hg hs
end Go.Proofs.YtocghkacngoblaaDoor
