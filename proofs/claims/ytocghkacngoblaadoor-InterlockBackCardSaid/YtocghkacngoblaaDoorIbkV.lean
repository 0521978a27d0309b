/- Interlocks: the text of a condition. -/
import Derived.Test.YtocghkacngoblaaDoorIbkU
set_option linter.unusedVariables false
set_option linter.unusedSimpArgs false
namespace Go.Proofs.YtocghkacngoblaaDoor
open Go.Proofs.YtocghkacngoblaaDoor.Aw
attribute [local go_sem] Int.natCast_zero Int.natCast_one bne_self_eq_false beq_self_eq_true Bool.not_true Bool.not_false Option.isSome_none Option.isSome_some Aw.bkM_nil Option.getD_some Option.getD_none Nat.sub_zero Int.toNat_zero Aw.frzS Aw.frzT Aw.frzA Aw.frzL Aw.frzR Aw.frzO Aw.frzOL Aw.frzOT Aw.frzOR Aw.killS Aw.mapT Aw.mapR Aw.killM Aw.resAVs Aw.resAV Aw.quietOps Aw.wpP Aw.wpT Aw.wpS Aw.AOp.mild List.getElem?_cons_zero List.getElem?_cons_succ Bool.and_false Bool.and_self Bool.false_and Aw.opOb Aw.gdB Aw.Rnd Aw.subTm List.length_map Int.toNat_natCast and_self Aw.SeqC Aw.stops Aw.Ends Aw.looks Aw.renA Aw.renL Aw.renT Aw.renS Aw.wpO Aw.aop Aw.putTm Aw.St.ev Aw.St.put Aw.St.putO Aw.binAV Aw.intBin Aw.strBin Aw.pickAV Aw.optInt Aw.AV.strip Aw.AV.guard Aw.AV.cells Aw.gdOb Aw.AOp.opds Aw.AOp.still Aw.ptrCells Aw.St.reg Aw.fillAV Aw.fillOb Aw.elsOb Aw.splice Aw.firm Aw.cellish Aw.AV.shut Aw.shutAll Aw.Seq Aw.Blk Aw.retS_nil Aw.mapA Aw.mapL Aw.borA Aw.borOb Aw.allOb Aw.tupOf Aw.params Aw.Opd.of Array.toList Value.cells List.map_cons List.map_nil List.getD_cons_zero List.getD_cons_succ List.getD_nil List.length_cons List.length_nil List.take_succ_cons List.take_zero List.take_nil List.drop_zero List.drop_succ_cons List.drop_nil List.set_cons_zero List.set_cons_succ List.append_nil List.nil_append List.cons_append List.all_cons List.all_nil cond_false cond_true if_true if_false true_and and_true Bool.and_true Bool.true_and Option.map_some Option.map_none false_implies forall_const implies_true forall_eq imp_self Bool.cond_false_right Bool.cond_true_left beq_true beq_false Bool.not_eq_true' Bool.false_eq_true Nat.zero_add Nat.add_zero Aw.eqCells Aw.stopDraw Aw.skipS Aw.exactCap Aw.revealS Aw.srcEls Aw.srcSz
attribute [local go_sem ↓] Aw.look_nil Aw.look_ite Aw.wpL_nil Aw.wpL_op Aw.wpL_gd Aw.wpQ_nil Aw.wpQ_op Aw.wpQ_gd Aw.wpC_draw Aw.wpC_reg Aw.wpC_skip Aw.wpC_ret Aw.wpC_exit Aw.wpC_seq Aw.wpC_block Aw.wpC_loop Aw.wpC_cond Aw.stopAt_nil Aw.stopAt_cons Aw.wpD_skip Aw.wpD_ret Aw.wpD_exit Aw.wpD_region Aw.wpD_draw Aw.wpM_nil Aw.wpM_op Aw.wpM_gd Aw.wpD_seq Aw.wpD_block Aw.wpD_loop Aw.wpD_cond
open Ibk
/- gridhall/interlock.level -/
def a41 : ACode :=
  (.seq (.region false [] [
     ⟨(some 2), none, (.mov (.v (.int .i64 0)))⟩])
  (.seq (.seq (.region false [] [
     ⟨(some 3), none, (.mov (.t 0))⟩])
  (.block 0 (.seq (.region false [] [
      ⟨(some 5), none, (.bin .eql 3 (.t 3) (.v (.int .i64 6)))⟩,
      ⟨(some 4), none, (.mov (.t 5))⟩])
   (.cond (.t 4)
     (.seq (.region false [] [
        ⟨(some 2), none, (.mov (.v (.int .i64 0)))⟩])
     .ret)
     (.seq (.region false [] [
        ⟨(some 7), none, (.bin .eql 3 (.t 3) (.v (.int .i64 5)))⟩,
        ⟨(some 6), none, (.mov (.t 7))⟩])
     (.cond (.t 6)
       (.seq (.region false [] [
          ⟨(some 2), none, (.mov (.v (.int .i64 1)))⟩])
       .ret)
       .skip))))))
  (.seq (.region false [] [
     ⟨(some 2), none, (.mov (.v (.int .i64 2)))⟩])
  .ret)))
theorem k41 : FnIs Tryd.prog 41 8 [.t 2] a41 := ⟨_, _, Tryd.func41, rfl, by kernel_rfl, by kernel_rfl, rfl⟩
/- gridhall/interlock.text -/
def a26 : ACode :=
  (.seq (.region false [] [
     ⟨(some 6), none, (.mov (.v (.string ⟨#[]⟩)))⟩])
  (.seq (.region false [] [
     ⟨(some 10), none, (.mov (.t 0))⟩,
     ⟨(some 11), none, (.mov (.t 1))⟩,
     ⟨(some 12), none, (.idx 4 (.t 10) (.t 11))⟩,
     ⟨(some 13), none, (.load 4 true (.t 12))⟩,
     ⟨(some 7), none, (.alloc 54 (.agg #[(.int .i64 0), (.string ⟨#[]⟩), (.int .i64 0), (.int .i64 0)]))⟩,
     ⟨none, none, (.store 4 (.t 7) (.t 13))⟩])
  (.seq (.region false [] [
     ⟨(some 14), none, (.fld 0 (.t 7))⟩,
     ⟨(some 15), none, (.load 1 false (.t 14))⟩,
     ⟨(some 16), none, (.call 41 [(.t 15)])⟩,
     ⟨(some 8), none, (.mov (.t 16))⟩])
  (.seq (.region false [] [
     ⟨(some 9), none, (.mov (.v (.string ⟨#[]⟩)))⟩])
  (.seq (.seq (.region false [] [
     ⟨(some 17), none, (.fld 0 (.t 7))⟩,
     ⟨(some 18), none, (.load 1 false (.t 17))⟩])
  (.block 0 (.seq (.region false [] [
      ⟨(some 20), none, (.bin .eql 3 (.t 18) (.v (.int .i64 0)))⟩,
      ⟨(some 19), none, (.mov (.t 20))⟩])
   (.cond (.t 19)
     (.region false [] [
        ⟨(some 9), none, (.mov (.v (.string ⟨#[97, 108, 119, 97, 121, 115]⟩)))⟩])
     (.seq (.region false [] [
        ⟨(some 22), none, (.bin .eql 3 (.t 18) (.v (.int .i64 1)))⟩,
        ⟨(some 21), none, (.mov (.t 22))⟩])
     (.cond (.t 21)
       (.region false [] [
          ⟨(some 9), none, (.mov (.v (.string ⟨#[110, 101, 118, 101, 114]⟩)))⟩])
       (.seq (.region false [] [
          ⟨(some 24), none, (.bin .eql 3 (.t 18) (.v (.int .i64 2)))⟩,
          ⟨(some 23), none, (.mov (.t 24))⟩])
       (.cond (.t 23)
         (.region false [] [
            ⟨(some 25), none, (.fld 1 (.t 7))⟩,
            ⟨(some 26), none, (.load 1 false (.t 25))⟩,
            ⟨(some 27), none, (.bin .add 9 (.v (.string ⟨#[111, 112, 101, 110, 32]⟩)) (.t 26))⟩,
            ⟨(some 9), none, (.mov (.t 27))⟩])
         (.seq (.region false [] [
            ⟨(some 29), none, (.bin .eql 3 (.t 18) (.v (.int .i64 3)))⟩,
            ⟨(some 28), none, (.mov (.t 29))⟩])
         (.cond (.t 28)
           (.region false [] [
              ⟨(some 30), none, (.fld 1 (.t 7))⟩,
              ⟨(some 31), none, (.load 1 false (.t 30))⟩,
              ⟨(some 32), none, (.bin .add 9 (.v (.string ⟨#[99, 108, 111, 115, 101, 100, 32]⟩)) (.t 31))⟩,
              ⟨(some 9), none, (.mov (.t 32))⟩])
           (.seq (.region false [] [
              ⟨(some 34), none, (.bin .eql 3 (.t 18) (.v (.int .i64 4)))⟩,
              ⟨(some 33), none, (.mov (.t 34))⟩])
           (.cond (.t 33)
             (.region false [] [
                ⟨(some 35), none, (.mov (.t 0))⟩,
                ⟨(some 36), none, (.fld 2 (.t 7))⟩,
                ⟨(some 37), none, (.load 1 false (.t 36))⟩,
                ⟨(some 38), none, (.call 26 [(.t 35), (.t 37), (.v (.int .i64 2))])⟩,
                ⟨(some 39), none, (.bin .add 9 (.v (.string ⟨#[110, 111, 116, 32]⟩)) (.t 38))⟩,
                ⟨(some 9), none, (.mov (.t 39))⟩])
             (.seq (.region false [] [
                ⟨(some 41), none, (.bin .eql 3 (.t 18) (.v (.int .i64 5)))⟩,
                ⟨(some 40), none, (.mov (.t 41))⟩])
             (.cond (.t 40)
               (.region true [[], [], [1], [0, 2], [3], [], [], [6], [5, 7, 3], [4, 8], [9, 8, 0, 1, 2, 3, 4, 5, 6, 7, 8, 9]] [
                  ⟨(some 42), none, (.mov (.t 0))⟩,
                  ⟨(some 43), none, (.fld 2 (.t 7))⟩,
                  ⟨(some 44), none, (.load 1 false (.t 43))⟩,
                  ⟨(some 45), none, (.call 26 [(.t 42), (.t 44), (.v (.int .i64 1))])⟩,
                  ⟨(some 46), none, (.bin .add 9 (.t 45) (.v (.string ⟨#[32, 97, 110, 100, 32]⟩)))⟩,
                  ⟨(some 47), none, (.mov (.t 0))⟩,
                  ⟨(some 48), none, (.fld 3 (.t 7))⟩,
                  ⟨(some 49), none, (.load 1 false (.t 48))⟩,
                  ⟨(some 50), none, (.call 26 [(.t 47), (.t 49), (.v (.int .i64 2))])⟩,
                  ⟨(some 51), none, (.bin .add 9 (.t 46) (.t 50))⟩,
                  ⟨(some 9), none, (.mov (.t 51))⟩])
               (.seq (.region false [] [
                  ⟨(some 53), none, (.bin .eql 3 (.t 18) (.v (.int .i64 6)))⟩,
                  ⟨(some 52), none, (.mov (.t 53))⟩])
               (.cond (.t 52)
                 (.region true [[], [], [1], [0, 2], [3], [], [], [6], [5, 7, 3], [4, 8], [9, 8, 0, 1, 2, 3, 4, 5, 6, 7, 8, 9]] [
                    ⟨(some 54), none, (.mov (.t 0))⟩,
                    ⟨(some 55), none, (.fld 2 (.t 7))⟩,
                    ⟨(some 56), none, (.load 1 false (.t 55))⟩,
                    ⟨(some 57), none, (.call 26 [(.t 54), (.t 56), (.v (.int .i64 0))])⟩,
                    ⟨(some 58), none, (.bin .add 9 (.t 57) (.v (.string ⟨#[32, 111, 114, 32]⟩)))⟩,
                    ⟨(some 59), none, (.mov (.t 0))⟩,
                    ⟨(some 60), none, (.fld 3 (.t 7))⟩,
                    ⟨(some 61), none, (.load 1 false (.t 60))⟩,
                    ⟨(some 62), none, (.call 26 [(.t 59), (.t 61), (.v (.int .i64 1))])⟩,
                    ⟨(some 63), none, (.bin .add 9 (.t 58) (.t 62))⟩,
                    ⟨(some 9), none, (.mov (.t 63))⟩])
                 .skip))))))))))))))))
  (.seq (.seq (.region false [] [
     ⟨(some 64), none, (.mov (.t 8))⟩,
     ⟨(some 65), none, (.mov (.t 2))⟩,
     ⟨(some 66), none, (.bin .lss 3 (.t 64) (.t 65))⟩])
  (.cond (.t 66)
    (.seq (.region false [] [
       ⟨(some 67), none, (.mov (.t 9))⟩,
       ⟨(some 68), none, (.bin .add 9 (.v (.string ⟨#[40, 32]⟩)) (.t 67))⟩,
       ⟨(some 69), none, (.bin .add 9 (.t 68) (.v (.string ⟨#[32, 41]⟩)))⟩,
       ⟨(some 6), none, (.mov (.t 69))⟩])
    .ret)
    .skip))
  (.seq (.region false [] [
     ⟨(some 70), none, (.mov (.t 9))⟩,
     ⟨(some 6), none, (.mov (.t 70))⟩])
  .ret)))))))
theorem k26 : FnIs Tryd.prog 26 71 [.t 6] a26 := ⟨_, _, Tryd.func26, rfl, by kernel_rfl, by kernel_rfl, rfl⟩

def lvF (k : Int) : Int := if k = 6 then 0 else if k = 5 then 1 else 2
theorem s41 (k : Int) : Aw.Spec Tryd.prog 41 [] [I k] (Gives (· = I (lvF k))) := by
  refine Aw.Spec.givesD k41 mixed rfl rfl rfl fun E hn hnp hp => ?_
  unfold a41
  have h : (k = 6 ∧ lvF k = 0) ∨ (k ≠ 6 ∧ k = 5 ∧ lvF k = 1) ∨ (k ≠ 6 ∧ k ≠ 5 ∧ lvF k = 2) := by
    unfold lvF
    by_cases h1 : k = 6
    · exact .inl ⟨h1, if_pos h1⟩
    · rw [if_neg h1]
      by_cases h2 : k = 5
      · exact .inr (.inl ⟨h1, h2, if_pos h2⟩)
      · exact .inr (.inr ⟨h1, h2, if_neg h2⟩)
  rcases h with ⟨h1, h⟩ | ⟨h1, h2, h⟩ | ⟨h1, h2, h⟩
  · have e1 : (k == 6) = true := beq_iff_eq.2 h1
    simp (config := { maxSteps := 2000000 }) only [go_sem, ↓reduceIte, Int.reduceToNat, Nat.reduceMul, Int.reduceBEq, Int.reduceBNe, Nat.reduceBEq, Nat.reduceAdd, Nat.reduceSub, Nat.reduceLeDiff, Nat.reduceEqDiff, Nat.reduceLT, reduceCtorEq, e1, h]
  · have e1 : (k == 6) = false := beq_eq_false_iff_ne.2 h1
    have e2 : (k == 5) = true := beq_iff_eq.2 h2
    simp (config := { maxSteps := 2000000 }) only [go_sem, ↓reduceIte, Int.reduceToNat, Nat.reduceMul, Int.reduceBEq, Int.reduceBNe, Nat.reduceBEq, Nat.reduceAdd, Nat.reduceSub, Nat.reduceLeDiff, Nat.reduceEqDiff, Nat.reduceLT, reduceCtorEq, e1, e2, h]
  · have e1 : (k == 6) = false := beq_eq_false_iff_ne.2 h1
    have e2 : (k == 5) = false := beq_eq_false_iff_ne.2 h2
    simp (config := { maxSteps := 2000000 }) only [go_sem, ↓reduceIte, Int.reduceToNat, Nat.reduceMul, Int.reduceBEq, Int.reduceBNe, Nat.reduceBEq, Nat.reduceAdd, Nat.reduceSub, Nat.reduceLeDiff, Nat.reduceEqDiff, Nat.reduceLT, reduceCtorEq, e1, e2, h]
def rootN : Tr → Nat → Nod
  | .alw, _ => ⟨0, nE, 0, 0⟩
  | .nev, _ => ⟨1, nE, 0, 0⟩
  | .opn s, _ => ⟨2, s, 0, 0⟩
  | .clo s, _ => ⟨3, s, 0, 0⟩
  | .no t, k => ⟨4, nE, top k (sz t), 0⟩
  | .an a b, k => ⟨5, nE, top k (sz a), top (k + sz a) (sz b)⟩
  | .orr a b, k => ⟨6, nE, top k (sz a), top (k + sz a) (sz b)⟩
theorem nds_root : ∀ (t : Tr) (k : Nat), ∃ i, nds t k = i ++ [rootN t k]
  | .alw, k => ⟨[], rfl⟩
  | .nev, k => ⟨[], rfl⟩
  | .opn s, k => ⟨[], rfl⟩
  | .clo s, k => ⟨[], rfl⟩
  | .no t, k => ⟨nds t k, rfl⟩
  | .an a b, k => ⟨nds a k ++ nds b (k + sz a), rfl⟩
  | .orr a b, k => ⟨nds a k ++ nds b (k + sz a), rfl⟩
theorem root_at {t : Tr} {pre post l : List Nod} (h : l = pre ++ nds t pre.length ++ post) : (l.map nc).getD (pre.length + sz t - 1) [] = nc (rootN t pre.length) ∧ pre.length + sz t - 1 < l.length := by
  have hl := nds_len t pre.length
  obtain ⟨i, hi⟩ := nds_root t pre.length
  rw [hi] at hl h
  rw [List.length_append, List.length_singleton] at hl
  subst h
  have e : pre.length + sz t - 1 = (pre ++ i).length := by rw [List.length_append]; omega
  constructor
  · rw [e, show pre ++ (i ++ [rootN t pre.length]) ++ post = (pre ++ i) ++ (rootN t pre.length :: post) by simp, List.map_append]
    rw [List.getD_eq_getElem?_getD, List.getElem?_append_right (by rw [List.length_map]; exact Nat.le_refl _), List.length_map]; simp
  · rw [e]; simp only [List.length_append, List.length_cons, List.length_nil]; omega
theorem toks_ne (t : Tr) (k : Nat) : toks t k ≠ [] := by
  cases t <;> simp only [toks, par] <;> (repeat' split) <;> simp
/-- The text of a condition. -/
def txtT (t : Tr) (k : Nat) : ByteArray := joinS 32 (toks t k)
theorem txt_par {l : List ByteArray} (h : l ≠ []) : (⟨#[40, 32]⟩ : ByteArray) ++ joinS 32 l ++ ⟨#[32, 41]⟩ = joinS 32 (wLp :: (l ++ [wRp])) := by
  rw [join_cons 32 wLp (by simp), join_app 32 h (by simp)]
  show _ = wLp ++ ⟨#[32]⟩ ++ (joinS 32 l ++ ⟨#[32]⟩ ++ wRp)
  rw [show (⟨#[40, 32]⟩ : ByteArray) = wLp ++ ⟨#[32]⟩ by decide +kernel, show (⟨#[32, 41]⟩ : ByteArray) = ⟨#[32]⟩ ++ wRp by decide +kernel]
  simp only [ByteArray.append_assoc]
theorem txt_two {x y : List ByteArray} {w s : ByteArray} (hx : x ≠ []) (hy : y ≠ []) (hs : s = ⟨#[32]⟩ ++ w ++ ⟨#[32]⟩) : joinS 32 x ++ s ++ joinS 32 y = joinS 32 (x ++ w :: y) := by
  rw [join_app 32 hx (by simp), join_cons 32 w hy, hs]
  simp only [ByteArray.append_assoc]
theorem txt_one {w s : ByteArray} {y : List ByteArray} (hy : y ≠ []) (hs : s = w ++ ⟨#[32]⟩) : s ++ joinS 32 y = joinS 32 (w :: y) := by
  rw [join_cons 32 w hy, hs]
theorem txtT_par {t : Tr} {k : Nat} (h : lev t < k) : (⟨#[40, 32]⟩ : ByteArray) ++ txtT t (lev t) ++ ⟨#[32, 41]⟩ = txtT t k ∨ 2 < k := by
  cases t with
  | an a b =>
    left
    have h : 1 < k := h
    unfold txtT
    rw [txt_par (toks_ne _ _)]
    simp [toks, par, lev, h]
  | orr a b =>
    left
    have h : 0 < k := h
    unfold txtT
    rw [txt_par (toks_ne _ _)]
    simp [toks, par, lev, h]
  | _ => right; exact h
theorem txtT_same {t : Tr} {k : Nat} (h : ¬lev t < k) : txtT t (lev t) = txtT t k := by
  cases t with
  | an a b =>
    have h : ¬1 < k := h
    unfold txtT
    simp [toks, par, lev, h]
  | orr a b =>
    have h : ¬0 < k := h
    unfold txtT
    simp [toks, par, lev, h]
  | _ => rfl
theorem lvF_lev (t : Tr) (k : Nat) : lvF (rootN t k).kind = (lev t : Int) := by
  cases t <;> rfl
theorem nm_le {s : ByteArray} (h : nm 8 s = true) : s.size ≤ 8 := by
  unfold nm at h
  simp at h
  omega
theorem wl_le : ∀ (t : Tr) (k : Nat), Val (nm 8) t → wl (toks t k) ≤ 20 * sz t
  | .alw, k, h => by show wl [wAlw] ≤ 20; decide
  | .nev, k, h => by show wl [wNev] ≤ 20; decide
  | .opn s, k, h => by
    have := nm_le (s := s) h
    show wl [wOpn, s] ≤ 20
    simp only [wl]; rw [show wOpn.size = 4 from rfl]; omega
  | .clo s, k, h => by
    have := nm_le (s := s) h
    show wl [wClo, s] ≤ 20
    simp only [wl]; rw [show wClo.size = 6 from rfl]; omega
  | .no t, k, h => by
    have := wl_le t 2 h
    simp only [toks, wl, sz]; rw [show wNot.size = 3 from rfl]; omega
  | .an a b, k, h => by
    have := wl_le a 1 h.1
    have := wl_le b 2 h.2
    simp only [toks, par, sz]
    split <;> simp only [wl, wl_app] <;> simp only [show wAnd.size = 3 from rfl, show wLp.size = 1 from rfl, show wRp.size = 1 from rfl] <;> omega
  | .orr a b, k, h => by
    have := wl_le a 0 h.1
    have := wl_le b 1 h.2
    simp only [toks, par, sz]
    split <;> simp only [wl, wl_app] <;> simp only [show wOr.size = 2 from rfl, show wLp.size = 1 from rfl, show wRp.size = 1 from rfl] <;> omega
theorem txt_size {t : Tr} (h : Val (nm 8) t) (k : Nat) : (txtT t k).size ≤ 20 * sz t := by
  have h1 := wl_le t k h
  have h2 := join_size 32 (toks_ne t k)
  unfold txtT; omega
theorem txt_opn (s : ByteArray) (k : Nat) : (⟨#[111, 112, 101, 110, 32]⟩ : ByteArray) ++ s = txtT (.opn s) k := by
  show _ = wOpn ++ ⟨#[32]⟩ ++ s
  rw [show (⟨#[111, 112, 101, 110, 32]⟩ : ByteArray) = wOpn ++ ⟨#[32]⟩ by decide +kernel]
theorem txt_clo (s : ByteArray) (k : Nat) : (⟨#[99, 108, 111, 115, 101, 100, 32]⟩ : ByteArray) ++ s = txtT (.clo s) k := by
  show _ = wClo ++ ⟨#[32]⟩ ++ s
  rw [show (⟨#[99, 108, 111, 115, 101, 100, 32]⟩ : ByteArray) = wClo ++ ⟨#[32]⟩ by decide +kernel]
theorem txt_no (t : Tr) (k : Nat) : (⟨#[110, 111, 116, 32]⟩ : ByteArray) ++ txtT t 2 = txtT (.no t) k := txt_one (toks_ne t 2) (by decide +kernel)
theorem txt_an (a b : Tr) : txtT a 1 ++ (⟨#[32, 97, 110, 100, 32]⟩ : ByteArray) ++ txtT b 2 = txtT (.an a b) 1 := txt_two (toks_ne a 1) (toks_ne b 2) (by decide +kernel)
theorem txt_or (a b : Tr) : txtT a 0 ++ (⟨#[32, 111, 114, 32]⟩ : ByteArray) ++ txtT b 1 = txtT (.orr a b) 0 := txt_two (toks_ne a 0) (toks_ne b 1) (by decide +kernel)

set_option maxRecDepth 100000 in
set_option maxHeartbeats 4000000 in
theorem text_g (nl : Option Bool) (fl : Bool) (l : List Nod) (hl : l.length ≤ 20000) : ∀ (t : Tr) (pre post : List Nod) (k : Nat), Val (nm 8) t → k ≤ 2 → l = pre ++ nds t pre.length ++ post →
    Aw.Spec Tryd.prog 26 [] [.imm nl fl 4 (l.map nc), I (top pre.length (sz t)), I k] (Gives (· = S (txtT t k))) := by
  intro t
  induction t with
  | alw =>
    intro pre post k hv hk h
    obtain ⟨hr, hlt⟩ := root_at h
    have hr1 := hr
    unfold rootN at hr
    refine Aw.Spec.givesD k26 mixed rfl rfl rfl fun E hn hnp hp => ?_
    unfold a26
    simp (config := { maxSteps := 2000000 }) only [go_sem, ↓reduceIte, Int.reduceToNat, Nat.reduceMul, Int.reduceBEq, Int.reduceBNe, Nat.reduceBEq, Nat.reduceAdd, Nat.reduceSub, Nat.reduceLeDiff, Nat.reduceEqDiff, Nat.reduceLT, reduceCtorEq, top, hr]
    refine ⟨⟨by omega, by omega⟩, ?_⟩
    (refine AWpL.calle (s41 0) rfl (by rw [hn]; rfl) (by simp (config := { maxSteps := 2000000 }) only [go_sem, ↓reduceIte, Int.reduceToNat, Nat.reduceMul, Int.reduceBEq, Int.reduceBNe, Nat.reduceBEq, Nat.reduceAdd, Nat.reduceSub, Nat.reduceLeDiff, Nat.reduceEqDiff, Nat.reduceLT, reduceCtorEq]) (AWpL.ofM hn rfl ?_); simp (config := { maxSteps := 2000000 }) only [go_sem, ↓reduceIte, Int.reduceToNat, Nat.reduceMul, Int.reduceBEq, Int.reduceBNe, Nat.reduceBEq, Nat.reduceAdd, Nat.reduceSub, Nat.reduceLeDiff, Nat.reduceEqDiff, Nat.reduceLT, reduceCtorEq])
    have e1 : decide (lvF 0 < (k : Int)) = false := by rw [decide_eq_false_iff_not]; show ¬((2 : Int) < k); omega
    simp (config := { maxSteps := 2000000 }) only [go_sem, ↓reduceIte, Int.reduceToNat, Nat.reduceMul, Int.reduceBEq, Int.reduceBNe, Nat.reduceBEq, Nat.reduceAdd, Nat.reduceSub, Nat.reduceLeDiff, Nat.reduceEqDiff, Nat.reduceLT, reduceCtorEq, e1]

    rfl
  | nev =>
    intro pre post k hv hk h
    obtain ⟨hr, hlt⟩ := root_at h
    have hr1 := hr
    unfold rootN at hr
    refine Aw.Spec.givesD k26 mixed rfl rfl rfl fun E hn hnp hp => ?_
    unfold a26
    simp (config := { maxSteps := 2000000 }) only [go_sem, ↓reduceIte, Int.reduceToNat, Nat.reduceMul, Int.reduceBEq, Int.reduceBNe, Nat.reduceBEq, Nat.reduceAdd, Nat.reduceSub, Nat.reduceLeDiff, Nat.reduceEqDiff, Nat.reduceLT, reduceCtorEq, top, hr]
    refine ⟨⟨by omega, by omega⟩, ?_⟩
    (refine AWpL.calle (s41 1) rfl (by rw [hn]; rfl) (by simp (config := { maxSteps := 2000000 }) only [go_sem, ↓reduceIte, Int.reduceToNat, Nat.reduceMul, Int.reduceBEq, Int.reduceBNe, Nat.reduceBEq, Nat.reduceAdd, Nat.reduceSub, Nat.reduceLeDiff, Nat.reduceEqDiff, Nat.reduceLT, reduceCtorEq]) (AWpL.ofM hn rfl ?_); simp (config := { maxSteps := 2000000 }) only [go_sem, ↓reduceIte, Int.reduceToNat, Nat.reduceMul, Int.reduceBEq, Int.reduceBNe, Nat.reduceBEq, Nat.reduceAdd, Nat.reduceSub, Nat.reduceLeDiff, Nat.reduceEqDiff, Nat.reduceLT, reduceCtorEq])
    have e1 : decide (lvF 1 < (k : Int)) = false := by rw [decide_eq_false_iff_not]; show ¬((2 : Int) < k); omega
    simp (config := { maxSteps := 2000000 }) only [go_sem, ↓reduceIte, Int.reduceToNat, Nat.reduceMul, Int.reduceBEq, Int.reduceBNe, Nat.reduceBEq, Nat.reduceAdd, Nat.reduceSub, Nat.reduceLeDiff, Nat.reduceEqDiff, Nat.reduceLT, reduceCtorEq, e1]

    rfl
  | opn s =>
    intro pre post k hv hk h
    obtain ⟨hr, hlt⟩ := root_at h
    have hr1 := hr
    unfold rootN at hr
    refine Aw.Spec.givesD k26 mixed rfl rfl rfl fun E hn hnp hp => ?_
    unfold a26
    simp (config := { maxSteps := 2000000 }) only [go_sem, ↓reduceIte, Int.reduceToNat, Nat.reduceMul, Int.reduceBEq, Int.reduceBNe, Nat.reduceBEq, Nat.reduceAdd, Nat.reduceSub, Nat.reduceLeDiff, Nat.reduceEqDiff, Nat.reduceLT, reduceCtorEq, top, hr]
    refine ⟨⟨by omega, by omega⟩, ?_⟩
    (refine AWpL.calle (s41 2) rfl (by rw [hn]; rfl) (by simp (config := { maxSteps := 2000000 }) only [go_sem, ↓reduceIte, Int.reduceToNat, Nat.reduceMul, Int.reduceBEq, Int.reduceBNe, Nat.reduceBEq, Nat.reduceAdd, Nat.reduceSub, Nat.reduceLeDiff, Nat.reduceEqDiff, Nat.reduceLT, reduceCtorEq]) (AWpL.ofM hn rfl ?_); simp (config := { maxSteps := 2000000 }) only [go_sem, ↓reduceIte, Int.reduceToNat, Nat.reduceMul, Int.reduceBEq, Int.reduceBNe, Nat.reduceBEq, Nat.reduceAdd, Nat.reduceSub, Nat.reduceLeDiff, Nat.reduceEqDiff, Nat.reduceLT, reduceCtorEq])
    have e1 : decide (lvF 2 < (k : Int)) = false := by rw [decide_eq_false_iff_not]; show ¬((2 : Int) < k); omega
    simp (config := { maxSteps := 2000000 }) only [go_sem, ↓reduceIte, Int.reduceToNat, Nat.reduceMul, Int.reduceBEq, Int.reduceBNe, Nat.reduceBEq, Nat.reduceAdd, Nat.reduceSub, Nat.reduceLeDiff, Nat.reduceEqDiff, Nat.reduceLT, reduceCtorEq, e1]

    have hs : s.size ≤ 8 := nm_le hv
    exact ⟨by show 5 + s.size ≤ _; omega, by rw [txt_opn s k]⟩
  | clo s =>
    intro pre post k hv hk h
    obtain ⟨hr, hlt⟩ := root_at h
    have hr1 := hr
    unfold rootN at hr
    refine Aw.Spec.givesD k26 mixed rfl rfl rfl fun E hn hnp hp => ?_
    unfold a26
    simp (config := { maxSteps := 2000000 }) only [go_sem, ↓reduceIte, Int.reduceToNat, Nat.reduceMul, Int.reduceBEq, Int.reduceBNe, Nat.reduceBEq, Nat.reduceAdd, Nat.reduceSub, Nat.reduceLeDiff, Nat.reduceEqDiff, Nat.reduceLT, reduceCtorEq, top, hr]
    refine ⟨⟨by omega, by omega⟩, ?_⟩
    (refine AWpL.calle (s41 3) rfl (by rw [hn]; rfl) (by simp (config := { maxSteps := 2000000 }) only [go_sem, ↓reduceIte, Int.reduceToNat, Nat.reduceMul, Int.reduceBEq, Int.reduceBNe, Nat.reduceBEq, Nat.reduceAdd, Nat.reduceSub, Nat.reduceLeDiff, Nat.reduceEqDiff, Nat.reduceLT, reduceCtorEq]) (AWpL.ofM hn rfl ?_); simp (config := { maxSteps := 2000000 }) only [go_sem, ↓reduceIte, Int.reduceToNat, Nat.reduceMul, Int.reduceBEq, Int.reduceBNe, Nat.reduceBEq, Nat.reduceAdd, Nat.reduceSub, Nat.reduceLeDiff, Nat.reduceEqDiff, Nat.reduceLT, reduceCtorEq])
    have e1 : decide (lvF 3 < (k : Int)) = false := by rw [decide_eq_false_iff_not]; show ¬((2 : Int) < k); omega
    simp (config := { maxSteps := 2000000 }) only [go_sem, ↓reduceIte, Int.reduceToNat, Nat.reduceMul, Int.reduceBEq, Int.reduceBNe, Nat.reduceBEq, Nat.reduceAdd, Nat.reduceSub, Nat.reduceLeDiff, Nat.reduceEqDiff, Nat.reduceLT, reduceCtorEq, e1]

    have hs : s.size ≤ 8 := nm_le hv
    exact ⟨by show 7 + s.size ≤ _; omega, by rw [txt_clo s k]⟩
  | no t ih =>
    intro pre post k hv hk h
    obtain ⟨hr, hlt⟩ := root_at h
    have hr1 := hr
    unfold rootN at hr
    refine Aw.Spec.givesD k26 mixed rfl rfl rfl fun E hn hnp hp => ?_
    unfold a26
    simp (config := { maxSteps := 2000000 }) only [go_sem, ↓reduceIte, Int.reduceToNat, Nat.reduceMul, Int.reduceBEq, Int.reduceBNe, Nat.reduceBEq, Nat.reduceAdd, Nat.reduceSub, Nat.reduceLeDiff, Nat.reduceEqDiff, Nat.reduceLT, reduceCtorEq, top, hr]
    refine ⟨⟨by omega, by omega⟩, ?_⟩
    (refine AWpL.calle (s41 4) rfl (by rw [hn]; rfl) (by simp (config := { maxSteps := 2000000 }) only [go_sem, ↓reduceIte, Int.reduceToNat, Nat.reduceMul, Int.reduceBEq, Int.reduceBNe, Nat.reduceBEq, Nat.reduceAdd, Nat.reduceSub, Nat.reduceLeDiff, Nat.reduceEqDiff, Nat.reduceLT, reduceCtorEq]) (AWpL.ofM hn rfl ?_); simp (config := { maxSteps := 2000000 }) only [go_sem, ↓reduceIte, Int.reduceToNat, Nat.reduceMul, Int.reduceBEq, Int.reduceBNe, Nat.reduceBEq, Nat.reduceAdd, Nat.reduceSub, Nat.reduceLeDiff, Nat.reduceEqDiff, Nat.reduceLT, reduceCtorEq])

    have hi := ih pre (rootN (.no t) pre.length :: post) 2 hv (by omega) (by rw [h]; simp [nds, rootN])
    have hsz := txt_size (t := t) hv 2
    have hlen := congrArg List.length h
    simp only [List.length_append, nds_len] at hlen
    have hle : sz t + 1 ≤ 20000 := by have : sz (.no t) = sz t + 1 := rfl; omega
    have e1 : decide (lvF 4 < (k : Int)) = false := by rw [decide_eq_false_iff_not]; show ¬((2 : Int) < k); omega
    (refine AWpL.calle (hi) rfl (by rw [hn]; rfl) (by simp (config := { maxSteps := 2000000 }) only [go_sem, ↓reduceIte, Int.reduceToNat, Nat.reduceMul, Int.reduceBEq, Int.reduceBNe, Nat.reduceBEq, Nat.reduceAdd, Nat.reduceSub, Nat.reduceLeDiff, Nat.reduceEqDiff, Nat.reduceLT, reduceCtorEq]) (AWpL.ofM hn rfl ?_); simp (config := { maxSteps := 2000000 }) only [go_sem, ↓reduceIte, Int.reduceToNat, Nat.reduceMul, Int.reduceBEq, Int.reduceBNe, Nat.reduceBEq, Nat.reduceAdd, Nat.reduceSub, Nat.reduceLeDiff, Nat.reduceEqDiff, Nat.reduceLT, reduceCtorEq])
    simp (config := { maxSteps := 2000000 }) only [go_sem, ↓reduceIte, Int.reduceToNat, Nat.reduceMul, Int.reduceBEq, Int.reduceBNe, Nat.reduceBEq, Nat.reduceAdd, Nat.reduceSub, Nat.reduceLeDiff, Nat.reduceEqDiff, Nat.reduceLT, reduceCtorEq, e1, txt_no t k]
    show 4 + (txtT t 2).size ≤ _
    omega
  | an a b iha ihb =>
    intro pre post k hv hk h
    obtain ⟨hr, hlt⟩ := root_at h
    have hr1 := hr
    unfold rootN at hr
    refine Aw.Spec.givesD k26 mixed rfl rfl rfl fun E hn hnp hp => ?_
    unfold a26
    simp (config := { maxSteps := 2000000 }) only [go_sem, ↓reduceIte, Int.reduceToNat, Nat.reduceMul, Int.reduceBEq, Int.reduceBNe, Nat.reduceBEq, Nat.reduceAdd, Nat.reduceSub, Nat.reduceLeDiff, Nat.reduceEqDiff, Nat.reduceLT, reduceCtorEq, top, hr]
    refine ⟨⟨by omega, by omega⟩, ?_⟩
    (refine AWpL.calle (s41 5) rfl (by rw [hn]; rfl) (by simp (config := { maxSteps := 2000000 }) only [go_sem, ↓reduceIte, Int.reduceToNat, Nat.reduceMul, Int.reduceBEq, Int.reduceBNe, Nat.reduceBEq, Nat.reduceAdd, Nat.reduceSub, Nat.reduceLeDiff, Nat.reduceEqDiff, Nat.reduceLT, reduceCtorEq]) (AWpL.ofM hn rfl ?_); simp (config := { maxSteps := 2000000 }) only [go_sem, ↓reduceIte, Int.reduceToNat, Nat.reduceMul, Int.reduceBEq, Int.reduceBNe, Nat.reduceBEq, Nat.reduceAdd, Nat.reduceSub, Nat.reduceLeDiff, Nat.reduceEqDiff, Nat.reduceLT, reduceCtorEq])

    have hla : sz a + sz b + 1 ≤ 20000 := by
      have hlen := congrArg List.length h
      simp only [List.length_append, nds_len] at hlen
      have : sz (.an a b) = sz a + sz b + 1 := rfl
      omega
    have hia := iha pre (nds b (pre.length + sz a) ++ (rootN (.an a b) pre.length :: post)) 1 hv.1 (by omega) (by rw [h]; simp [nds, rootN])
    have hib := ihb (pre ++ nds a pre.length) (rootN (.an a b) pre.length :: post) 2 hv.2 (by omega) (by rw [h, List.length_append, nds_len]; simp [nds, rootN])
    rw [List.length_append, nds_len] at hib
    have hsa := txt_size hv.1 1
    have hsb := txt_size hv.2 2
    refine AWpQ.calle hia (by rw [hn]; rfl) (by simp (config := { maxSteps := 2000000 }) only [go_sem, ↓reduceIte, Int.reduceToNat, Nat.reduceMul, Int.reduceBEq, Int.reduceBNe, Nat.reduceBEq, Nat.reduceAdd, Nat.reduceSub, Nat.reduceLeDiff, Nat.reduceEqDiff, Nat.reduceLT, reduceCtorEq]) (AWpQ.of hn rfl ?_)
    simp (config := { maxSteps := 2000000 }) only [go_sem, ↓reduceIte, Int.reduceToNat, Nat.reduceMul, Int.reduceBEq, Int.reduceBNe, Nat.reduceBEq, Nat.reduceAdd, Nat.reduceSub, Nat.reduceLeDiff, Nat.reduceEqDiff, Nat.reduceLT, reduceCtorEq]
    refine ⟨by show (txtT a 1).size + 5 ≤ _; omega, ?_⟩
    refine AWpQ.calle hib (by rw [hn]; rfl) (by simp (config := { maxSteps := 2000000 }) only [go_sem, ↓reduceIte, Int.reduceToNat, Nat.reduceMul, Int.reduceBEq, Int.reduceBNe, Nat.reduceBEq, Nat.reduceAdd, Nat.reduceSub, Nat.reduceLeDiff, Nat.reduceEqDiff, Nat.reduceLT, reduceCtorEq]) (AWpQ.of hn rfl ?_)
    have hst := txt_size (t := .an a b) hv 1
    rw [show sz (.an a b) = sz a + sz b + 1 from rfl] at hst
    have hq : (txtT a 1).size + (#[32, 97, 110, 100, 32] : Array UInt8).size + (txtT b 2).size ≤ 9223372036854775807 := by
      show (txtT a 1).size + 5 + (txtT b 2).size ≤ _; omega
    by_cases hk2 : lev (.an a b) < k
    · have e1 : decide (lvF 5 < (k : Int)) = true := by rw [decide_eq_true_eq]; have : (1 : Int) < k := by { have : 1 < k := hk2; omega }; exact this
      have e2 : (⟨#[40, 32]⟩ : ByteArray) ++ txtT (.an a b) 1 ++ ⟨#[32, 41]⟩ = txtT (.an a b) k := (txtT_par hk2).resolve_right (by omega)
      simp (config := { maxSteps := 2000000 }) only [go_sem, ↓reduceIte, Int.reduceToNat, Nat.reduceMul, Int.reduceBEq, Int.reduceBNe, Nat.reduceBEq, Nat.reduceAdd, Nat.reduceSub, Nat.reduceLeDiff, Nat.reduceEqDiff, Nat.reduceLT, reduceCtorEq, e1, txt_an a b, e2]
      exact ⟨hq, by show 2 + (txtT (.an a b) 1).size ≤ _; omega, by show 2 + (txtT (.an a b) 1).size + 2 ≤ _; omega⟩
    · have e1 : decide (lvF 5 < (k : Int)) = false := by rw [decide_eq_false_iff_not]; intro h; exact hk2 (by have h : (1 : Int) < k := h; show 1 < k; omega)
      have e2 : txtT (.an a b) 1 = txtT (.an a b) k := txtT_same hk2
      simp (config := { maxSteps := 2000000 }) only [go_sem, ↓reduceIte, Int.reduceToNat, Nat.reduceMul, Int.reduceBEq, Int.reduceBNe, Nat.reduceBEq, Nat.reduceAdd, Nat.reduceSub, Nat.reduceLeDiff, Nat.reduceEqDiff, Nat.reduceLT, reduceCtorEq, e1, txt_an a b, e2]
      exact hq

  | orr a b iha ihb =>
    intro pre post k hv hk h
    obtain ⟨hr, hlt⟩ := root_at h
    have hr1 := hr
    unfold rootN at hr
    refine Aw.Spec.givesD k26 mixed rfl rfl rfl fun E hn hnp hp => ?_
    unfold a26
    simp (config := { maxSteps := 2000000 }) only [go_sem, ↓reduceIte, Int.reduceToNat, Nat.reduceMul, Int.reduceBEq, Int.reduceBNe, Nat.reduceBEq, Nat.reduceAdd, Nat.reduceSub, Nat.reduceLeDiff, Nat.reduceEqDiff, Nat.reduceLT, reduceCtorEq, top, hr]
    refine ⟨⟨by omega, by omega⟩, ?_⟩
    (refine AWpL.calle (s41 6) rfl (by rw [hn]; rfl) (by simp (config := { maxSteps := 2000000 }) only [go_sem, ↓reduceIte, Int.reduceToNat, Nat.reduceMul, Int.reduceBEq, Int.reduceBNe, Nat.reduceBEq, Nat.reduceAdd, Nat.reduceSub, Nat.reduceLeDiff, Nat.reduceEqDiff, Nat.reduceLT, reduceCtorEq]) (AWpL.ofM hn rfl ?_); simp (config := { maxSteps := 2000000 }) only [go_sem, ↓reduceIte, Int.reduceToNat, Nat.reduceMul, Int.reduceBEq, Int.reduceBNe, Nat.reduceBEq, Nat.reduceAdd, Nat.reduceSub, Nat.reduceLeDiff, Nat.reduceEqDiff, Nat.reduceLT, reduceCtorEq])

    have hla : sz a + sz b + 1 ≤ 20000 := by
      have hlen := congrArg List.length h
      simp only [List.length_append, nds_len] at hlen
      have : sz (.orr a b) = sz a + sz b + 1 := rfl
      omega
    have hia := iha pre (nds b (pre.length + sz a) ++ (rootN (.orr a b) pre.length :: post)) 0 hv.1 (by omega) (by rw [h]; simp [nds, rootN])
    have hib := ihb (pre ++ nds a pre.length) (rootN (.orr a b) pre.length :: post) 1 hv.2 (by omega) (by rw [h, List.length_append, nds_len]; simp [nds, rootN])
    rw [List.length_append, nds_len] at hib
    have hsa := txt_size hv.1 0
    have hsb := txt_size hv.2 1
    refine AWpQ.calle hia (by rw [hn]; rfl) (by simp (config := { maxSteps := 2000000 }) only [go_sem, ↓reduceIte, Int.reduceToNat, Nat.reduceMul, Int.reduceBEq, Int.reduceBNe, Nat.reduceBEq, Nat.reduceAdd, Nat.reduceSub, Nat.reduceLeDiff, Nat.reduceEqDiff, Nat.reduceLT, reduceCtorEq]) (AWpQ.of hn rfl ?_)
    simp (config := { maxSteps := 2000000 }) only [go_sem, ↓reduceIte, Int.reduceToNat, Nat.reduceMul, Int.reduceBEq, Int.reduceBNe, Nat.reduceBEq, Nat.reduceAdd, Nat.reduceSub, Nat.reduceLeDiff, Nat.reduceEqDiff, Nat.reduceLT, reduceCtorEq]
    refine ⟨by show (txtT a 0).size + 4 ≤ _; omega, ?_⟩
    refine AWpQ.calle hib (by rw [hn]; rfl) (by simp (config := { maxSteps := 2000000 }) only [go_sem, ↓reduceIte, Int.reduceToNat, Nat.reduceMul, Int.reduceBEq, Int.reduceBNe, Nat.reduceBEq, Nat.reduceAdd, Nat.reduceSub, Nat.reduceLeDiff, Nat.reduceEqDiff, Nat.reduceLT, reduceCtorEq]) (AWpQ.of hn rfl ?_)
    have hst := txt_size (t := .orr a b) hv 0
    rw [show sz (.orr a b) = sz a + sz b + 1 from rfl] at hst
    have hq : (txtT a 0).size + (#[32, 111, 114, 32] : Array UInt8).size + (txtT b 1).size ≤ 9223372036854775807 := by
      show (txtT a 0).size + 4 + (txtT b 1).size ≤ _; omega
    by_cases hk2 : lev (.orr a b) < k
    · have e1 : decide (lvF 6 < (k : Int)) = true := by rw [decide_eq_true_eq]; have : (0 : Int) < k := by { have : 0 < k := hk2; omega }; exact this
      have e2 : (⟨#[40, 32]⟩ : ByteArray) ++ txtT (.orr a b) 0 ++ ⟨#[32, 41]⟩ = txtT (.orr a b) k := (txtT_par hk2).resolve_right (by omega)
      simp (config := { maxSteps := 2000000 }) only [go_sem, ↓reduceIte, Int.reduceToNat, Nat.reduceMul, Int.reduceBEq, Int.reduceBNe, Nat.reduceBEq, Nat.reduceAdd, Nat.reduceSub, Nat.reduceLeDiff, Nat.reduceEqDiff, Nat.reduceLT, reduceCtorEq, e1, txt_or a b, e2]
      exact ⟨hq, by show 2 + (txtT (.orr a b) 0).size ≤ _; omega, by show 2 + (txtT (.orr a b) 0).size + 2 ≤ _; omega⟩
    · have e1 : decide (lvF 6 < (k : Int)) = false := by rw [decide_eq_false_iff_not]; intro h; exact hk2 (by have h : (0 : Int) < k := h; show 0 < k; omega)
      have e2 : txtT (.orr a b) 0 = txtT (.orr a b) k := txtT_same hk2
      simp (config := { maxSteps := 2000000 }) only [go_sem, ↓reduceIte, Int.reduceToNat, Nat.reduceMul, Int.reduceBEq, Int.reduceBNe, Nat.reduceBEq, Nat.reduceAdd, Nat.reduceSub, Nat.reduceLeDiff, Nat.reduceEqDiff, Nat.reduceLT, reduceCtorEq, e1, txt_or a b, e2]
      exact hq

end Go.Proofs.YtocghkacngoblaaDoor
