/- A logic of abstract states for walks: drawn regions by a plan. -/
import Derived.Test.YtmkodhpbjedfkaaAwV
set_option linter.unusedVariables false
set_option linter.unusedSimpArgs false
namespace Go.Proofs.Ytmkodhpbjedfkaa.Aw
open Go.RowKit

section
variable {P : Program} {E : Env} {Q : Exit → St → Prop} {s s' : St} {n : Nat} {af : List (List Nat)} {gs : List GOp} {fl : List Bool} {fuel : Nat} {listed : Array Bool}
/-- A call that only reads, in a drawn region. -/
theorem AOne.callb {m : Bool} {f : FuncId} {xs : List Opd} {dst : Option Nat} {K : St → Prop} {Post : List Reg → AV → Prop} (hs : Spec P f [] (xs.map fun x => borA 4 s (s.ev x)) Post)
    (hd : dstOk E.n dst = true) (hb : allOb (borOb 4 s) (xs.map s.ev)) (h : ∀ rg x, Post rg x → (NI x ∧ ∀ g ∈ rg, NIR g) ∧ K (retS s [] dst rg x)) : AOne P E m ⟨dst, none, .call f xs⟩ s K := fun ops o hg a w hrel Q => by
  obtain ⟨ρ, ok, hr⟩ := hrel
  obtain ⟨hc, hdst, hgd⟩ := gop_guard hg
  rcases hgd with ⟨hg0, _⟩ | ⟨_, _, _, _, _, hgd⟩
  case inr => cases hgd
  rw [if_pos (wanted_none hg0 _)]
  left
  obtain ⟨_, vals, hv, hrun⟩ := call_inv (a := a) (w := w) hc
  unfold Oper.wp
  rw [hrun]
  refine upon_enter hdst.symm ?_
  have ha : RcList w (fun b => b < w.heap.size) (xs.map fun x => borA 4 s (s.ev x)) vals.toList := by rw [hv]; exact args_bor hr xs fun x hx => allOb_mem hb _ (List.mem_map.2 ⟨x, hx, rfl⟩)
  refine (hs w (fun _ => none) (fun b => b < w.heap.size) vals (Mem.none fun _ h => h) (RList_of_Rc _ _ ha)).mono ?_
  rintro e w' ⟨rg, x, v, ρ', ok', rfl, hp, hm, hx, h1, h2, h3, h4⟩
  obtain ⟨⟨h5, h5'⟩, h6⟩ := h rg x hp
  have hext : Ext w w' := ⟨h3.os, h3.tape, h3.output, h3.size, fun k hk => h3.block k hk fun ⟨r0, p0, h7, _⟩ => by cases h7⟩
  refine ⟨v, rfl, fun _ => hext, _, h6, _, _, ret_core hr (π := []) rfl (fun r hr => by cases hr) hd (hm.ni h5') (R_ni x v h5 hx) (fun b hb => hb.elim) (Nat.zero_le _) (fun r p hp => ?_) ⟨h3.os, h3.tape, h3.output, h3.size, fun k hk _ => h3.block k hk fun ⟨r0, p0, h7, _⟩ => by cases h7⟩ fun r hb hlt' => by simp at hlt'⟩
  rcases h2 r p hp with h7 | ⟨r0, p0, h7, _⟩
  · exact .inl h7
  · cases h7
theorem AOne.calle {m : Bool} {f : FuncId} {xs : List Opd} {dst : Option Nat} {K : St → Prop} {y : AV} (hs : Spec P f [] (xs.map fun x => borA 4 s (s.ev x)) (Gives (· = y)))
    (hy : plainA y = true) (hd : dstOk E.n dst = true) (hb : allOb (borOb 4 s) (xs.map s.ev)) (h : K (s.putO dst y)) : AOne P E m ⟨dst, none, .call f xs⟩ s K :=
  AOne.callb hs hd hb fun rg x ⟨hr, hx⟩ => by
    subst hr; subst hx
    exact ⟨⟨plain_ni _ hy, fun _ h => by cases h⟩, by rw [retS_nil, plain_map _ _ hy]; exact h⟩

inductive Plan where
  | done
  | take (i : Nat) (bs : List Bool) (p : Plan)
  | all (l : List (Nat × Plan))
  | one (i : Nat) (p : Plan)
  | two (i : Nat) (p : Plan) (j : Nat) (q : Plan)
  | three (i : Nat) (p : Plan) (j : Nat) (q : Plan) (k : Nat) (r : Plan)
  | four (i : Nat) (p : Plan) (j : Nat) (q : Plan) (k : Nat) (r : Plan) (l : Nat) (t : Plan)
  deriving Inhabited

/-- The plan's shape is right. -/
def planOk (af : List (List Nat)) (fl : List Bool) : Plan → Nat → Array Bool → Bool
  | .done, _, listed => (readyL af listed).isEmpty
  | .take i bs p, fuel + 1, listed => (readyL af listed).contains i && bsOk af i bs && flOk af.length i bs fl listed && planOk af fl p fuel (listed.setIfInBounds i true)
  | .one i p, fuel + 1, listed => readyL af listed == [i] && planOk af fl p fuel (listed.setIfInBounds i true)
  | .two i p j q, fuel + 1, listed => readyL af listed == [i, j] && planOk af fl p fuel (listed.setIfInBounds i true) && planOk af fl q fuel (listed.setIfInBounds j true)
  | .three i p j q k r, fuel + 1, listed => readyL af listed == [i, j, k] && planOk af fl p fuel (listed.setIfInBounds i true) && planOk af fl q fuel (listed.setIfInBounds j true) && planOk af fl r fuel (listed.setIfInBounds k true)
  | .four i p j q k r l t, fuel + 1, listed => readyL af listed == [i, j, k, l] && planOk af fl p fuel (listed.setIfInBounds i true) && planOk af fl q fuel (listed.setIfInBounds j true) && planOk af fl r fuel (listed.setIfInBounds k true) && planOk af fl t fuel (listed.setIfInBounds l true)
  | _, _, _ => false
/-- One operation, computed; an operation with a rule of its own is left. -/
def wpS (P : Program) (E : Env) (m : Bool) (s : St) (K : St → Prop) : Option GOp → Prop
  | some ⟨d, none, op⟩ => bif stops op then AOne P E m ⟨d, none, op⟩ s K else (m = true → op.mild = true) ∧ match aop s.ev s op with
    | some (z, s', ob) => ob ∧ K (s'.putO d z)
    | none => False
  | some ⟨d, some (t, want), op⟩ => bif stops op then AOne P E m ⟨d, some (t, want), op⟩ s K else (m = true → op.mild = true) ∧ match gdB (look s.tm t) want with
    | some b => match op.still, aop (fun x => (s.ev x).strip) s op with
      | true, some (z, _, ob) => (b = true → opOb s.ev op ∧ ob) ∧ K (s.putO d (.opt b z))
      | _, _ => False
    | none => False
  | none => False
def wpT (P : Program) (E : Env) (s : St) (K : St → Prop) : Option GOp → Prop
  | some ⟨d, none, op⟩ => stops op = false ∧ op.still = true ∧ match aop s.ev s op with
    | some (z, s', ob) => ob ∧ K (s'.putO d z)
    | none => False
  | some ⟨d, some (t, want), op⟩ => stops op = false ∧ match gdB (look s.tm t) want with
    | some b => match op.still, aop (fun x => (s.ev x).strip) s op with
      | true, some (z, _, ob) => (b = true → opOb s.ev op ∧ ob) ∧ K (s.putO d (.opt b z))
      | _, _ => False
    | none => False
  | none => False
def wpP (P : Program) (E : Env) (Q : Exit → St → Prop) (gs : List GOp) (fl : List Bool) : Plan → St → Prop
  | .done, s => Q .normal s
  | .take i _ p, s => wpT P E s (wpP P E Q gs fl p) gs[i]?
  | .one i p, s => wpS P E (fl.getD i false) s (wpP P E Q gs fl p) gs[i]?
  | .two i p j q, s => wpS P E (fl.getD i false) s (wpP P E Q gs fl p) gs[i]? ∧ wpS P E (fl.getD j false) s (wpP P E Q gs fl q) gs[j]?
  | .three i p j q k r, s => wpS P E (fl.getD i false) s (wpP P E Q gs fl p) gs[i]? ∧ wpS P E (fl.getD j false) s (wpP P E Q gs fl q) gs[j]? ∧ wpS P E (fl.getD k false) s (wpP P E Q gs fl r) gs[k]?
  | .four i p j q k r l t, s => wpS P E (fl.getD i false) s (wpP P E Q gs fl p) gs[i]? ∧ wpS P E (fl.getD j false) s (wpP P E Q gs fl q) gs[j]? ∧ wpS P E (fl.getD k false) s (wpP P E Q gs fl r) gs[k]? ∧ wpS P E (fl.getD l false) s (wpP P E Q gs fl t) gs[l]?
  | .all _, _ => False
theorem dsts_get : ∀ {gs : List GOp} {i : Nat} {g : GOp}, dstsOk n gs = true → gs[i]? = some g → dstOk n g.dst = true
  | [], i, g, _, h => by simp at h
  | x :: gs, 0, g, hd, h => by
    simp only [dstsOk, Bool.and_eq_true] at hd
    simp only [List.getElem?_cons_zero, Option.some.injEq] at h
    subst h; exact hd.1
  | x :: gs, i + 1, g, hd, h => by
    simp only [dstsOk, Bool.and_eq_true] at hd
    exact dsts_get hd.2 (by simpa using h)
theorem AOne.mono {m : Bool} {g : GOp} {K K' : St → Prop} (hk : ∀ s, K s → K' s) (h : AOne P E m g s K) : AOne P E m g s K' := fun ops o hg a w hrel Q => by
  have := h ops o hg a w hrel Q
  split at this
  · rename_i hw
    rw [if_pos hw]
    exact this.imp (Oper.wp_mono fun a' w' ⟨h1, s', h2, h3⟩ => ⟨h1, s', hk s' h2, h3⟩) id
  · rename_i hw
    rw [if_neg hw]
    obtain ⟨h1, s', h2, h3⟩ := this
    exact ⟨h1, s', hk s' h2, h3⟩
theorem wpS_one (hn : E.n = n) {m : Bool} {K : St → Prop} {o : Option GOp} (hd : ∀ g, o = some g → dstOk n g.dst = true) (h : wpS P E m s K o) : ∃ g, o = some g ∧ AOne P E m g s K := by
  rcases o with _ | ⟨d, _ | ⟨t, want⟩, op⟩
  · exact h.elim
  · have hd' := hd _ rfl
    refine ⟨_, rfl, ?_⟩
    unfold wpS at h; dsimp only at h
    cases hs : stops op with
    | true => rw [hs] at h; exact h
    | false =>
      rw [hs] at h
      simp only [cond_false] at h
      obtain ⟨hm, h⟩ := h
      split at h
      · rename_i z s1 ob ha
        exact AOne.step (s' := s1.putO d z) hm (by simp only [stepOp, hn, hd', cond_true, ha]) h.1 h.2
      · exact h.elim
  · have hd' := hd _ rfl
    refine ⟨_, rfl, ?_⟩
    unfold wpS at h; dsimp only at h
    cases hs : stops op with
    | true => rw [hs] at h; exact h
    | false =>
      rw [hs] at h
      simp only [cond_false] at h
      obtain ⟨hm, h⟩ := h
      split at h
      · rename_i b hb
        split at h
        · rename_i z s1 ob hst ha
          exact AOne.step (s' := s.putO d (.opt b z)) hm (by simp only [stepOp, hn, hd', cond_true, hb, hst, ha]) h.1 h.2
        · exact h.elim
      · exact h.elim
theorem AAny.plan (hn : E.n = n) (hds : dstsOk n gs = true) : ∀ {p : Plan} {fuel : Nat} {listed : Array Bool} {s : St}, planOk af fl p fuel listed = true → wpP P E Q gs fl p s → AAny P E Q af gs fl fuel listed s
  | .done, fuel, listed, s, hp, h => AAny.done (by cases fuel <;> simpa [planOk] using hp) h
  | .take i bs p, 0, listed, s, hp, h => by simp [planOk] at hp
  | .take i bs p, fuel + 1, listed, s, hp, h => by
    simp only [planOk, Bool.and_eq_true] at hp
    obtain ⟨⟨⟨h1, h2⟩, h3⟩, h4⟩ := hp
    unfold wpP at h
    cases hg : gs[i]? with
    | none => rw [hg] at h; exact h.elim
    | some g =>
      have hd := dsts_get hds hg
      rw [hg] at h
      obtain ⟨d, _ | ⟨t, want⟩, op⟩ := g
      · unfold wpT at h; dsimp only at h
        obtain ⟨_, hst, h⟩ := h
        split at h
        · rename_i z s1 ob ha
          exact AAny.take i bs hg h1 h2 h3 hst (s' := s1.putO d z) (by simp only [stepOp, hn, hd, cond_true, ha]) h.1 (AAny.plan hn hds h4 h.2)
        · exact h.elim
      · unfold wpT at h; dsimp only at h
        obtain ⟨_, h⟩ := h
        split at h
        · rename_i b hb
          split at h
          · rename_i z s1 ob hst ha
            exact AAny.take i bs hg h1 h2 h3 hst (s' := s.putO d (.opt b z)) (by simp only [stepOp, hn, hd, cond_true, hb, hst, ha]) h.1 (AAny.plan hn hds h4 h.2)
          · exact h.elim
        · exact h.elim
  | .one i p, 0, listed, s, hp, h => by simp [planOk] at hp
  | .one i p, fuel + 1, listed, s, hp, h => by
    simp only [planOk, Bool.and_eq_true, beq_iff_eq] at hp
    unfold wpP at h
    refine AAny.all hp.1 (by simp) fun k hk => ?_
    obtain rfl := List.mem_singleton.1 hk
    obtain ⟨g, h1, h2⟩ := wpS_one hn (fun g hg => dsts_get hds hg) h
    exact ⟨g, h1, h2.mono fun s' h3 => AAny.plan hn hds hp.2 h3⟩
  | .two i p j q, 0, listed, s, hp, h => by simp [planOk] at hp
  | .two i p j q, fuel + 1, listed, s, hp, h => by
    simp only [planOk, Bool.and_eq_true, beq_iff_eq] at hp
    unfold wpP at h
    refine AAny.all hp.1.1 (by simp) fun k hk => ?_
    simp only [List.mem_cons, List.not_mem_nil, or_false] at hk
    rcases hk with rfl | rfl
    · obtain ⟨g, h1, h2⟩ := wpS_one hn (fun g hg => dsts_get hds hg) h.1
      exact ⟨g, h1, h2.mono fun s' h3 => AAny.plan hn hds hp.1.2 h3⟩
    · obtain ⟨g, h1, h2⟩ := wpS_one hn (fun g hg => dsts_get hds hg) h.2
      exact ⟨g, h1, h2.mono fun s' h3 => AAny.plan hn hds hp.2 h3⟩
  | .three i p j q k r, 0, listed, s, hp, h => by simp [planOk] at hp
  | .three i p j q k r, fuel + 1, listed, s, hp, h => by
    simp only [planOk, Bool.and_eq_true, beq_iff_eq] at hp
    unfold wpP at h
    refine AAny.all hp.1.1.1 (by simp) fun m hm => ?_
    simp only [List.mem_cons, List.not_mem_nil, or_false] at hm
    rcases hm with rfl | rfl | rfl
    · obtain ⟨g, h1, h2⟩ := wpS_one hn (fun g hg => dsts_get hds hg) h.1
      exact ⟨g, h1, h2.mono fun s' h3 => AAny.plan hn hds hp.1.1.2 h3⟩
    · obtain ⟨g, h1, h2⟩ := wpS_one hn (fun g hg => dsts_get hds hg) h.2.1
      exact ⟨g, h1, h2.mono fun s' h3 => AAny.plan hn hds hp.1.2 h3⟩
    · obtain ⟨g, h1, h2⟩ := wpS_one hn (fun g hg => dsts_get hds hg) h.2.2
      exact ⟨g, h1, h2.mono fun s' h3 => AAny.plan hn hds hp.2 h3⟩
  | .four i p j q k r l t, 0, listed, s, hp, h => by simp [planOk] at hp
  | .four i p j q k r l t, fuel + 1, listed, s, hp, h => by
    simp only [planOk, Bool.and_eq_true, beq_iff_eq] at hp
    unfold wpP at h
    refine AAny.all hp.1.1.1.1 (by simp) fun m hm => ?_
    simp only [List.mem_cons, List.not_mem_nil, or_false] at hm
    rcases hm with rfl | rfl | rfl | rfl
    · obtain ⟨g, h1, h2⟩ := wpS_one hn (fun g hg => dsts_get hds hg) h.1
      exact ⟨g, h1, h2.mono fun s' h3 => AAny.plan hn hds hp.1.1.1.2 h3⟩
    · obtain ⟨g, h1, h2⟩ := wpS_one hn (fun g hg => dsts_get hds hg) h.2.1
      exact ⟨g, h1, h2.mono fun s' h3 => AAny.plan hn hds hp.1.1.2 h3⟩
    · obtain ⟨g, h1, h2⟩ := wpS_one hn (fun g hg => dsts_get hds hg) h.2.2.1
      exact ⟨g, h1, h2.mono fun s' h3 => AAny.plan hn hds hp.1.2 h3⟩
    · obtain ⟨g, h1, h2⟩ := wpS_one hn (fun g hg => dsts_get hds hg) h.2.2.2
      exact ⟨g, h1, h2.mono fun s' h3 => AAny.plan hn hds hp.2 h3⟩
  | .all _, fuel, listed, s, hp, h => by cases h
/-- A drawn region, by a plan. -/
theorem AWp.plan (p : Plan) (fl : List Bool) (hm : P.follows .mixedOrders = true) (hn : E.n = n) (hds : dstsOk n gs = true) (hp : planOk af fl p gs.length (Array.replicate gs.length false) = true) (h : wpP P E Q gs fl p s) :
    AWp P E Q (.region true af gs) s := AWp.drawAny hm fl (AAny.plan hn hds hp h)
end
end Go.Proofs.Ytmkodhpbjedfkaa.Aw
