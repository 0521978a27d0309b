/- A logic of abstract states for walks: calls and appends, their operands said beforehand. -/
import Derived.Test.YtmkodhpbjedfkaaAwZa
set_option linter.unusedVariables false
set_option linter.unusedSimpArgs false
namespace Go.Proofs.Ytmkodhpbjedfkaa.Aw
open Go.RowKit

section
variable {P : Program} {E : Env} {Q : Exit → St → Prop} {s : St}
/-- A call whose result is this value; the arguments as they are lent. -/
theorem AWpL.calleA {f : FuncId} {xs : List Opd} {dst : Option Nat} {gs : List GOp} {args : List AV} {y : AV} (hs : Spec P f [] args (Gives (· = y))) (ha : (xs.map fun x => borA 4 s (s.ev x)) = args)
    (hy : plainA y = true) (hd : dstOk E.n dst = true) (hb : allOb (borOb 4 s) (xs.map s.ev)) (h : AWpL P E Q gs (s.putO dst y)) : AWpL P E Q (⟨dst, none, .call f xs⟩ :: gs) s := by
  subst ha
  exact AWpL.calle hs hy hd hb h
theorem AWpL.callgA {f : FuncId} {xs : List Opd} {dst : Option Nat} {gs : List GOp} {args : List AV} {p : AV → Prop} (hs : Spec P f [] args (Gives p)) (ha : (xs.map fun x => borA 4 s (s.ev x)) = args)
    (hd : dstOk E.n dst = true) (hb : allOb (borOb 4 s) (xs.map s.ev)) (h : ∀ x, p x → NI x ∧ AWpL P E Q gs (s.putO dst (mapA (bkM [] s.rg.length) x))) : AWpL P E Q (⟨dst, none, .call f xs⟩ :: gs) s := by
  subst ha
  exact AWpL.callg hs hd hb h
/-- A call, the callee getting the regions of π; what is handed over said beforehand. -/
theorem AWpL.callA (π : List Nat) {f : FuncId} {xs : List Opd} {dst : Option Nat} {gs : List GOp} {rg0 : List Reg} {args : List AV} {Post : List Reg → AV → Prop} (hs : Spec P f rg0 args Post) (hl : lent s π = rg0) (ha : (xs.map fun x => renA π (s.ev x)) = args)
    (hd : dstOk E.n dst = true) (hπ : piOk s.rg.length π = true) (hpin : ∀ r ∈ π, isBox (s.reg r) = true ∨ E.pin r = none)
    (h : ∀ rg x, Post rg x → π.length ≤ rg.length ∧ AWpL P E Q gs (retS s π dst rg x)) : AWpL P E Q (⟨dst, none, .call f xs⟩ :: gs) s := by
  subst hl; subst ha
  exact AWpL.call π hs hd hπ hpin h
/-- Whatever way it goes, it comes to this state. -/
theorem AWp.cut (S0 : St) {c : ACode} (h : AWp P E (fun e s' => e = .normal ∧ Weak E s' S0) c s) (k : Q .normal S0) : AWp P E Q c s := fun code hc a w hr =>
  wp_mono (h code hc a w hr) fun e a w ⟨s', ⟨he, hw⟩, hr'⟩ => by subst he; exact ⟨S0, k, hw a w hr'⟩
theorem PinOk.none {rg0 : List Reg} {np r : Nat} (hp : PinOk E rg0) (hnp : E.np = np) (h : np ≤ r) : E.pin r = Option.none := by
  cases h1 : E.pin r with
  | none => rfl
  | some p => have := (hp r p h1).1; omega
/-- A nil slice is a slice that is only read. -/
theorem weak_nilimm (i sz : Nat) (h : look s.tm i = .val (.slice none 0 0)) : Weak E s (s.put i (.imm (some true) true sz [])) := fun a w ⟨ρ, ok, hr⟩ => by
  refine ⟨ρ, ok, hr.mem, fun m => ?_, hr.siz, hr.dfr, hr.kps, hr.bas, hr.ownr, hr.okr, hr.pin⟩
  show R w ok ρ (look (putTm s.tm i _) m) _
  rw [look_put]
  by_cases e : m = i
  · subst e
    rw [if_pos rfl]
    have := hr.tm m
    rw [h] at this
    rw [R_val this]
    unfold R Rc
    exact ⟨none, 0, rfl, Nat.le_refl _, fun q hq => Option.some.inj hq, fun _ => rfl, fun _ => rfl, fun a ha => by cases ha⟩
  · rw [if_neg e]; exact hr.tm m
end
end Go.Proofs.Ytmkodhpbjedfkaa.Aw
