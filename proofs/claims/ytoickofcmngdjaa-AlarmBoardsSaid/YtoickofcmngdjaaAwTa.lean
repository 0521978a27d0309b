/- The length of a slice that a reading weighs. -/
import Derived.Test.YtoickofcmngdjaaAwT
set_option linter.unusedVariables false
set_option linter.unusedSimpArgs false
namespace Go.Proofs.Ytoickofcmngdjaa.Aw
open Go.RowKit

section
variable {H : Type} {enc : TypeId × Value → H} {P : Program}
theorem weigh_cons {W : World} {ts : List TypeId} {t : TypeId} {d : DataW H} {ds : List (DataW H)} {n : Nat} (h : (DataW.weightsEach P (t :: ts) (d :: ds)).all (· ≤ n) = true) : (d.weights P t).all (· ≤ n) = true ∧ (DataW.weightsEach P ts ds).all (· ≤ n) = true := by
  unfold DataW.weightsEach at h
  rw [List.all_append, Bool.and_eq_true] at h
  exact h
/-- A slice that is read has the length that its reading weighs. -/
theorem weigh_len {W : World} {base : Nat} {spare : Nat → Bool} {held : Bool} {t e : TypeId} {v : Value} {d : DataW H} {p : List MemPlace} {ok : Nat → Prop} {nl : Option Bool} {fl : Bool} {sz n : Nat} {els : List (List AV)} (ht : P.underlying t = some (.slice e))
    (h : DataW.Trod enc P W base spare held t v d p) (hR : Rc W ok (.imm nl fl sz els) v) (hw : (d.weights P t).all (· ≤ n) = true) : els.length * P.bytesOf e ≤ n := by
  unfold Rc at hR
  obtain ⟨A, c, hv, _⟩ := hR
  obtain ⟨fuel, hx⟩ := h
  rcases DataW.trod_slice ht hx with ⟨h1, _⟩ | ⟨a, len, cap, elems, rest, n', h0, h1, hxe, _, _, _, h3, _, _, _⟩
  · rw [hv] at h1
    have : [Value.slice A els.length c] = [Value.slice none 0 0] := h1
    injection this with h2
    injection h2 with h2 h3 h4
    rw [h3]; simp
  · rw [hv] at h1
    have h5 : [Value.slice A els.length c] = [Value.slice (some a) len cap] := h1
    injection h5 with h5
    injection h5 with h5 h6 h7
    injection hxe with hxd hxp
    subst hxd
    unfold DataW.weights at hw
    simp only [ht, List.all_cons, Bool.and_eq_true, decide_eq_true_eq] at hw
    refine Nat.le_trans (Nat.mul_le_mul_right _ ?_) hw.1
    simp only [List.length_map]
    omega
end
end Go.Proofs.Ytoickofcmngdjaa.Aw
