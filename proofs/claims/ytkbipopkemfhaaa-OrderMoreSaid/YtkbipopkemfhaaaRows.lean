/-
  No cell of these rows narrows 'for every input' (looked for: loops, veiled, ifaces, maps, wideKeys, modest, calm, conditions, laid).
  DERIVED. THE GIVEN ROWS OF THIS SEAT. 5 by the template 'for every input the law returns true; each argument reads behind the call as it read before'; 0 by the template 'total and deterministic' (their statements: YtkbipopkemfhaaaTotals.lean).
  GIVEN WITH THE SEED: the statements are not yours to turn. If you find one false, say at which input.
  Laid BY PROGRAM, IN A SANDBOX (cutbox-rows.mjs): the forced cells as the released guide's own fill.sh prints them over the translation a8ba334354a2ab7c… (all of the seat's roots in one cut). By AI agents, Wed Nov 11 2026. No macro, syntax, notation, axiom, sorry.
-/
import Derived.Test.YtkbipopkemfhaaaChecked
import GoSem.Claim
import GoSem.ClaimJoined
import GoSem.ClaimMapViews
import Derived.JoinedTies
import Derived.KernelRfl
namespace Go.Proofs.Ytkbipopkemfhaaa
/- THE CELL 'sum', in the pinned program and in every row, IS THE sha256 OF THE DUMP (.gsa) THAT YtkbipopkemfhaaaProg.lean LOADS. Nothing in Lean hashes anything: it is a label: what it is worth is what the hold of that sum in a sandbox is worth. -/
noncomputable def Try.pinned : Pinned := { name := "ytkbipopkemfhaaa", sum := "a8ba334354a2ab7c170b5dde220a234fa0be882849af3213feebb77271211f76", checked := Try.checked }
namespace Rows
def none {H : Type} : Left H := { results := [], args := [] }

/-- 'gridhallkeep4.OrderThrough': WHATEVER THE INPUT: true; the input reads as it did. -/
def orderThroughSpec : ChangeSpec := { name := "orderThrough", fn := fun _ => fun
  | [d1, d2, d3, d4, d5] => { results := [.lit (.bool true)], args := [d1, d2, d3, d4, d5] }
  | _ => none }
def orderThroughRow : OpenClaim := { program := "ytkbipopkemfhaaa", sum := "a8ba334354a2ab7c170b5dde220a234fa0be882849af3213feebb77271211f76", func := "gridhall/gridhallkeep4.OrderThrough", spec := "orderThrough", unfollowed := true, recurses := true, apart := false }
def OrderThroughSaid : Prop := orderThroughRow.holds Try.pinned (OpenSpec.ofChange orderThroughSpec)

/-- ITS FALSE NEIGHBOUR: 'it returns false'. Refute it at one input. -/
def orderThroughWrong : ChangeSpec := { name := "orderThrough", fn := fun _ => fun
  | [d1, d2, d3, d4, d5] => { results := [.lit (.bool false)], args := [d1, d2, d3, d4, d5] }
  | _ => none }
def OrderThroughWrongFalsely : Prop := orderThroughRow.holds Try.pinned (OpenSpec.ofChange orderThroughWrong)

/-- 'gridhallkeep4.OrderHeld': WHATEVER THE INPUT: true; the input reads as it did. -/
def orderHeldSpec : ChangeSpec := { name := "orderHeld", fn := fun _ => fun
  | [d1, d2, d3, d4] => { results := [.lit (.bool true)], args := [d1, d2, d3, d4] }
  | _ => none }
def orderHeldRow : OpenClaim := { program := "ytkbipopkemfhaaa", sum := "a8ba334354a2ab7c170b5dde220a234fa0be882849af3213feebb77271211f76", func := "gridhall/gridhallkeep4.OrderHeld", spec := "orderHeld", unfollowed := true, recurses := true, apart := false }
def OrderHeldSaid : Prop := orderHeldRow.holds Try.pinned (OpenSpec.ofChange orderHeldSpec)

/-- ITS FALSE NEIGHBOUR: 'it returns false'. Refute it at one input. -/
def orderHeldWrong : ChangeSpec := { name := "orderHeld", fn := fun _ => fun
  | [d1, d2, d3, d4] => { results := [.lit (.bool false)], args := [d1, d2, d3, d4] }
  | _ => none }
def OrderHeldWrongFalsely : Prop := orderHeldRow.holds Try.pinned (OpenSpec.ofChange orderHeldWrong)

/-- 'gridhallkeep4.OrderReach': WHATEVER THE INPUT: true; the input reads as it did. -/
def orderReachSpec : ChangeSpec := { name := "orderReach", fn := fun _ => fun
  | [d1, d2, d3] => { results := [.lit (.bool true)], args := [d1, d2, d3] }
  | _ => none }
def orderReachRow : OpenClaim := { program := "ytkbipopkemfhaaa", sum := "a8ba334354a2ab7c170b5dde220a234fa0be882849af3213feebb77271211f76", func := "gridhall/gridhallkeep4.OrderReach", spec := "orderReach", unfollowed := true, recurses := true, apart := false }
def OrderReachSaid : Prop := orderReachRow.holds Try.pinned (OpenSpec.ofChange orderReachSpec)

/-- ITS FALSE NEIGHBOUR: 'it returns false'. Refute it at one input. -/
def orderReachWrong : ChangeSpec := { name := "orderReach", fn := fun _ => fun
  | [d1, d2, d3] => { results := [.lit (.bool false)], args := [d1, d2, d3] }
  | _ => none }
def OrderReachWrongFalsely : Prop := orderReachRow.holds Try.pinned (OpenSpec.ofChange orderReachWrong)

/-- 'gridhallkeep4.OrderMore': WHATEVER THE INPUT: true; the input reads as it did. -/
def orderMoreSpec : ChangeSpec := { name := "orderMore", fn := fun _ => fun
  | [d1, d2, d3, d4] => { results := [.lit (.bool true)], args := [d1, d2, d3, d4] }
  | _ => none }
def orderMoreRow : OpenClaim := { program := "ytkbipopkemfhaaa", sum := "a8ba334354a2ab7c170b5dde220a234fa0be882849af3213feebb77271211f76", func := "gridhall/gridhallkeep4.OrderMore", spec := "orderMore", unfollowed := true, recurses := true, apart := false }
def OrderMoreSaid : Prop := orderMoreRow.holds Try.pinned (OpenSpec.ofChange orderMoreSpec)

/-- ITS FALSE NEIGHBOUR: 'it returns false'. Refute it at one input. -/
def orderMoreWrong : ChangeSpec := { name := "orderMore", fn := fun _ => fun
  | [d1, d2, d3, d4] => { results := [.lit (.bool false)], args := [d1, d2, d3, d4] }
  | _ => none }
def OrderMoreWrongFalsely : Prop := orderMoreRow.holds Try.pinned (OpenSpec.ofChange orderMoreWrong)

/-- 'gridhallkeep4.OrderSafe': WHATEVER THE INPUT: true; the input reads as it did. -/
def orderSafeSpec : ChangeSpec := { name := "orderSafe", fn := fun _ => fun
  | [d1, d2, d3, d4] => { results := [.lit (.bool true)], args := [d1, d2, d3, d4] }
  | _ => none }
def orderSafeRow : OpenClaim := { program := "ytkbipopkemfhaaa", sum := "a8ba334354a2ab7c170b5dde220a234fa0be882849af3213feebb77271211f76", func := "gridhall/gridhallkeep4.OrderSafe", spec := "orderSafe", unfollowed := true, recurses := true, apart := false }
def OrderSafeSaid : Prop := orderSafeRow.holds Try.pinned (OpenSpec.ofChange orderSafeSpec)

/-- ITS FALSE NEIGHBOUR: 'it returns false'. Refute it at one input. -/
def orderSafeWrong : ChangeSpec := { name := "orderSafe", fn := fun _ => fun
  | [d1, d2, d3, d4] => { results := [.lit (.bool false)], args := [d1, d2, d3, d4] }
  | _ => none }
def OrderSafeWrongFalsely : Prop := orderSafeRow.holds Try.pinned (OpenSpec.ofChange orderSafeWrong)

/- THE SECOND FORM. 'bulk': how many values and letters a reading holds, each counted each time it is reached (what is shared counts as often as it is met; a slice's spare places count too). A statement '..UptoSaid' is the law's where the arguments, and the package variables that the reading takes, are together of bulk at most 1048576: NARROWER than '..Said'. Prove '..Said' where nothing that the law and all that it calls make is longer than what came in: it says more and counts as full. Else prove '..UptoSaid'. A law counts once. -/
mutual
def uptoBulk {H : Type} : DataW H → Nat
  | .lit (.string bytes) => bytes.length + 1
  | .lit _ => 1
  | .nil => 1
  | .ptr d => uptoBulk d + 1
  | .slice elems spare => uptoBulkAll elems + uptoBulkAll spare + 1
  | .agg parts => uptoBulkAll parts + 1
  | .iface _ d => uptoBulk d + 1
  | .map entries => uptoBulkEntries entries + 1
  | .held _ => 1
def uptoBulkAll {H : Type} : List (DataW H) → Nat
  | [] => 0
  | d :: r => uptoBulk d + uptoBulkAll r
def uptoBulkEntries {H : Type} : List (Lit × DataW H) → Nat
  | [] => 0
  | x :: r => uptoBulkEntry x + uptoBulkEntries r
def uptoBulkEntry {H : Type} : Lit × DataW H → Nat
  | (.string bytes, d) => bytes.length + uptoBulk d + 1
  | (_, d) => uptoBulk d + 1
 end
def uptoSmall : (H : Type) → List (DataW H) → Bool := fun _ ds => decide (uptoBulkAll ds ≤ 1048576)
def OpenSpec.upto (s : _root_.Go.ChangeSpec) : _root_.Go.OpenSpec := { _root_.Go.OpenSpec.ofChange s with cond := some uptoSmall }

/-- 'gridhallkeep4.OrderThrough', WHERE WHAT IT READS IS OF BULK AT MOST 1048576: true; the input reads as it did. -/
def orderThroughUptoRow : OpenClaim := { program := "ytkbipopkemfhaaa", sum := "a8ba334354a2ab7c170b5dde220a234fa0be882849af3213feebb77271211f76", func := "gridhall/gridhallkeep4.OrderThrough", spec := "orderThrough", unfollowed := true, recurses := true, apart := false, narrowed := true }
def OrderThroughUptoSaid : Prop := orderThroughUptoRow.holds Try.pinned (OpenSpec.upto orderThroughSpec)

/-- 'gridhallkeep4.OrderHeld', WHERE WHAT IT READS IS OF BULK AT MOST 1048576: true; the input reads as it did. -/
def orderHeldUptoRow : OpenClaim := { program := "ytkbipopkemfhaaa", sum := "a8ba334354a2ab7c170b5dde220a234fa0be882849af3213feebb77271211f76", func := "gridhall/gridhallkeep4.OrderHeld", spec := "orderHeld", unfollowed := true, recurses := true, apart := false, narrowed := true }
def OrderHeldUptoSaid : Prop := orderHeldUptoRow.holds Try.pinned (OpenSpec.upto orderHeldSpec)

/-- 'gridhallkeep4.OrderReach', WHERE WHAT IT READS IS OF BULK AT MOST 1048576: true; the input reads as it did. -/
def orderReachUptoRow : OpenClaim := { program := "ytkbipopkemfhaaa", sum := "a8ba334354a2ab7c170b5dde220a234fa0be882849af3213feebb77271211f76", func := "gridhall/gridhallkeep4.OrderReach", spec := "orderReach", unfollowed := true, recurses := true, apart := false, narrowed := true }
def OrderReachUptoSaid : Prop := orderReachUptoRow.holds Try.pinned (OpenSpec.upto orderReachSpec)

/-- 'gridhallkeep4.OrderMore', WHERE WHAT IT READS IS OF BULK AT MOST 1048576: true; the input reads as it did. -/
def orderMoreUptoRow : OpenClaim := { program := "ytkbipopkemfhaaa", sum := "a8ba334354a2ab7c170b5dde220a234fa0be882849af3213feebb77271211f76", func := "gridhall/gridhallkeep4.OrderMore", spec := "orderMore", unfollowed := true, recurses := true, apart := false, narrowed := true }
def OrderMoreUptoSaid : Prop := orderMoreUptoRow.holds Try.pinned (OpenSpec.upto orderMoreSpec)

/-- 'gridhallkeep4.OrderSafe', WHERE WHAT IT READS IS OF BULK AT MOST 1048576: true; the input reads as it did. -/
def orderSafeUptoRow : OpenClaim := { program := "ytkbipopkemfhaaa", sum := "a8ba334354a2ab7c170b5dde220a234fa0be882849af3213feebb77271211f76", func := "gridhall/gridhallkeep4.OrderSafe", spec := "orderSafe", unfollowed := true, recurses := true, apart := false, narrowed := true }
def OrderSafeUptoSaid : Prop := orderSafeUptoRow.holds Try.pinned (OpenSpec.upto orderSafeSpec)

end Rows
end Go.Proofs.Ytkbipopkemfhaaa
