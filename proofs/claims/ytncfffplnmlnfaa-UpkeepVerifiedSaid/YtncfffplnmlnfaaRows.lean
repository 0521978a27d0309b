/-
  No cell of these rows narrows 'for every input' (looked for: loops, veiled, ifaces, maps, wideKeys, modest, calm, conditions, laid).
  DERIVED. THE GIVEN ROWS OF THIS SEAT. 3 by the template 'for every input the law returns true; each argument reads behind the call as it read before'; 0 by the template 'total and deterministic' (their statements: YtncfffplnmlnfaaTotals.lean).
  GIVEN WITH THE SEED: the statements are not yours to turn. If you find one false, say at which input.
  Laid BY PROGRAM, IN A SANDBOX (cutbox-rows.mjs): the forced cells as the released guide's own fill.sh prints them over the translation 3ef13246438f6a6d… (all of the seat's roots in one cut). By AI agents, Wed Nov 11 2026. No macro, syntax, notation, axiom, sorry.
-/
import Derived.Test.YtncfffplnmlnfaaChecked
import GoSem.Claim
import GoSem.ClaimJoined
import GoSem.ClaimMapViews
import Derived.JoinedTies
import Derived.KernelRfl
namespace Go.Proofs.Ytncfffplnmlnfaa
/- THE CELL 'sum', in the pinned program and in every row, IS THE sha256 OF THE DUMP (.gsa) THAT YtncfffplnmlnfaaProg.lean LOADS. Nothing in Lean hashes anything: it is a label: what it is worth is what the hold of that sum in a sandbox is worth. -/
noncomputable def Try.pinned : Pinned := { name := "ytncfffplnmlnfaa", sum := "3ef13246438f6a6dafc12696f613b575f7590b77e0641da7c9ff4d4e6060efbc", checked := Try.checked }
namespace Rows
def none {H : Type} : Left H := { results := [], args := [] }

/-- 'gridhallkeep4.UpkeepCrews': WHATEVER THE INPUT: true; the input reads as it did. -/
def upkeepCrewsSpec : ChangeSpec := { name := "upkeepCrews", fn := fun _ => fun
  | [d] => { results := [.lit (.bool true)], args := [d] }
  | _ => none }
def upkeepCrewsRow : OpenClaim := { program := "ytncfffplnmlnfaa", sum := "3ef13246438f6a6dafc12696f613b575f7590b77e0641da7c9ff4d4e6060efbc", func := "gridhall/gridhallkeep4.UpkeepCrews", spec := "upkeepCrews", unfollowed := true, recurses := true, apart := false }
def UpkeepCrewsSaid : Prop := upkeepCrewsRow.holds Try.pinned (OpenSpec.ofChange upkeepCrewsSpec)

/-- ITS FALSE NEIGHBOUR: 'it returns false'. Refute it at one input. -/
def upkeepCrewsWrong : ChangeSpec := { name := "upkeepCrews", fn := fun _ => fun
  | [d] => { results := [.lit (.bool false)], args := [d] }
  | _ => none }
def UpkeepCrewsWrongFalsely : Prop := upkeepCrewsRow.holds Try.pinned (OpenSpec.ofChange upkeepCrewsWrong)

/-- 'gridhallkeep4.UpkeepAlone': WHATEVER THE INPUT: true; the input reads as it did. -/
def upkeepAloneSpec : ChangeSpec := { name := "upkeepAlone", fn := fun _ => fun
  | [d] => { results := [.lit (.bool true)], args := [d] }
  | _ => none }
def upkeepAloneRow : OpenClaim := { program := "ytncfffplnmlnfaa", sum := "3ef13246438f6a6dafc12696f613b575f7590b77e0641da7c9ff4d4e6060efbc", func := "gridhall/gridhallkeep4.UpkeepAlone", spec := "upkeepAlone", unfollowed := true, recurses := true, apart := false }
def UpkeepAloneSaid : Prop := upkeepAloneRow.holds Try.pinned (OpenSpec.ofChange upkeepAloneSpec)

/-- ITS FALSE NEIGHBOUR: 'it returns false'. Refute it at one input. -/
def upkeepAloneWrong : ChangeSpec := { name := "upkeepAlone", fn := fun _ => fun
  | [d] => { results := [.lit (.bool false)], args := [d] }
  | _ => none }
def UpkeepAloneWrongFalsely : Prop := upkeepAloneRow.holds Try.pinned (OpenSpec.ofChange upkeepAloneWrong)

/-- 'gridhallkeep4.UpkeepVerified': WHATEVER THE INPUT: true; the input reads as it did. -/
def upkeepVerifiedSpec : ChangeSpec := { name := "upkeepVerified", fn := fun _ => fun
  | [d1, d2] => { results := [.lit (.bool true)], args := [d1, d2] }
  | _ => none }
def upkeepVerifiedRow : OpenClaim := { program := "ytncfffplnmlnfaa", sum := "3ef13246438f6a6dafc12696f613b575f7590b77e0641da7c9ff4d4e6060efbc", func := "gridhall/gridhallkeep4.UpkeepVerified", spec := "upkeepVerified", unfollowed := true, recurses := true, apart := false }
def UpkeepVerifiedSaid : Prop := upkeepVerifiedRow.holds Try.pinned (OpenSpec.ofChange upkeepVerifiedSpec)

/-- ITS FALSE NEIGHBOUR: 'it returns false'. Refute it at one input. -/
def upkeepVerifiedWrong : ChangeSpec := { name := "upkeepVerified", fn := fun _ => fun
  | [d1, d2] => { results := [.lit (.bool false)], args := [d1, d2] }
  | _ => none }
def UpkeepVerifiedWrongFalsely : Prop := upkeepVerifiedRow.holds Try.pinned (OpenSpec.ofChange upkeepVerifiedWrong)

/- THE SECOND FORM. 'bulk': how many values and letters a reading holds, each counted each time it is reached (what is shared counts as often as it is met; a slice's spare places count too). A statement '..UptoSaid' is the law's where the arguments, and the package variables that the reading takes, are together of bulk at most 1048576: NARROWER than '..Said'. Prove '..Said' where nothing that the law and all that it calls make is longer than what came in: it says more and counts as full. Else prove '..UptoSaid'. A law counts once. -/
mutual
def uptoBulk {H : Type} : DataW H → Nat
  | .lit (.string bytes) => bytes.length + 1
  | .lit _ => 1
  | .nil => 1
  | .ptr d => uptoBulk d + 1
  | .slice elems spare => uptoBulkAll elems + uptoBulkAll spare + 1
  | .agg parts => uptoBulkAll parts + 1
  | .iface _ d => uptoBulk d + 1
  | .map entries => uptoBulkEntries entries + 1
  | .held _ => 1
def uptoBulkAll {H : Type} : List (DataW H) → Nat
  | [] => 0
  | d :: r => uptoBulk d + uptoBulkAll r
def uptoBulkEntries {H : Type} : List (Lit × DataW H) → Nat
  | [] => 0
  | x :: r => uptoBulkEntry x + uptoBulkEntries r
def uptoBulkEntry {H : Type} : Lit × DataW H → Nat
  | (.string bytes, d) => bytes.length + uptoBulk d + 1
  | (_, d) => uptoBulk d + 1
 end
def uptoSmall : (H : Type) → List (DataW H) → Bool := fun _ ds => decide (uptoBulkAll ds ≤ 1048576)
def OpenSpec.upto (s : _root_.Go.ChangeSpec) : _root_.Go.OpenSpec := { _root_.Go.OpenSpec.ofChange s with cond := some uptoSmall }

/-- 'gridhallkeep4.UpkeepCrews', WHERE WHAT IT READS IS OF BULK AT MOST 1048576: true; the input reads as it did. -/
def upkeepCrewsUptoRow : OpenClaim := { program := "ytncfffplnmlnfaa", sum := "3ef13246438f6a6dafc12696f613b575f7590b77e0641da7c9ff4d4e6060efbc", func := "gridhall/gridhallkeep4.UpkeepCrews", spec := "upkeepCrews", unfollowed := true, recurses := true, apart := false, narrowed := true }
def UpkeepCrewsUptoSaid : Prop := upkeepCrewsUptoRow.holds Try.pinned (OpenSpec.upto upkeepCrewsSpec)

/-- 'gridhallkeep4.UpkeepAlone', WHERE WHAT IT READS IS OF BULK AT MOST 1048576: true; the input reads as it did. -/
def upkeepAloneUptoRow : OpenClaim := { program := "ytncfffplnmlnfaa", sum := "3ef13246438f6a6dafc12696f613b575f7590b77e0641da7c9ff4d4e6060efbc", func := "gridhall/gridhallkeep4.UpkeepAlone", spec := "upkeepAlone", unfollowed := true, recurses := true, apart := false, narrowed := true }
def UpkeepAloneUptoSaid : Prop := upkeepAloneUptoRow.holds Try.pinned (OpenSpec.upto upkeepAloneSpec)

/-- 'gridhallkeep4.UpkeepVerified', WHERE WHAT IT READS IS OF BULK AT MOST 1048576: true; the input reads as it did. -/
def upkeepVerifiedUptoRow : OpenClaim := { program := "ytncfffplnmlnfaa", sum := "3ef13246438f6a6dafc12696f613b575f7590b77e0641da7c9ff4d4e6060efbc", func := "gridhall/gridhallkeep4.UpkeepVerified", spec := "upkeepVerified", unfollowed := true, recurses := true, apart := false, narrowed := true }
def UpkeepVerifiedUptoSaid : Prop := upkeepVerifiedUptoRow.holds Try.pinned (OpenSpec.upto upkeepVerifiedSpec)

end Rows
end Go.Proofs.Ytncfffplnmlnfaa
