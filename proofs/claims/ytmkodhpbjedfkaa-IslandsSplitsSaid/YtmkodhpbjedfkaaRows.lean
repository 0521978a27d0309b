/-
  No cell of these rows narrows 'for every input' (looked for: loops, veiled, ifaces, maps, wideKeys, modest, calm, conditions, laid).
  DERIVED. THE GIVEN ROWS OF THIS SEAT. 3 by the template 'for every input the law returns true; each argument reads behind the call as it read before'; 0 by the template 'total and deterministic' (their statements: YtmkodhpbjedfkaaTotals.lean).
  GIVEN WITH THE SEED: the statements are not yours to turn. If you find one false, say at which input.
  Laid BY PROGRAM, IN A SANDBOX (cutbox-rows.mjs): the forced cells as the released guide's own fill.sh prints them over the translation 1db9dcf94b558aa6… (all of the seat's roots in one cut). By AI agents, Wed Nov 11 2026. No macro, syntax, notation, axiom, sorry.
-/
import Derived.Test.YtmkodhpbjedfkaaChecked
import GoSem.Claim
import GoSem.ClaimJoined
import GoSem.ClaimMapViews
import Derived.JoinedTies
import Derived.KernelRfl
namespace Go.Proofs.Ytmkodhpbjedfkaa
/- THE CELL 'sum', in the pinned program and in every row, IS THE sha256 OF THE DUMP (.gsa) THAT YtmkodhpbjedfkaaProg.lean LOADS. Nothing in Lean hashes anything: it is a label: what it is worth is what the hold of that sum in a sandbox is worth. -/
noncomputable def Try.pinned : Pinned := { name := "ytmkodhpbjedfkaa", sum := "1db9dcf94b558aa6a2176f676a8b3149b654efc403d857b71e713abd45ae0950", checked := Try.checked }
namespace Rows
def none {H : Type} : Left H := { results := [], args := [] }

/-- 'gridhallkeep4.IslandsShares': WHATEVER THE INPUT: true; the input reads as it did. -/
def islandsSharesSpec : ChangeSpec := { name := "islandsShares", fn := fun _ => fun
  | [d] => { results := [.lit (.bool true)], args := [d] }
  | _ => none }
def islandsSharesRow : OpenClaim := { program := "ytmkodhpbjedfkaa", sum := "1db9dcf94b558aa6a2176f676a8b3149b654efc403d857b71e713abd45ae0950", func := "gridhall/gridhallkeep4.IslandsShares", spec := "islandsShares", unfollowed := true, recurses := true, apart := false }
def IslandsSharesSaid : Prop := islandsSharesRow.holds Try.pinned (OpenSpec.ofChange islandsSharesSpec)

/-- ITS FALSE NEIGHBOUR: 'it returns false'. Refute it at one input. -/
def islandsSharesWrong : ChangeSpec := { name := "islandsShares", fn := fun _ => fun
  | [d] => { results := [.lit (.bool false)], args := [d] }
  | _ => none }
def IslandsSharesWrongFalsely : Prop := islandsSharesRow.holds Try.pinned (OpenSpec.ofChange islandsSharesWrong)

/-- 'gridhallkeep4.IslandsLacks': WHATEVER THE INPUT: true; the input reads as it did. -/
def islandsLacksSpec : ChangeSpec := { name := "islandsLacks", fn := fun _ => fun
  | [d] => { results := [.lit (.bool true)], args := [d] }
  | _ => none }
def islandsLacksRow : OpenClaim := { program := "ytmkodhpbjedfkaa", sum := "1db9dcf94b558aa6a2176f676a8b3149b654efc403d857b71e713abd45ae0950", func := "gridhall/gridhallkeep4.IslandsLacks", spec := "islandsLacks", unfollowed := true, recurses := true, apart := false }
def IslandsLacksSaid : Prop := islandsLacksRow.holds Try.pinned (OpenSpec.ofChange islandsLacksSpec)

/-- ITS FALSE NEIGHBOUR: 'it returns false'. Refute it at one input. -/
def islandsLacksWrong : ChangeSpec := { name := "islandsLacks", fn := fun _ => fun
  | [d] => { results := [.lit (.bool false)], args := [d] }
  | _ => none }
def IslandsLacksWrongFalsely : Prop := islandsLacksRow.holds Try.pinned (OpenSpec.ofChange islandsLacksWrong)

/-- 'gridhallkeep4.IslandsSplits': WHATEVER THE INPUT: true; the input reads as it did. -/
def islandsSplitsSpec : ChangeSpec := { name := "islandsSplits", fn := fun _ => fun
  | [d1, d2] => { results := [.lit (.bool true)], args := [d1, d2] }
  | _ => none }
def islandsSplitsRow : OpenClaim := { program := "ytmkodhpbjedfkaa", sum := "1db9dcf94b558aa6a2176f676a8b3149b654efc403d857b71e713abd45ae0950", func := "gridhall/gridhallkeep4.IslandsSplits", spec := "islandsSplits", unfollowed := true, recurses := true, apart := false }
def IslandsSplitsSaid : Prop := islandsSplitsRow.holds Try.pinned (OpenSpec.ofChange islandsSplitsSpec)

/-- ITS FALSE NEIGHBOUR: 'it returns false'. Refute it at one input. -/
def islandsSplitsWrong : ChangeSpec := { name := "islandsSplits", fn := fun _ => fun
  | [d1, d2] => { results := [.lit (.bool false)], args := [d1, d2] }
  | _ => none }
def IslandsSplitsWrongFalsely : Prop := islandsSplitsRow.holds Try.pinned (OpenSpec.ofChange islandsSplitsWrong)

/- THE SECOND FORM. 'bulk': how many values and letters a reading holds, each counted each time it is reached (what is shared counts as often as it is met; a slice's spare places count too). A statement '..UptoSaid' is the law's where the arguments, and the package variables that the reading takes, are together of bulk at most 1048576: NARROWER than '..Said'. Prove '..Said' where nothing that the law and all that it calls make is longer than what came in: it says more and counts as full. Else prove '..UptoSaid'. A law counts once. -/
mutual
def uptoBulk {H : Type} : DataW H → Nat
  | .lit (.string bytes) => bytes.length + 1
  | .lit _ => 1
  | .nil => 1
  | .ptr d => uptoBulk d + 1
  | .slice elems spare => uptoBulkAll elems + uptoBulkAll spare + 1
  | .agg parts => uptoBulkAll parts + 1
  | .iface _ d => uptoBulk d + 1
  | .map entries => uptoBulkEntries entries + 1
  | .held _ => 1
def uptoBulkAll {H : Type} : List (DataW H) → Nat
  | [] => 0
  | d :: r => uptoBulk d + uptoBulkAll r
def uptoBulkEntries {H : Type} : List (Lit × DataW H) → Nat
  | [] => 0
  | x :: r => uptoBulkEntry x + uptoBulkEntries r
def uptoBulkEntry {H : Type} : Lit × DataW H → Nat
  | (.string bytes, d) => bytes.length + uptoBulk d + 1
  | (_, d) => uptoBulk d + 1
 end
def uptoSmall : (H : Type) → List (DataW H) → Bool := fun _ ds => decide (uptoBulkAll ds ≤ 1048576)
def OpenSpec.upto (s : _root_.Go.ChangeSpec) : _root_.Go.OpenSpec := { _root_.Go.OpenSpec.ofChange s with cond := some uptoSmall }

/-- 'gridhallkeep4.IslandsShares', WHERE WHAT IT READS IS OF BULK AT MOST 1048576: true; the input reads as it did. -/
def islandsSharesUptoRow : OpenClaim := { program := "ytmkodhpbjedfkaa", sum := "1db9dcf94b558aa6a2176f676a8b3149b654efc403d857b71e713abd45ae0950", func := "gridhall/gridhallkeep4.IslandsShares", spec := "islandsShares", unfollowed := true, recurses := true, apart := false, narrowed := true }
def IslandsSharesUptoSaid : Prop := islandsSharesUptoRow.holds Try.pinned (OpenSpec.upto islandsSharesSpec)

/-- 'gridhallkeep4.IslandsLacks', WHERE WHAT IT READS IS OF BULK AT MOST 1048576: true; the input reads as it did. -/
def islandsLacksUptoRow : OpenClaim := { program := "ytmkodhpbjedfkaa", sum := "1db9dcf94b558aa6a2176f676a8b3149b654efc403d857b71e713abd45ae0950", func := "gridhall/gridhallkeep4.IslandsLacks", spec := "islandsLacks", unfollowed := true, recurses := true, apart := false, narrowed := true }
def IslandsLacksUptoSaid : Prop := islandsLacksUptoRow.holds Try.pinned (OpenSpec.upto islandsLacksSpec)

/-- 'gridhallkeep4.IslandsSplits', WHERE WHAT IT READS IS OF BULK AT MOST 1048576: true; the input reads as it did. -/
def islandsSplitsUptoRow : OpenClaim := { program := "ytmkodhpbjedfkaa", sum := "1db9dcf94b558aa6a2176f676a8b3149b654efc403d857b71e713abd45ae0950", func := "gridhall/gridhallkeep4.IslandsSplits", spec := "islandsSplits", unfollowed := true, recurses := true, apart := false, narrowed := true }
def IslandsSplitsUptoSaid : Prop := islandsSplitsUptoRow.holds Try.pinned (OpenSpec.upto islandsSplitsSpec)

end Rows
end Go.Proofs.Ytmkodhpbjedfkaa
