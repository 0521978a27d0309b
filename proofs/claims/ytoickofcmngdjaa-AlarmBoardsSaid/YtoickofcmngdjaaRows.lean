/-
  No cell of these rows narrows 'for every input' (looked for: loops, veiled, ifaces, maps, wideKeys, modest, calm, conditions, laid).
  DERIVED. THE GIVEN ROWS OF THIS SEAT. 3 by the template 'for every input the law returns true; each argument reads behind the call as it read before'; 0 by the template 'total and deterministic' (their statements: YtoickofcmngdjaaTotals.lean).
  GIVEN WITH THE SEED: the statements are not yours to turn. If you find one false, say at which input.
  Laid BY PROGRAM, IN A SANDBOX (cutbox-rows.mjs): the forced cells as the released guide's own fill.sh prints them over the translation 99d77d8b12107f65… (all of the seat's roots in one cut). By AI agents, Wed Nov 11 2026. No macro, syntax, notation, axiom, sorry.
-/
import Derived.Test.YtoickofcmngdjaaChecked
import GoSem.Claim
import GoSem.ClaimJoined
import GoSem.ClaimMapViews
import Derived.JoinedTies
import Derived.KernelRfl
namespace Go.Proofs.Ytoickofcmngdjaa
/- THE CELL 'sum', in the pinned program and in every row, IS THE sha256 OF THE DUMP (.gsa) THAT YtoickofcmngdjaaProg.lean LOADS. Nothing in Lean hashes anything: it is a label: what it is worth is what the hold of that sum in a sandbox is worth. -/
noncomputable def Try.pinned : Pinned := { name := "ytoickofcmngdjaa", sum := "99d77d8b12107f658269964f8ecd54b0d1f70a87660554b285e2b98d4aeea58b", checked := Try.checked }
namespace Rows
def none {H : Type} : Left H := { results := [], args := [] }

/-- 'gridhallkeep4.AlarmDirect': WHATEVER THE INPUT: true; the input reads as it did. -/
def alarmDirectSpec : ChangeSpec := { name := "alarmDirect", fn := fun _ => fun
  | [d1, d2, d3] => { results := [.lit (.bool true)], args := [d1, d2, d3] }
  | _ => none }
def alarmDirectRow : OpenClaim := { program := "ytoickofcmngdjaa", sum := "99d77d8b12107f658269964f8ecd54b0d1f70a87660554b285e2b98d4aeea58b", func := "gridhall/gridhallkeep4.AlarmDirect", spec := "alarmDirect", recurses := true, apart := false }
def AlarmDirectSaid : Prop := alarmDirectRow.holds Try.pinned (OpenSpec.ofChange alarmDirectSpec)

/-- ITS FALSE NEIGHBOUR: 'it returns false'. Refute it at one input. -/
def alarmDirectWrong : ChangeSpec := { name := "alarmDirect", fn := fun _ => fun
  | [d1, d2, d3] => { results := [.lit (.bool false)], args := [d1, d2, d3] }
  | _ => none }
def AlarmDirectWrongFalsely : Prop := alarmDirectRow.holds Try.pinned (OpenSpec.ofChange alarmDirectWrong)

/-- 'gridhallkeep4.AlarmCovered': WHATEVER THE INPUT: true; the input reads as it did. -/
def alarmCoveredSpec : ChangeSpec := { name := "alarmCovered", fn := fun _ => fun
  | [d1, d2] => { results := [.lit (.bool true)], args := [d1, d2] }
  | _ => none }
def alarmCoveredRow : OpenClaim := { program := "ytoickofcmngdjaa", sum := "99d77d8b12107f658269964f8ecd54b0d1f70a87660554b285e2b98d4aeea58b", func := "gridhall/gridhallkeep4.AlarmCovered", spec := "alarmCovered", recurses := true, apart := false }
def AlarmCoveredSaid : Prop := alarmCoveredRow.holds Try.pinned (OpenSpec.ofChange alarmCoveredSpec)

/-- ITS FALSE NEIGHBOUR: 'it returns false'. Refute it at one input. -/
def alarmCoveredWrong : ChangeSpec := { name := "alarmCovered", fn := fun _ => fun
  | [d1, d2] => { results := [.lit (.bool false)], args := [d1, d2] }
  | _ => none }
def AlarmCoveredWrongFalsely : Prop := alarmCoveredRow.holds Try.pinned (OpenSpec.ofChange alarmCoveredWrong)

/-- 'gridhallkeep4.AlarmBoards': WHATEVER THE INPUT: true; the input reads as it did. -/
def alarmBoardsSpec : ChangeSpec := { name := "alarmBoards", fn := fun _ => fun
  | [d1, d2, d3] => { results := [.lit (.bool true)], args := [d1, d2, d3] }
  | _ => none }
def alarmBoardsRow : OpenClaim := { program := "ytoickofcmngdjaa", sum := "99d77d8b12107f658269964f8ecd54b0d1f70a87660554b285e2b98d4aeea58b", func := "gridhall/gridhallkeep4.AlarmBoards", spec := "alarmBoards", inPlace := ["internal/bytealg.abigen_runtime_cmpstring"], unfollowed := true, recurses := true, apart := false }
def AlarmBoardsSaid : Prop := alarmBoardsRow.holds Try.pinned (OpenSpec.ofChange alarmBoardsSpec)

/-- ITS FALSE NEIGHBOUR: 'it returns false'. Refute it at one input. -/
def alarmBoardsWrong : ChangeSpec := { name := "alarmBoards", fn := fun _ => fun
  | [d1, d2, d3] => { results := [.lit (.bool false)], args := [d1, d2, d3] }
  | _ => none }
def AlarmBoardsWrongFalsely : Prop := alarmBoardsRow.holds Try.pinned (OpenSpec.ofChange alarmBoardsWrong)

/- THE SECOND FORM. 'bulk': how many values and letters a reading holds, each counted each time it is reached (what is shared counts as often as it is met; a slice's spare places count too). A statement '..UptoSaid' is the law's where the arguments, and the package variables that the reading takes, are together of bulk at most 1048576: NARROWER than '..Said'. Prove '..Said' where nothing that the law and all that it calls make is longer than what came in: it says more and counts as full. Else prove '..UptoSaid'. A law counts once. -/
mutual
def uptoBulk {H : Type} : DataW H → Nat
  | .lit (.string bytes) => bytes.length + 1
  | .lit _ => 1
  | .nil => 1
  | .ptr d => uptoBulk d + 1
  | .slice elems spare => uptoBulkAll elems + uptoBulkAll spare + 1
  | .agg parts => uptoBulkAll parts + 1
  | .iface _ d => uptoBulk d + 1
  | .map entries => uptoBulkEntries entries + 1
  | .held _ => 1
def uptoBulkAll {H : Type} : List (DataW H) → Nat
  | [] => 0
  | d :: r => uptoBulk d + uptoBulkAll r
def uptoBulkEntries {H : Type} : List (Lit × DataW H) → Nat
  | [] => 0
  | x :: r => uptoBulkEntry x + uptoBulkEntries r
def uptoBulkEntry {H : Type} : Lit × DataW H → Nat
  | (.string bytes, d) => bytes.length + uptoBulk d + 1
  | (_, d) => uptoBulk d + 1
 end
def uptoSmall : (H : Type) → List (DataW H) → Bool := fun _ ds => decide (uptoBulkAll ds ≤ 1048576)
def OpenSpec.upto (s : _root_.Go.ChangeSpec) : _root_.Go.OpenSpec := { _root_.Go.OpenSpec.ofChange s with cond := some uptoSmall }

/-- 'gridhallkeep4.AlarmDirect', WHERE WHAT IT READS IS OF BULK AT MOST 1048576: true; the input reads as it did. -/
def alarmDirectUptoRow : OpenClaim := { program := "ytoickofcmngdjaa", sum := "99d77d8b12107f658269964f8ecd54b0d1f70a87660554b285e2b98d4aeea58b", func := "gridhall/gridhallkeep4.AlarmDirect", spec := "alarmDirect", recurses := true, apart := false, narrowed := true }
def AlarmDirectUptoSaid : Prop := alarmDirectUptoRow.holds Try.pinned (OpenSpec.upto alarmDirectSpec)

/-- 'gridhallkeep4.AlarmCovered', WHERE WHAT IT READS IS OF BULK AT MOST 1048576: true; the input reads as it did. -/
def alarmCoveredUptoRow : OpenClaim := { program := "ytoickofcmngdjaa", sum := "99d77d8b12107f658269964f8ecd54b0d1f70a87660554b285e2b98d4aeea58b", func := "gridhall/gridhallkeep4.AlarmCovered", spec := "alarmCovered", recurses := true, apart := false, narrowed := true }
def AlarmCoveredUptoSaid : Prop := alarmCoveredUptoRow.holds Try.pinned (OpenSpec.upto alarmCoveredSpec)

/-- 'gridhallkeep4.AlarmBoards', WHERE WHAT IT READS IS OF BULK AT MOST 1048576: true; the input reads as it did. -/
def alarmBoardsUptoRow : OpenClaim := { program := "ytoickofcmngdjaa", sum := "99d77d8b12107f658269964f8ecd54b0d1f70a87660554b285e2b98d4aeea58b", func := "gridhall/gridhallkeep4.AlarmBoards", spec := "alarmBoards", inPlace := ["internal/bytealg.abigen_runtime_cmpstring"], unfollowed := true, recurses := true, apart := false, narrowed := true }
def AlarmBoardsUptoSaid : Prop := alarmBoardsUptoRow.holds Try.pinned (OpenSpec.upto alarmBoardsSpec)

end Rows
end Go.Proofs.Ytoickofcmngdjaa
