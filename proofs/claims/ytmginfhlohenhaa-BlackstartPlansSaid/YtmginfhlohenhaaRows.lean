/-
  No cell of these rows narrows 'for every input' (looked for: loops, veiled, ifaces, maps, wideKeys, modest, calm, conditions, laid).
  DERIVED. THE GIVEN ROWS OF THIS SEAT. 3 by the template 'for every input the law returns true; each argument reads behind the call as it read before'; 0 by the template 'total and deterministic' (their statements: YtmginfhlohenhaaTotals.lean).
  GIVEN WITH THE SEED: the statements are not yours to turn. If you find one false, say at which input.
  Laid BY PROGRAM, IN A SANDBOX (cutbox-rows.mjs): the forced cells as the released guide's own fill.sh prints them over the translation fa82d311a4ae7057… (all of the seat's roots in one cut). By AI agents, Wed Nov 11 2026. No macro, syntax, notation, axiom, sorry.
-/
import Derived.Test.YtmginfhlohenhaaChecked
import GoSem.Claim
import GoSem.ClaimJoined
import GoSem.ClaimMapViews
import Derived.JoinedTies
import Derived.KernelRfl
namespace Go.Proofs.Ytmginfhlohenhaa
/- THE CELL 'sum', in the pinned program and in every row, IS THE sha256 OF THE DUMP (.gsa) THAT YtmginfhlohenhaaProg.lean LOADS. Nothing in Lean hashes anything: it is a label: what it is worth is what the hold of that sum in a sandbox is worth. -/
noncomputable def Try.pinned : Pinned := { name := "ytmginfhlohenhaa", sum := "fa82d311a4ae7057fcbb969e9c2de6a26867692ba6c1bca56b21c430e7b15b73", checked := Try.checked }
namespace Rows
def none {H : Type} : Left H := { results := [], args := [] }

/-- 'gridhallkeep4.BlackstartPaths': WHATEVER THE INPUT: true; the input reads as it did. -/
def blackstartPathsSpec : ChangeSpec := { name := "blackstartPaths", fn := fun _ => fun
  | [d1, d2, d3] => { results := [.lit (.bool true)], args := [d1, d2, d3] }
  | _ => none }
def blackstartPathsRow : OpenClaim := { program := "ytmginfhlohenhaa", sum := "fa82d311a4ae7057fcbb969e9c2de6a26867692ba6c1bca56b21c430e7b15b73", func := "gridhall/gridhallkeep4.BlackstartPaths", spec := "blackstartPaths", unfollowed := true, recurses := true, apart := false }
def BlackstartPathsSaid : Prop := blackstartPathsRow.holds Try.pinned (OpenSpec.ofChange blackstartPathsSpec)

/-- ITS FALSE NEIGHBOUR: 'it returns false'. Refute it at one input. -/
def blackstartPathsWrong : ChangeSpec := { name := "blackstartPaths", fn := fun _ => fun
  | [d1, d2, d3] => { results := [.lit (.bool false)], args := [d1, d2, d3] }
  | _ => none }
def BlackstartPathsWrongFalsely : Prop := blackstartPathsRow.holds Try.pinned (OpenSpec.ofChange blackstartPathsWrong)

/-- 'gridhallkeep4.BlackstartLess': WHATEVER THE INPUT: true; the input reads as it did. -/
def blackstartLessSpec : ChangeSpec := { name := "blackstartLess", fn := fun _ => fun
  | [d1, d2, d3] => { results := [.lit (.bool true)], args := [d1, d2, d3] }
  | _ => none }
def blackstartLessRow : OpenClaim := { program := "ytmginfhlohenhaa", sum := "fa82d311a4ae7057fcbb969e9c2de6a26867692ba6c1bca56b21c430e7b15b73", func := "gridhall/gridhallkeep4.BlackstartLess", spec := "blackstartLess", unfollowed := true, recurses := true, apart := false }
def BlackstartLessSaid : Prop := blackstartLessRow.holds Try.pinned (OpenSpec.ofChange blackstartLessSpec)

/-- ITS FALSE NEIGHBOUR: 'it returns false'. Refute it at one input. -/
def blackstartLessWrong : ChangeSpec := { name := "blackstartLess", fn := fun _ => fun
  | [d1, d2, d3] => { results := [.lit (.bool false)], args := [d1, d2, d3] }
  | _ => none }
def BlackstartLessWrongFalsely : Prop := blackstartLessRow.holds Try.pinned (OpenSpec.ofChange blackstartLessWrong)

/-- 'gridhallkeep4.BlackstartPlans': WHATEVER THE INPUT: true; the input reads as it did. -/
def blackstartPlansSpec : ChangeSpec := { name := "blackstartPlans", fn := fun _ => fun
  | [d1, d2] => { results := [.lit (.bool true)], args := [d1, d2] }
  | _ => none }
def blackstartPlansRow : OpenClaim := { program := "ytmginfhlohenhaa", sum := "fa82d311a4ae7057fcbb969e9c2de6a26867692ba6c1bca56b21c430e7b15b73", func := "gridhall/gridhallkeep4.BlackstartPlans", spec := "blackstartPlans", unfollowed := true, recurses := true, apart := false }
def BlackstartPlansSaid : Prop := blackstartPlansRow.holds Try.pinned (OpenSpec.ofChange blackstartPlansSpec)

/-- ITS FALSE NEIGHBOUR: 'it returns false'. Refute it at one input. -/
def blackstartPlansWrong : ChangeSpec := { name := "blackstartPlans", fn := fun _ => fun
  | [d1, d2] => { results := [.lit (.bool false)], args := [d1, d2] }
  | _ => none }
def BlackstartPlansWrongFalsely : Prop := blackstartPlansRow.holds Try.pinned (OpenSpec.ofChange blackstartPlansWrong)

/- THE SECOND FORM. 'bulk': how many values and letters a reading holds, each counted each time it is reached (what is shared counts as often as it is met; a slice's spare places count too). A statement '..UptoSaid' is the law's where the arguments, and the package variables that the reading takes, are together of bulk at most 1048576: NARROWER than '..Said'. Prove '..Said' where nothing that the law and all that it calls make is longer than what came in: it says more and counts as full. Else prove '..UptoSaid'. A law counts once. -/
mutual
def uptoBulk {H : Type} : DataW H → Nat
  | .lit (.string bytes) => bytes.length + 1
  | .lit _ => 1
  | .nil => 1
  | .ptr d => uptoBulk d + 1
  | .slice elems spare => uptoBulkAll elems + uptoBulkAll spare + 1
  | .agg parts => uptoBulkAll parts + 1
  | .iface _ d => uptoBulk d + 1
  | .map entries => uptoBulkEntries entries + 1
  | .held _ => 1
def uptoBulkAll {H : Type} : List (DataW H) → Nat
  | [] => 0
  | d :: r => uptoBulk d + uptoBulkAll r
def uptoBulkEntries {H : Type} : List (Lit × DataW H) → Nat
  | [] => 0
  | x :: r => uptoBulkEntry x + uptoBulkEntries r
def uptoBulkEntry {H : Type} : Lit × DataW H → Nat
  | (.string bytes, d) => bytes.length + uptoBulk d + 1
  | (_, d) => uptoBulk d + 1
 end
def uptoSmall : (H : Type) → List (DataW H) → Bool := fun _ ds => decide (uptoBulkAll ds ≤ 1048576)
def OpenSpec.upto (s : _root_.Go.ChangeSpec) : _root_.Go.OpenSpec := { _root_.Go.OpenSpec.ofChange s with cond := some uptoSmall }

/-- 'gridhallkeep4.BlackstartPaths', WHERE WHAT IT READS IS OF BULK AT MOST 1048576: true; the input reads as it did. -/
def blackstartPathsUptoRow : OpenClaim := { program := "ytmginfhlohenhaa", sum := "fa82d311a4ae7057fcbb969e9c2de6a26867692ba6c1bca56b21c430e7b15b73", func := "gridhall/gridhallkeep4.BlackstartPaths", spec := "blackstartPaths", unfollowed := true, recurses := true, apart := false, narrowed := true }
def BlackstartPathsUptoSaid : Prop := blackstartPathsUptoRow.holds Try.pinned (OpenSpec.upto blackstartPathsSpec)

/-- 'gridhallkeep4.BlackstartLess', WHERE WHAT IT READS IS OF BULK AT MOST 1048576: true; the input reads as it did. -/
def blackstartLessUptoRow : OpenClaim := { program := "ytmginfhlohenhaa", sum := "fa82d311a4ae7057fcbb969e9c2de6a26867692ba6c1bca56b21c430e7b15b73", func := "gridhall/gridhallkeep4.BlackstartLess", spec := "blackstartLess", unfollowed := true, recurses := true, apart := false, narrowed := true }
def BlackstartLessUptoSaid : Prop := blackstartLessUptoRow.holds Try.pinned (OpenSpec.upto blackstartLessSpec)

/-- 'gridhallkeep4.BlackstartPlans', WHERE WHAT IT READS IS OF BULK AT MOST 1048576: true; the input reads as it did. -/
def blackstartPlansUptoRow : OpenClaim := { program := "ytmginfhlohenhaa", sum := "fa82d311a4ae7057fcbb969e9c2de6a26867692ba6c1bca56b21c430e7b15b73", func := "gridhall/gridhallkeep4.BlackstartPlans", spec := "blackstartPlans", unfollowed := true, recurses := true, apart := false, narrowed := true }
def BlackstartPlansUptoSaid : Prop := blackstartPlansUptoRow.holds Try.pinned (OpenSpec.upto blackstartPlansSpec)

end Rows
end Go.Proofs.Ytmginfhlohenhaa
