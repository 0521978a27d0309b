/-
  NARROWER THAN 'FOR EVERY INPUT', by the rows' own cells (each row's printed sentence says how): SwingMomentum: laid · SwingSteady: laid · SwingNearer: laid · SwingJoins: laid · ForecastResiduals: laid · SwingParts: laid · ForecastShifts: laid · ForecastExact: laid · ForecastSmooths: laid.
  DERIVED. THE GIVEN ROWS OF THIS SEAT. 9 by the template 'for every input the law returns true; each argument reads behind the call as it read before'; 0 by the template 'total and deterministic' (their statements: YtjaakbkneeojnaaDoorTotals.lean).
  GIVEN WITH THE SEED: the statements are not yours to turn. If you find one false, say at which input.
  Laid BY PROGRAM, IN A SANDBOX (cutbox-rows.mjs): the forced cells as the released guide's own fill.sh prints them over the translation 1a08832cbdf07625… (all of the seat's roots in one cut). By AI agents, Wed Nov 11 2026. No macro, syntax, notation, axiom, sorry.
-/
import Derived.Test.YtjaakbkneeojnaaDoorChecked
import GoSem.PinnedTables
import GoSem.Claim
import GoSem.ClaimJoined
import GoSem.ClaimMapViews
import Derived.JoinedTies
import Derived.KernelRfl
namespace Go.Proofs.YtjaakbkneeojnaaDoor
/- THE CELL 'sum', in the pinned program and in every row, IS THE sha256 OF THE DUMP (.gsa) THAT YtjaakbkneeojnaaDoorProg.lean LOADS. Nothing in Lean hashes anything: it is a label: what it is worth is what the hold of that sum in a sandbox is worth. -/
noncomputable def Tryd.pinned : Pinned := { name := "ytjaakbkneeojnaadoor", sum := "1a08832cbdf07625a2e15d73fa78c860e6eed45c1b9d6b16aad9dab86c65e8dc", checked := Tryd.checked }
namespace Rows
def none {H : Type} : Left H := { results := [], args := [] }

/- WHAT THE LISTED PACKAGE-LEVEL VARIABLES READ AS WHEN THE CALL BEGINS. Each datum BY PROGRAM (the guide's laid-datum.mjs) off the statement by which the dump's own 'gosem.cut.vars' lays the variable. In a bare row this is a premise. The card (YtjaakbkneeojnaaDoorCards.lean) ties it to the program's text. -/
def laid_unicode_utf8_acceptRanges {H : Type} : DataW H := .agg [.agg [.lit (.int .u8 128), .lit (.int .u8 191)], .agg [.lit (.int .u8 160), .lit (.int .u8 191)], .agg [.lit (.int .u8 128), .lit (.int .u8 159)], .agg [.lit (.int .u8 144), .lit (.int .u8 191)], .agg [.lit (.int .u8 128), .lit (.int .u8 143)], .agg [.lit (.int .u8 0), .lit (.int .u8 0)], .agg [.lit (.int .u8 0), .lit (.int .u8 0)], .agg [.lit (.int .u8 0), .lit (.int .u8 0)], .agg [.lit (.int .u8 0), .lit (.int .u8 0)], .agg [.lit (.int .u8 0), .lit (.int .u8 0)], .agg [.lit (.int .u8 0), .lit (.int .u8 0)], .agg [.lit (.int .u8 0), .lit (.int .u8 0)], .agg [.lit (.int .u8 0), .lit (.int .u8 0)], .agg [.lit (.int .u8 0), .lit (.int .u8 0)], .agg [.lit (.int .u8 0), .lit (.int .u8 0)], .agg [.lit (.int .u8 0), .lit (.int .u8 0)]]
/-- One of Go's own tables, pinned by name: the form's constant. -/
def laid_unicode_utf8_first : DataW Unit := Go.Pinned.utf8First

/-- 'gridhallkeep4.SwingMomentum': WHATEVER THE INPUT: true; the input reads as it did. -/
def swingMomentumSpec : ChangeSpec := { name := "swingMomentum", fn := fun _ => fun
  | [d] => { results := [.lit (.bool true)], args := [d] }
  | _ => none }
def swingMomentumRow : OpenClaim := { program := "ytjaakbkneeojnaadoor", sum := "1a08832cbdf07625a2e15d73fa78c860e6eed45c1b9d6b16aad9dab86c65e8dc", func := "gridhall/gridhallkeep4.SwingMomentum", spec := "swingMomentum", inPlace := ["internal/bytealg.IndexByteString", "internal/bytealg.IndexString"], unfollowed := true, recurses := true, named := ["internal/bytealg.MaxLen", "unicode/utf8.first", "unicode/utf8.acceptRanges"], apart := false, laid := [("unicode/utf8.acceptRanges", laid_unicode_utf8_acceptRanges), ("unicode/utf8.first", laid_unicode_utf8_first)] }
def SwingMomentumSaid : Prop := swingMomentumRow.holds Tryd.pinned (OpenSpec.ofChange swingMomentumSpec)

/-- ITS FALSE NEIGHBOUR: 'it returns false'. Refute it at one input. -/
def swingMomentumWrong : ChangeSpec := { name := "swingMomentum", fn := fun _ => fun
  | [d] => { results := [.lit (.bool false)], args := [d] }
  | _ => none }
def SwingMomentumWrongFalsely : Prop := swingMomentumRow.holds Tryd.pinned (OpenSpec.ofChange swingMomentumWrong)

/-- 'gridhallkeep4.SwingSteady': WHATEVER THE INPUT: true; the input reads as it did. -/
def swingSteadySpec : ChangeSpec := { name := "swingSteady", fn := fun _ => fun
  | [d] => { results := [.lit (.bool true)], args := [d] }
  | _ => none }
def swingSteadyRow : OpenClaim := { program := "ytjaakbkneeojnaadoor", sum := "1a08832cbdf07625a2e15d73fa78c860e6eed45c1b9d6b16aad9dab86c65e8dc", func := "gridhall/gridhallkeep4.SwingSteady", spec := "swingSteady", inPlace := ["internal/bytealg.IndexByteString", "internal/bytealg.IndexString"], unfollowed := true, recurses := true, named := ["internal/bytealg.MaxLen", "unicode/utf8.first", "unicode/utf8.acceptRanges"], apart := false, laid := [("unicode/utf8.acceptRanges", laid_unicode_utf8_acceptRanges), ("unicode/utf8.first", laid_unicode_utf8_first)] }
def SwingSteadySaid : Prop := swingSteadyRow.holds Tryd.pinned (OpenSpec.ofChange swingSteadySpec)

/-- ITS FALSE NEIGHBOUR: 'it returns false'. Refute it at one input. -/
def swingSteadyWrong : ChangeSpec := { name := "swingSteady", fn := fun _ => fun
  | [d] => { results := [.lit (.bool false)], args := [d] }
  | _ => none }
def SwingSteadyWrongFalsely : Prop := swingSteadyRow.holds Tryd.pinned (OpenSpec.ofChange swingSteadyWrong)

/-- 'gridhallkeep4.SwingNearer': WHATEVER THE INPUT: true; the input reads as it did. -/
def swingNearerSpec : ChangeSpec := { name := "swingNearer", fn := fun _ => fun
  | [d] => { results := [.lit (.bool true)], args := [d] }
  | _ => none }
def swingNearerRow : OpenClaim := { program := "ytjaakbkneeojnaadoor", sum := "1a08832cbdf07625a2e15d73fa78c860e6eed45c1b9d6b16aad9dab86c65e8dc", func := "gridhall/gridhallkeep4.SwingNearer", spec := "swingNearer", inPlace := ["internal/bytealg.IndexByteString", "internal/bytealg.IndexString"], unfollowed := true, recurses := true, named := ["internal/bytealg.MaxLen", "unicode/utf8.first", "unicode/utf8.acceptRanges"], apart := false, laid := [("unicode/utf8.acceptRanges", laid_unicode_utf8_acceptRanges), ("unicode/utf8.first", laid_unicode_utf8_first)] }
def SwingNearerSaid : Prop := swingNearerRow.holds Tryd.pinned (OpenSpec.ofChange swingNearerSpec)

/-- ITS FALSE NEIGHBOUR: 'it returns false'. Refute it at one input. -/
def swingNearerWrong : ChangeSpec := { name := "swingNearer", fn := fun _ => fun
  | [d] => { results := [.lit (.bool false)], args := [d] }
  | _ => none }
def SwingNearerWrongFalsely : Prop := swingNearerRow.holds Tryd.pinned (OpenSpec.ofChange swingNearerWrong)

/-- 'gridhallkeep4.SwingJoins': WHATEVER THE INPUT: true; the input reads as it did. -/
def swingJoinsSpec : ChangeSpec := { name := "swingJoins", fn := fun _ => fun
  | [d1, d2] => { results := [.lit (.bool true)], args := [d1, d2] }
  | _ => none }
def swingJoinsRow : OpenClaim := { program := "ytjaakbkneeojnaadoor", sum := "1a08832cbdf07625a2e15d73fa78c860e6eed45c1b9d6b16aad9dab86c65e8dc", func := "gridhall/gridhallkeep4.SwingJoins", spec := "swingJoins", inPlace := ["internal/bytealg.IndexByteString", "internal/bytealg.IndexString"], unfollowed := true, recurses := true, named := ["internal/bytealg.MaxLen", "unicode/utf8.first", "unicode/utf8.acceptRanges"], apart := false, laid := [("unicode/utf8.acceptRanges", laid_unicode_utf8_acceptRanges), ("unicode/utf8.first", laid_unicode_utf8_first)] }
def SwingJoinsSaid : Prop := swingJoinsRow.holds Tryd.pinned (OpenSpec.ofChange swingJoinsSpec)

/-- ITS FALSE NEIGHBOUR: 'it returns false'. Refute it at one input. -/
def swingJoinsWrong : ChangeSpec := { name := "swingJoins", fn := fun _ => fun
  | [d1, d2] => { results := [.lit (.bool false)], args := [d1, d2] }
  | _ => none }
def SwingJoinsWrongFalsely : Prop := swingJoinsRow.holds Tryd.pinned (OpenSpec.ofChange swingJoinsWrong)

/-- 'gridhallkeep4.ForecastResiduals': WHATEVER THE INPUT: true; the input reads as it did. -/
def forecastResidualsSpec : ChangeSpec := { name := "forecastResiduals", fn := fun _ => fun
  | [d] => { results := [.lit (.bool true)], args := [d] }
  | _ => none }
def forecastResidualsRow : OpenClaim := { program := "ytjaakbkneeojnaadoor", sum := "1a08832cbdf07625a2e15d73fa78c860e6eed45c1b9d6b16aad9dab86c65e8dc", func := "gridhall/gridhallkeep4.ForecastResiduals", spec := "forecastResiduals", inPlace := ["internal/bytealg.IndexByteString", "internal/bytealg.IndexString"], unfollowed := true, recurses := true, named := ["unicode/utf8.first", "unicode/utf8.acceptRanges", "internal/bytealg.MaxLen"], apart := false, laid := [("unicode/utf8.acceptRanges", laid_unicode_utf8_acceptRanges), ("unicode/utf8.first", laid_unicode_utf8_first)] }
def ForecastResidualsSaid : Prop := forecastResidualsRow.holds Tryd.pinned (OpenSpec.ofChange forecastResidualsSpec)

/-- ITS FALSE NEIGHBOUR: 'it returns false'. Refute it at one input. -/
def forecastResidualsWrong : ChangeSpec := { name := "forecastResiduals", fn := fun _ => fun
  | [d] => { results := [.lit (.bool false)], args := [d] }
  | _ => none }
def ForecastResidualsWrongFalsely : Prop := forecastResidualsRow.holds Tryd.pinned (OpenSpec.ofChange forecastResidualsWrong)

/-- 'gridhallkeep4.SwingParts': WHATEVER THE INPUT: true; the input reads as it did. -/
def swingPartsSpec : ChangeSpec := { name := "swingParts", fn := fun _ => fun
  | [d1, d2, d3] => { results := [.lit (.bool true)], args := [d1, d2, d3] }
  | _ => none }
def swingPartsRow : OpenClaim := { program := "ytjaakbkneeojnaadoor", sum := "1a08832cbdf07625a2e15d73fa78c860e6eed45c1b9d6b16aad9dab86c65e8dc", func := "gridhall/gridhallkeep4.SwingParts", spec := "swingParts", inPlace := ["internal/bytealg.IndexByteString", "internal/bytealg.IndexString"], unfollowed := true, recurses := true, named := ["internal/bytealg.MaxLen", "unicode/utf8.first", "unicode/utf8.acceptRanges"], apart := false, laid := [("unicode/utf8.acceptRanges", laid_unicode_utf8_acceptRanges), ("unicode/utf8.first", laid_unicode_utf8_first)] }
def SwingPartsSaid : Prop := swingPartsRow.holds Tryd.pinned (OpenSpec.ofChange swingPartsSpec)

/-- ITS FALSE NEIGHBOUR: 'it returns false'. Refute it at one input. -/
def swingPartsWrong : ChangeSpec := { name := "swingParts", fn := fun _ => fun
  | [d1, d2, d3] => { results := [.lit (.bool false)], args := [d1, d2, d3] }
  | _ => none }
def SwingPartsWrongFalsely : Prop := swingPartsRow.holds Tryd.pinned (OpenSpec.ofChange swingPartsWrong)

/-- 'gridhallkeep4.ForecastShifts': WHATEVER THE INPUT: true; the input reads as it did. -/
def forecastShiftsSpec : ChangeSpec := { name := "forecastShifts", fn := fun _ => fun
  | [d1, d2, d3] => { results := [.lit (.bool true)], args := [d1, d2, d3] }
  | _ => none }
def forecastShiftsRow : OpenClaim := { program := "ytjaakbkneeojnaadoor", sum := "1a08832cbdf07625a2e15d73fa78c860e6eed45c1b9d6b16aad9dab86c65e8dc", func := "gridhall/gridhallkeep4.ForecastShifts", spec := "forecastShifts", inPlace := ["internal/bytealg.IndexByteString", "internal/bytealg.IndexString"], unfollowed := true, recurses := true, named := ["unicode/utf8.first", "unicode/utf8.acceptRanges", "internal/bytealg.MaxLen"], apart := false, laid := [("unicode/utf8.acceptRanges", laid_unicode_utf8_acceptRanges), ("unicode/utf8.first", laid_unicode_utf8_first)] }
def ForecastShiftsSaid : Prop := forecastShiftsRow.holds Tryd.pinned (OpenSpec.ofChange forecastShiftsSpec)

/-- ITS FALSE NEIGHBOUR: 'it returns false'. Refute it at one input. -/
def forecastShiftsWrong : ChangeSpec := { name := "forecastShifts", fn := fun _ => fun
  | [d1, d2, d3] => { results := [.lit (.bool false)], args := [d1, d2, d3] }
  | _ => none }
def ForecastShiftsWrongFalsely : Prop := forecastShiftsRow.holds Tryd.pinned (OpenSpec.ofChange forecastShiftsWrong)

/-- 'gridhallkeep4.ForecastExact': WHATEVER THE INPUT: true; the input reads as it did. -/
def forecastExactSpec : ChangeSpec := { name := "forecastExact", fn := fun _ => fun
  | [d1, d2, d3, d4] => { results := [.lit (.bool true)], args := [d1, d2, d3, d4] }
  | _ => none }
def forecastExactRow : OpenClaim := { program := "ytjaakbkneeojnaadoor", sum := "1a08832cbdf07625a2e15d73fa78c860e6eed45c1b9d6b16aad9dab86c65e8dc", func := "gridhall/gridhallkeep4.ForecastExact", spec := "forecastExact", inPlace := ["internal/bytealg.IndexByteString", "internal/bytealg.IndexString"], unfollowed := true, recurses := true, named := ["unicode/utf8.first", "unicode/utf8.acceptRanges", "internal/bytealg.MaxLen"], apart := false, laid := [("unicode/utf8.acceptRanges", laid_unicode_utf8_acceptRanges), ("unicode/utf8.first", laid_unicode_utf8_first)] }
def ForecastExactSaid : Prop := forecastExactRow.holds Tryd.pinned (OpenSpec.ofChange forecastExactSpec)

/-- ITS FALSE NEIGHBOUR: 'it returns false'. Refute it at one input. -/
def forecastExactWrong : ChangeSpec := { name := "forecastExact", fn := fun _ => fun
  | [d1, d2, d3, d4] => { results := [.lit (.bool false)], args := [d1, d2, d3, d4] }
  | _ => none }
def ForecastExactWrongFalsely : Prop := forecastExactRow.holds Tryd.pinned (OpenSpec.ofChange forecastExactWrong)

/-- 'gridhallkeep4.ForecastSmooths': WHATEVER THE INPUT: true; the input reads as it did. -/
def forecastSmoothsSpec : ChangeSpec := { name := "forecastSmooths", fn := fun _ => fun
  | [d1, d2, d3] => { results := [.lit (.bool true)], args := [d1, d2, d3] }
  | _ => none }
def forecastSmoothsRow : OpenClaim := { program := "ytjaakbkneeojnaadoor", sum := "1a08832cbdf07625a2e15d73fa78c860e6eed45c1b9d6b16aad9dab86c65e8dc", func := "gridhall/gridhallkeep4.ForecastSmooths", spec := "forecastSmooths", inPlace := ["internal/bytealg.IndexByteString", "internal/bytealg.IndexString"], named := ["unicode/utf8.first", "unicode/utf8.acceptRanges", "internal/bytealg.MaxLen"], apart := false, laid := [("unicode/utf8.acceptRanges", laid_unicode_utf8_acceptRanges), ("unicode/utf8.first", laid_unicode_utf8_first)] }
def ForecastSmoothsSaid : Prop := forecastSmoothsRow.holds Tryd.pinned (OpenSpec.ofChange forecastSmoothsSpec)

/-- ITS FALSE NEIGHBOUR: 'it returns false'. Refute it at one input. -/
def forecastSmoothsWrong : ChangeSpec := { name := "forecastSmooths", fn := fun _ => fun
  | [d1, d2, d3] => { results := [.lit (.bool false)], args := [d1, d2, d3] }
  | _ => none }
def ForecastSmoothsWrongFalsely : Prop := forecastSmoothsRow.holds Tryd.pinned (OpenSpec.ofChange forecastSmoothsWrong)

/- THE SECOND FORM. 'bulk': how many values and letters a reading holds, each counted each time it is reached (what is shared counts as often as it is met; a slice's spare places count too). A statement '..UptoSaid' is the law's where the arguments, and the package variables that the reading takes, are together of bulk at most 1048576: NARROWER than '..Said'. Prove '..Said' where nothing that the law and all that it calls make is longer than what came in: it says more and counts as full. Else prove '..UptoSaid'. A law counts once. -/
mutual
def uptoBulk {H : Type} : DataW H → Nat
  | .lit (.string bytes) => bytes.length + 1
  | .lit _ => 1
  | .nil => 1
  | .ptr d => uptoBulk d + 1
  | .slice elems spare => uptoBulkAll elems + uptoBulkAll spare + 1
  | .agg parts => uptoBulkAll parts + 1
  | .iface _ d => uptoBulk d + 1
  | .map entries => uptoBulkEntries entries + 1
  | .held _ => 1
def uptoBulkAll {H : Type} : List (DataW H) → Nat
  | [] => 0
  | d :: r => uptoBulk d + uptoBulkAll r
def uptoBulkEntries {H : Type} : List (Lit × DataW H) → Nat
  | [] => 0
  | x :: r => uptoBulkEntry x + uptoBulkEntries r
def uptoBulkEntry {H : Type} : Lit × DataW H → Nat
  | (.string bytes, d) => bytes.length + uptoBulk d + 1
  | (_, d) => uptoBulk d + 1
 end
def uptoSmall : (H : Type) → List (DataW H) → Bool := fun _ ds => decide (uptoBulkAll ds ≤ 1048576)
def OpenSpec.upto (s : _root_.Go.ChangeSpec) : _root_.Go.OpenSpec := { _root_.Go.OpenSpec.ofChange s with cond := some uptoSmall }

/-- 'gridhallkeep4.SwingMomentum', WHERE WHAT IT READS IS OF BULK AT MOST 1048576: true; the input reads as it did. -/
def swingMomentumUptoRow : OpenClaim := { program := "ytjaakbkneeojnaadoor", sum := "1a08832cbdf07625a2e15d73fa78c860e6eed45c1b9d6b16aad9dab86c65e8dc", func := "gridhall/gridhallkeep4.SwingMomentum", spec := "swingMomentum", inPlace := ["internal/bytealg.IndexByteString", "internal/bytealg.IndexString"], unfollowed := true, recurses := true, named := ["internal/bytealg.MaxLen", "unicode/utf8.first", "unicode/utf8.acceptRanges"], apart := false, laid := [("unicode/utf8.acceptRanges", laid_unicode_utf8_acceptRanges), ("unicode/utf8.first", laid_unicode_utf8_first)], narrowed := true }
def SwingMomentumUptoSaid : Prop := swingMomentumUptoRow.holds Tryd.pinned (OpenSpec.upto swingMomentumSpec)

/-- 'gridhallkeep4.SwingSteady', WHERE WHAT IT READS IS OF BULK AT MOST 1048576: true; the input reads as it did. -/
def swingSteadyUptoRow : OpenClaim := { program := "ytjaakbkneeojnaadoor", sum := "1a08832cbdf07625a2e15d73fa78c860e6eed45c1b9d6b16aad9dab86c65e8dc", func := "gridhall/gridhallkeep4.SwingSteady", spec := "swingSteady", inPlace := ["internal/bytealg.IndexByteString", "internal/bytealg.IndexString"], unfollowed := true, recurses := true, named := ["internal/bytealg.MaxLen", "unicode/utf8.first", "unicode/utf8.acceptRanges"], apart := false, laid := [("unicode/utf8.acceptRanges", laid_unicode_utf8_acceptRanges), ("unicode/utf8.first", laid_unicode_utf8_first)], narrowed := true }
def SwingSteadyUptoSaid : Prop := swingSteadyUptoRow.holds Tryd.pinned (OpenSpec.upto swingSteadySpec)

/-- 'gridhallkeep4.SwingNearer', WHERE WHAT IT READS IS OF BULK AT MOST 1048576: true; the input reads as it did. -/
def swingNearerUptoRow : OpenClaim := { program := "ytjaakbkneeojnaadoor", sum := "1a08832cbdf07625a2e15d73fa78c860e6eed45c1b9d6b16aad9dab86c65e8dc", func := "gridhall/gridhallkeep4.SwingNearer", spec := "swingNearer", inPlace := ["internal/bytealg.IndexByteString", "internal/bytealg.IndexString"], unfollowed := true, recurses := true, named := ["internal/bytealg.MaxLen", "unicode/utf8.first", "unicode/utf8.acceptRanges"], apart := false, laid := [("unicode/utf8.acceptRanges", laid_unicode_utf8_acceptRanges), ("unicode/utf8.first", laid_unicode_utf8_first)], narrowed := true }
def SwingNearerUptoSaid : Prop := swingNearerUptoRow.holds Tryd.pinned (OpenSpec.upto swingNearerSpec)

/-- 'gridhallkeep4.SwingJoins', WHERE WHAT IT READS IS OF BULK AT MOST 1048576: true; the input reads as it did. -/
def swingJoinsUptoRow : OpenClaim := { program := "ytjaakbkneeojnaadoor", sum := "1a08832cbdf07625a2e15d73fa78c860e6eed45c1b9d6b16aad9dab86c65e8dc", func := "gridhall/gridhallkeep4.SwingJoins", spec := "swingJoins", inPlace := ["internal/bytealg.IndexByteString", "internal/bytealg.IndexString"], unfollowed := true, recurses := true, named := ["internal/bytealg.MaxLen", "unicode/utf8.first", "unicode/utf8.acceptRanges"], apart := false, laid := [("unicode/utf8.acceptRanges", laid_unicode_utf8_acceptRanges), ("unicode/utf8.first", laid_unicode_utf8_first)], narrowed := true }
def SwingJoinsUptoSaid : Prop := swingJoinsUptoRow.holds Tryd.pinned (OpenSpec.upto swingJoinsSpec)

/-- 'gridhallkeep4.ForecastResiduals', WHERE WHAT IT READS IS OF BULK AT MOST 1048576: true; the input reads as it did. -/
def forecastResidualsUptoRow : OpenClaim := { program := "ytjaakbkneeojnaadoor", sum := "1a08832cbdf07625a2e15d73fa78c860e6eed45c1b9d6b16aad9dab86c65e8dc", func := "gridhall/gridhallkeep4.ForecastResiduals", spec := "forecastResiduals", inPlace := ["internal/bytealg.IndexByteString", "internal/bytealg.IndexString"], unfollowed := true, recurses := true, named := ["unicode/utf8.first", "unicode/utf8.acceptRanges", "internal/bytealg.MaxLen"], apart := false, laid := [("unicode/utf8.acceptRanges", laid_unicode_utf8_acceptRanges), ("unicode/utf8.first", laid_unicode_utf8_first)], narrowed := true }
def ForecastResidualsUptoSaid : Prop := forecastResidualsUptoRow.holds Tryd.pinned (OpenSpec.upto forecastResidualsSpec)

/-- 'gridhallkeep4.SwingParts', WHERE WHAT IT READS IS OF BULK AT MOST 1048576: true; the input reads as it did. -/
def swingPartsUptoRow : OpenClaim := { program := "ytjaakbkneeojnaadoor", sum := "1a08832cbdf07625a2e15d73fa78c860e6eed45c1b9d6b16aad9dab86c65e8dc", func := "gridhall/gridhallkeep4.SwingParts", spec := "swingParts", inPlace := ["internal/bytealg.IndexByteString", "internal/bytealg.IndexString"], unfollowed := true, recurses := true, named := ["internal/bytealg.MaxLen", "unicode/utf8.first", "unicode/utf8.acceptRanges"], apart := false, laid := [("unicode/utf8.acceptRanges", laid_unicode_utf8_acceptRanges), ("unicode/utf8.first", laid_unicode_utf8_first)], narrowed := true }
def SwingPartsUptoSaid : Prop := swingPartsUptoRow.holds Tryd.pinned (OpenSpec.upto swingPartsSpec)

/-- 'gridhallkeep4.ForecastShifts', WHERE WHAT IT READS IS OF BULK AT MOST 1048576: true; the input reads as it did. -/
def forecastShiftsUptoRow : OpenClaim := { program := "ytjaakbkneeojnaadoor", sum := "1a08832cbdf07625a2e15d73fa78c860e6eed45c1b9d6b16aad9dab86c65e8dc", func := "gridhall/gridhallkeep4.ForecastShifts", spec := "forecastShifts", inPlace := ["internal/bytealg.IndexByteString", "internal/bytealg.IndexString"], unfollowed := true, recurses := true, named := ["unicode/utf8.first", "unicode/utf8.acceptRanges", "internal/bytealg.MaxLen"], apart := false, laid := [("unicode/utf8.acceptRanges", laid_unicode_utf8_acceptRanges), ("unicode/utf8.first", laid_unicode_utf8_first)], narrowed := true }
def ForecastShiftsUptoSaid : Prop := forecastShiftsUptoRow.holds Tryd.pinned (OpenSpec.upto forecastShiftsSpec)

/-- 'gridhallkeep4.ForecastExact', WHERE WHAT IT READS IS OF BULK AT MOST 1048576: true; the input reads as it did. -/
def forecastExactUptoRow : OpenClaim := { program := "ytjaakbkneeojnaadoor", sum := "1a08832cbdf07625a2e15d73fa78c860e6eed45c1b9d6b16aad9dab86c65e8dc", func := "gridhall/gridhallkeep4.ForecastExact", spec := "forecastExact", inPlace := ["internal/bytealg.IndexByteString", "internal/bytealg.IndexString"], unfollowed := true, recurses := true, named := ["unicode/utf8.first", "unicode/utf8.acceptRanges", "internal/bytealg.MaxLen"], apart := false, laid := [("unicode/utf8.acceptRanges", laid_unicode_utf8_acceptRanges), ("unicode/utf8.first", laid_unicode_utf8_first)], narrowed := true }
def ForecastExactUptoSaid : Prop := forecastExactUptoRow.holds Tryd.pinned (OpenSpec.upto forecastExactSpec)

/-- 'gridhallkeep4.ForecastSmooths', WHERE WHAT IT READS IS OF BULK AT MOST 1048576: true; the input reads as it did. -/
def forecastSmoothsUptoRow : OpenClaim := { program := "ytjaakbkneeojnaadoor", sum := "1a08832cbdf07625a2e15d73fa78c860e6eed45c1b9d6b16aad9dab86c65e8dc", func := "gridhall/gridhallkeep4.ForecastSmooths", spec := "forecastSmooths", inPlace := ["internal/bytealg.IndexByteString", "internal/bytealg.IndexString"], named := ["unicode/utf8.first", "unicode/utf8.acceptRanges", "internal/bytealg.MaxLen"], apart := false, laid := [("unicode/utf8.acceptRanges", laid_unicode_utf8_acceptRanges), ("unicode/utf8.first", laid_unicode_utf8_first)], narrowed := true }
def ForecastSmoothsUptoSaid : Prop := forecastSmoothsUptoRow.holds Tryd.pinned (OpenSpec.upto forecastSmoothsSpec)

end Rows
end Go.Proofs.YtjaakbkneeojnaaDoor
