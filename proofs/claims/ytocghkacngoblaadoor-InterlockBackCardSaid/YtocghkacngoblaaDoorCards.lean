/-
  DERIVED. GIVEN WITH THE SEED: THE CARDS: each row of YtocghkacngoblaaDoorRows.lean that lists a variable, with what it lists TIED to the program's text (the seventh form; the later family's looks); each row that meets fmt, with fmt's text TOLD by the authors' own Lean function (tested against real Go, not proved from fmt's source: count such statements apart). THE CARD IS WHAT COUNTS. Prove the row's statement (the work); the ties are given (YtocghkacngoblaaDoorTie.lean); close each card by the builder's one call (the guide's Derived/Test/ToyasCard.lean, 'card_holds'). Laid BY PROGRAM, IN A SANDBOX (cutbox-door.mjs). By AI agents, Wed Nov 11 2026. No macro, syntax, notation, axiom, sorry.
-/
import Derived.Test.YtocghkacngoblaaDoorRows
import GoSem.ClaimSeven
namespace Go.Proofs.YtocghkacngoblaaDoor
namespace Rows

/-- THE TIED CARD OF 'gridhallkeep4.InterlockNot'. -/
def interlockNotCard : Claim7 := { stood := { row := interlockNotRow, standIns := [], harness := (true, "506acea0820823a2e6f1c84d7f78f09f7ee818717ff6ef14292517c9ad20b51d"), looks := false }, kinds := [], alts := [], laidByText := true, laidKinds := [.data, .pinned], laidTests := true, laidLooks := .later }
def InterlockNotCardSaid : Prop := Claim7.holds Tryd.pinned (.plain (OpenSpec.ofChange interlockNotSpec)) interlockNotCard

/-- THE TIED CARD OF 'gridhallkeep4.InterlockSets'. -/
def interlockSetsCard : Claim7 := { stood := { row := interlockSetsRow, standIns := [], harness := (true, "506acea0820823a2e6f1c84d7f78f09f7ee818717ff6ef14292517c9ad20b51d"), looks := false }, kinds := [], alts := [], laidByText := true, laidKinds := [.data, .pinned], laidTests := true, laidLooks := .later }
def InterlockSetsCardSaid : Prop := Claim7.holds Tryd.pinned (.plain (OpenSpec.ofChange interlockSetsSpec)) interlockSetsCard

/-- THE TIED CARD OF 'gridhallkeep4.InterlockMore'. -/
def interlockMoreCard : Claim7 := { stood := { row := interlockMoreRow, standIns := [], harness := (true, "506acea0820823a2e6f1c84d7f78f09f7ee818717ff6ef14292517c9ad20b51d"), looks := false }, kinds := [], alts := [], laidByText := true, laidKinds := [.data, .pinned], laidTests := true, laidLooks := .later }
def InterlockMoreCardSaid : Prop := Claim7.holds Tryd.pinned (.plain (OpenSpec.ofChange interlockMoreSpec)) interlockMoreCard

/-- THE TIED CARD OF 'gridhallkeep4.InterlockBack'. -/
def interlockBackCard : Claim7 := { stood := { row := interlockBackRow, standIns := [], harness := (true, "506acea0820823a2e6f1c84d7f78f09f7ee818717ff6ef14292517c9ad20b51d"), looks := false }, kinds := [], alts := [], laidByText := true, laidKinds := [.data, .pinned], laidTests := true, laidLooks := .later }
def InterlockBackCardSaid : Prop := Claim7.holds Tryd.pinned (.plain (OpenSpec.ofChange interlockBackSpec)) interlockBackCard

/-- THE SECOND FORM's CARD OF 'gridhallkeep4.InterlockNot'. -/
def interlockNotUptoCard : Claim7 := { stood := { row := interlockNotUptoRow, standIns := [], harness := (true, "506acea0820823a2e6f1c84d7f78f09f7ee818717ff6ef14292517c9ad20b51d"), looks := false }, kinds := [], alts := [], laidByText := true, laidKinds := [.data, .pinned], laidTests := true, laidLooks := .later }
def InterlockNotUptoCardSaid : Prop := Claim7.holds Tryd.pinned (.plain (OpenSpec.upto interlockNotSpec)) interlockNotUptoCard

/-- THE SECOND FORM's CARD OF 'gridhallkeep4.InterlockSets'. -/
def interlockSetsUptoCard : Claim7 := { stood := { row := interlockSetsUptoRow, standIns := [], harness := (true, "506acea0820823a2e6f1c84d7f78f09f7ee818717ff6ef14292517c9ad20b51d"), looks := false }, kinds := [], alts := [], laidByText := true, laidKinds := [.data, .pinned], laidTests := true, laidLooks := .later }
def InterlockSetsUptoCardSaid : Prop := Claim7.holds Tryd.pinned (.plain (OpenSpec.upto interlockSetsSpec)) interlockSetsUptoCard

/-- THE SECOND FORM's CARD OF 'gridhallkeep4.InterlockMore'. -/
def interlockMoreUptoCard : Claim7 := { stood := { row := interlockMoreUptoRow, standIns := [], harness := (true, "506acea0820823a2e6f1c84d7f78f09f7ee818717ff6ef14292517c9ad20b51d"), looks := false }, kinds := [], alts := [], laidByText := true, laidKinds := [.data, .pinned], laidTests := true, laidLooks := .later }
def InterlockMoreUptoCardSaid : Prop := Claim7.holds Tryd.pinned (.plain (OpenSpec.upto interlockMoreSpec)) interlockMoreUptoCard

/-- THE SECOND FORM's CARD OF 'gridhallkeep4.InterlockBack'. -/
def interlockBackUptoCard : Claim7 := { stood := { row := interlockBackUptoRow, standIns := [], harness := (true, "506acea0820823a2e6f1c84d7f78f09f7ee818717ff6ef14292517c9ad20b51d"), looks := false }, kinds := [], alts := [], laidByText := true, laidKinds := [.data, .pinned], laidTests := true, laidLooks := .later }
def InterlockBackUptoCardSaid : Prop := Claim7.holds Tryd.pinned (.plain (OpenSpec.upto interlockBackSpec)) interlockBackUptoCard
end Rows
end Go.Proofs.YtocghkacngoblaaDoor
