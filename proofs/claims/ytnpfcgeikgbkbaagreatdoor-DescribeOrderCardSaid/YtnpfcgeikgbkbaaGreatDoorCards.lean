/-
  DERIVED. GIVEN WITH THE SEED: THE CARDS: each row of YtnpfcgeikgbkbaaGreatDoorRows.lean that lists a variable, with what it lists TIED to the program's text (the seventh form; the later family's looks); each row that meets fmt, with fmt's text TOLD by the authors' own Lean function (tested against real Go, not proved from fmt's source: count such statements apart). THE CARD IS WHAT COUNTS. Prove the row's statement (the work); the ties are given (YtnpfcgeikgbkbaaGreatDoorTie.lean); close each card by the builder's one call (the guide's Derived/Test/ToyasCard.lean, 'card_holds'). Laid BY PROGRAM, IN A SANDBOX (cutbox-door.mjs). By AI agents, Wed Nov 11 2026. No macro, syntax, notation, axiom, sorry.
-/
import Derived.Test.YtnpfcgeikgbkbaaGreatDoorRows
import GoSem.ClaimSeven
namespace Go.Proofs.YtnpfcgeikgbkbaaGreatDoor
namespace Rows

/-- THE TIED CARD OF 'lyceumlaw41.DescribeOrder'. -/
def describeOrderCard : Claim7 := { stood := { row := describeOrderRow, standIns := [], harness := (true, "e669c93b3d67391a2ab44f08a9716b52f532bc873eeb940998bab1e84cc2b7e2"), looks := true }, kinds := [], alts := [], laidByText := true, laidKinds := [.data, .data, .data, .data, .sentinel, .sentinel, .pinned], laidTests := true, laidLooks := .later }
def DescribeOrderCardSaid : Prop := Claim7.holds Tryz.pinned (.plain (OpenSpec.ofChange describeOrderSpec)) describeOrderCard

/-- THE SECOND FORM's CARD OF 'lyceumlaw41.DescribeOrder'. -/
def describeOrderUptoCard : Claim7 := { stood := { row := describeOrderUptoRow, standIns := [], harness := (true, "e669c93b3d67391a2ab44f08a9716b52f532bc873eeb940998bab1e84cc2b7e2"), looks := true }, kinds := [], alts := [], laidByText := true, laidKinds := [.data, .data, .data, .data, .sentinel, .sentinel, .pinned], laidTests := true, laidLooks := .later }
def DescribeOrderUptoCardSaid : Prop := Claim7.holds Tryz.pinned (.plain (OpenSpec.upto describeOrderSpec)) describeOrderUptoCard
end Rows
end Go.Proofs.YtnpfcgeikgbkbaaGreatDoor
