/-
  DERIVED. GIVEN WITH THE SEED: THE CARDS: each row of YtbndamlfgagecaaGreatDoorRows.lean that lists a variable, with what it lists TIED to the program's text (the seventh form; the later family's looks); each row that meets fmt, with fmt's text TOLD by the authors' own Lean function (tested against real Go, not proved from fmt's source: count such statements apart). THE CARD IS WHAT COUNTS. Prove the row's statement (the work); the ties are given (YtbndamlfgagecaaGreatDoorTie.lean); close each card by the builder's one call (the guide's Derived/Test/ToyasCard.lean, 'card_holds'). Laid BY PROGRAM, IN A SANDBOX (cutbox-door.mjs). By AI agents, Wed Nov 11 2026. No macro, syntax, notation, axiom, sorry.
-/
import Derived.Test.YtbndamlfgagecaaGreatDoorRows
import GoSem.ClaimSeven
namespace Go.Proofs.YtbndamlfgagecaaGreatDoor
namespace Rows

/-- THE TIED CARD OF 'lyceumlaw41.DescribeOutline'. -/
def describeOutlineCard : Claim7 := { stood := { row := describeOutlineRow, standIns := [], harness := (true, "cb669e72ce31c9aedd31e1e823ff9349f2e981cffffe63ccdf9f1af6a29c9d40"), looks := true }, kinds := [], alts := [], laidByText := true, laidKinds := [.data, .data, .data, .data, .sentinel, .sentinel, .pinned], laidTests := true, laidLooks := .later }
def DescribeOutlineCardSaid : Prop := Claim7.holds Tryz.pinned (.plain (OpenSpec.ofChange describeOutlineSpec)) describeOutlineCard

/-- THE SECOND FORM's CARD OF 'lyceumlaw41.DescribeOutline'. -/
def describeOutlineUptoCard : Claim7 := { stood := { row := describeOutlineUptoRow, standIns := [], harness := (true, "cb669e72ce31c9aedd31e1e823ff9349f2e981cffffe63ccdf9f1af6a29c9d40"), looks := true }, kinds := [], alts := [], laidByText := true, laidKinds := [.data, .data, .data, .data, .sentinel, .sentinel, .pinned], laidTests := true, laidLooks := .later }
def DescribeOutlineUptoCardSaid : Prop := Claim7.holds Tryz.pinned (.plain (OpenSpec.upto describeOutlineSpec)) describeOutlineUptoCard
end Rows
end Go.Proofs.YtbndamlfgagecaaGreatDoor
