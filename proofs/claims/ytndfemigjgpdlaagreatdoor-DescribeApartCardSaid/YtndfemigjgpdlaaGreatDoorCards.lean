/-
  DERIVED. GIVEN WITH THE SEED: THE CARDS: each row of YtndfemigjgpdlaaGreatDoorRows.lean that lists a variable, with what it lists TIED to the program's text (the seventh form; the later family's looks); each row that meets fmt, with fmt's text TOLD by the authors' own Lean function (tested against real Go, not proved from fmt's source: count such statements apart). THE CARD IS WHAT COUNTS. Prove the row's statement (the work); the ties are given (YtndfemigjgpdlaaGreatDoorTie.lean); close each card by the builder's one call (the guide's Derived/Test/ToyasCard.lean, 'card_holds'). Laid BY PROGRAM, IN A SANDBOX (cutbox-door.mjs). By AI agents, Wed Nov 11 2026. No macro, syntax, notation, axiom, sorry.
-/
import Derived.Test.YtndfemigjgpdlaaGreatDoorRows
import GoSem.ClaimSeven
namespace Go.Proofs.YtndfemigjgpdlaaGreatDoor
namespace Rows

/-- THE TIED CARD OF 'lyceumlaw41.DescribeApart'. -/
def describeApartCard : Claim7 := { stood := { row := describeApartRow, standIns := [], harness := (true, "59742d44b4c9635d47bf879cab854f9ff1b96416056fd1b1b8c67de97d86ad89"), looks := false }, kinds := [], alts := [], laidByText := true, laidKinds := [.data, .data, .data, .data, .pinned], laidTests := true, laidLooks := .later }
def DescribeApartCardSaid : Prop := Claim7.holds Tryz.pinned (.plain (OpenSpec.ofChange describeApartSpec)) describeApartCard

/-- THE SECOND FORM's CARD OF 'lyceumlaw41.DescribeApart'. -/
def describeApartUptoCard : Claim7 := { stood := { row := describeApartUptoRow, standIns := [], harness := (true, "59742d44b4c9635d47bf879cab854f9ff1b96416056fd1b1b8c67de97d86ad89"), looks := false }, kinds := [], alts := [], laidByText := true, laidKinds := [.data, .data, .data, .data, .pinned], laidTests := true, laidLooks := .later }
def DescribeApartUptoCardSaid : Prop := Claim7.holds Tryz.pinned (.plain (OpenSpec.upto describeApartSpec)) describeApartUptoCard
end Rows
end Go.Proofs.YtndfemigjgpdlaaGreatDoor
