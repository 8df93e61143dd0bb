/-
  DERIVED. GIVEN WITH THE SEED: THE CARDS: each row of YtfkbbaagifpjpaaGreatDoorRows.lean that lists a variable, with what it lists TIED to the program's text (the seventh form; the later family's looks); each row that meets fmt, with fmt's text TOLD by the authors' own Lean function (tested against real Go, not proved from fmt's source: count such statements apart). THE CARD IS WHAT COUNTS. Prove the row's statement (the work); the ties are given (YtfkbbaagifpjpaaGreatDoorTie.lean); close each card by the builder's one call (the guide's Derived/Test/ToyasCard.lean, 'card_holds'). Laid BY PROGRAM, IN A SANDBOX (cutbox-door.mjs). By AI agents, Wed Nov 11 2026. No macro, syntax, notation, axiom, sorry.
-/
import Derived.Test.YtfkbbaagifpjpaaGreatDoorRows
import GoSem.ClaimSeven
namespace Go.Proofs.YtfkbbaagifpjpaaGreatDoor
namespace Rows

/-- THE TIED CARD OF 'bivouaclaw08.MissingPlans'. -/
def missingPlansCard : Claim7 := { stood := { row := missingPlansRow, standIns := [], harness := (true, "a59106a1251d2cc48d19eda8840bf8cb26ffc995d57df63710a6e5d40a9c5b75"), looks := false }, kinds := [], alts := [], laidByText := true, laidKinds := [.data, .data], laidTests := true, laidLooks := .later }
def MissingPlansCardSaid : Prop := Claim7.holds Tryz.pinned (.plain (OpenSpec.ofChange missingPlansSpec)) missingPlansCard

/-- THE SECOND FORM's CARD OF 'bivouaclaw08.MissingPlans'. -/
def missingPlansUptoCard : Claim7 := { stood := { row := missingPlansUptoRow, standIns := [], harness := (true, "a59106a1251d2cc48d19eda8840bf8cb26ffc995d57df63710a6e5d40a9c5b75"), looks := false }, kinds := [], alts := [], laidByText := true, laidKinds := [.data, .data], laidTests := true, laidLooks := .later }
def MissingPlansUptoCardSaid : Prop := Claim7.holds Tryz.pinned (.plain (OpenSpec.upto missingPlansSpec)) missingPlansUptoCard
end Rows
end Go.Proofs.YtfkbbaagifpjpaaGreatDoor
