/-
  DERIVED. GIVEN WITH THE SEED: THE CARDS: each row of YtfkbbaagifpjpaaDoorRows.lean that lists a variable, with what it lists TIED to the program's text (the seventh form; the later family's looks); each row that meets fmt, with fmt's text TOLD by the authors' own Lean function (tested against real Go, not proved from fmt's source: count such statements apart). THE CARD IS WHAT COUNTS. Prove the row's statement (the work); the ties are given (YtfkbbaagifpjpaaDoorTie.lean); close each card by the builder's one call (the guide's Derived/Test/ToyasCard.lean, 'card_holds'). Laid BY PROGRAM, IN A SANDBOX (cutbox-door.mjs). By AI agents, Wed Nov 11 2026. No macro, syntax, notation, axiom, sorry.
-/
import Derived.Test.YtfkbbaagifpjpaaDoorRows
import GoSem.ClaimSeven
namespace Go.Proofs.YtfkbbaagifpjpaaDoor
namespace Rows

/-- THE TIED CARD OF 'bivouaclaw08.MissingHolds'. -/
def missingHoldsCard : Claim7 := { stood := { row := missingHoldsRow, standIns := [], harness := (true, "48a644d6f72e2474e52626d774e99239f7aea2650a94157948e6924cff7fddc6"), looks := false }, kinds := [], alts := [], laidByText := true, laidKinds := [.data, .data], laidTests := true, laidLooks := .later }
def MissingHoldsCardSaid : Prop := Claim7.holds Tryd.pinned (.plain (OpenSpec.ofChange missingHoldsSpec)) missingHoldsCard

/-- THE TIED CARD OF 'bivouaclaw08.MissingMore'. -/
def missingMoreCard : Claim7 := { stood := { row := missingMoreRow, standIns := [], harness := (true, "48a644d6f72e2474e52626d774e99239f7aea2650a94157948e6924cff7fddc6"), looks := false }, kinds := [], alts := [], laidByText := true, laidKinds := [.data, .data], laidTests := true, laidLooks := .later }
def MissingMoreCardSaid : Prop := Claim7.holds Tryd.pinned (.plain (OpenSpec.ofChange missingMoreSpec)) missingMoreCard

/-- THE TIED CARD OF 'bivouaclaw08.MissingSorted'. -/
def missingSortedCard : Claim7 := { stood := { row := missingSortedRow, standIns := [], harness := (true, "48a644d6f72e2474e52626d774e99239f7aea2650a94157948e6924cff7fddc6"), looks := false }, kinds := [], alts := [], laidByText := true, laidKinds := [.data, .data], laidTests := true, laidLooks := .later }
def MissingSortedCardSaid : Prop := Claim7.holds Tryd.pinned (.plain (OpenSpec.ofChange missingSortedSpec)) missingSortedCard

/-- THE TIED CARD OF 'bivouaclaw08.MissingWay'. -/
def missingWayCard : Claim7 := { stood := { row := missingWayRow, standIns := [], harness := (true, "48a644d6f72e2474e52626d774e99239f7aea2650a94157948e6924cff7fddc6"), looks := false }, kinds := [], alts := [], laidByText := true, laidKinds := [.data, .data], laidTests := true, laidLooks := .later }
def MissingWayCardSaid : Prop := Claim7.holds Tryd.pinned (.plain (OpenSpec.ofChange missingWaySpec)) missingWayCard

/-- THE TIED CARD OF 'bivouaclaw08.MissingReal'. -/
def missingRealCard : Claim7 := { stood := { row := missingRealRow, standIns := [], harness := (true, "48a644d6f72e2474e52626d774e99239f7aea2650a94157948e6924cff7fddc6"), looks := false }, kinds := [], alts := [], laidByText := true, laidKinds := [.data, .data], laidTests := true, laidLooks := .later }
def MissingRealCardSaid : Prop := Claim7.holds Tryd.pinned (.plain (OpenSpec.ofChange missingRealSpec)) missingRealCard

/-- THE TIED CARD OF 'bivouaclaw08.MissingBy'. -/
def missingByCard : Claim7 := { stood := { row := missingByRow, standIns := [], harness := (true, "48a644d6f72e2474e52626d774e99239f7aea2650a94157948e6924cff7fddc6"), looks := false }, kinds := [], alts := [], laidByText := true, laidKinds := [.data, .data], laidTests := true, laidLooks := .later }
def MissingByCardSaid : Prop := Claim7.holds Tryd.pinned (.plain (OpenSpec.ofChange missingBySpec)) missingByCard

/-- THE TIED CARD OF 'bivouaclaw08.MissingLeast'. -/
def missingLeastCard : Claim7 := { stood := { row := missingLeastRow, standIns := [], harness := (true, "48a644d6f72e2474e52626d774e99239f7aea2650a94157948e6924cff7fddc6"), looks := false }, kinds := [], alts := [], laidByText := true, laidKinds := [.data, .data], laidTests := true, laidLooks := .later }
def MissingLeastCardSaid : Prop := Claim7.holds Tryd.pinned (.plain (OpenSpec.ofChange missingLeastSpec)) missingLeastCard

/-- THE TIED CARD OF 'bivouaclaw08.MissingTeams'. -/
def missingTeamsCard : Claim7 := { stood := { row := missingTeamsRow, standIns := [], harness := (true, "48a644d6f72e2474e52626d774e99239f7aea2650a94157948e6924cff7fddc6"), looks := false }, kinds := [], alts := [], laidByText := true, laidKinds := [.data, .data], laidTests := true, laidLooks := .later }
def MissingTeamsCardSaid : Prop := Claim7.holds Tryd.pinned (.plain (OpenSpec.ofChange missingTeamsSpec)) missingTeamsCard

/-- THE TIED CARD OF 'bivouaclaw08.MissingNamed'. -/
def missingNamedCard : Claim7 := { stood := { row := missingNamedRow, standIns := [], harness := (true, "48a644d6f72e2474e52626d774e99239f7aea2650a94157948e6924cff7fddc6"), looks := false }, kinds := [], alts := [], laidByText := true, laidKinds := [.data, .data], laidTests := true, laidLooks := .later }
def MissingNamedCardSaid : Prop := Claim7.holds Tryd.pinned (.plain (OpenSpec.ofChange missingNamedSpec)) missingNamedCard

/-- THE SECOND FORM's CARD OF 'bivouaclaw08.MissingHolds'. -/
def missingHoldsUptoCard : Claim7 := { stood := { row := missingHoldsUptoRow, standIns := [], harness := (true, "48a644d6f72e2474e52626d774e99239f7aea2650a94157948e6924cff7fddc6"), looks := false }, kinds := [], alts := [], laidByText := true, laidKinds := [.data, .data], laidTests := true, laidLooks := .later }
def MissingHoldsUptoCardSaid : Prop := Claim7.holds Tryd.pinned (.plain (OpenSpec.upto missingHoldsSpec)) missingHoldsUptoCard

/-- THE SECOND FORM's CARD OF 'bivouaclaw08.MissingMore'. -/
def missingMoreUptoCard : Claim7 := { stood := { row := missingMoreUptoRow, standIns := [], harness := (true, "48a644d6f72e2474e52626d774e99239f7aea2650a94157948e6924cff7fddc6"), looks := false }, kinds := [], alts := [], laidByText := true, laidKinds := [.data, .data], laidTests := true, laidLooks := .later }
def MissingMoreUptoCardSaid : Prop := Claim7.holds Tryd.pinned (.plain (OpenSpec.upto missingMoreSpec)) missingMoreUptoCard

/-- THE SECOND FORM's CARD OF 'bivouaclaw08.MissingSorted'. -/
def missingSortedUptoCard : Claim7 := { stood := { row := missingSortedUptoRow, standIns := [], harness := (true, "48a644d6f72e2474e52626d774e99239f7aea2650a94157948e6924cff7fddc6"), looks := false }, kinds := [], alts := [], laidByText := true, laidKinds := [.data, .data], laidTests := true, laidLooks := .later }
def MissingSortedUptoCardSaid : Prop := Claim7.holds Tryd.pinned (.plain (OpenSpec.upto missingSortedSpec)) missingSortedUptoCard

/-- THE SECOND FORM's CARD OF 'bivouaclaw08.MissingWay'. -/
def missingWayUptoCard : Claim7 := { stood := { row := missingWayUptoRow, standIns := [], harness := (true, "48a644d6f72e2474e52626d774e99239f7aea2650a94157948e6924cff7fddc6"), looks := false }, kinds := [], alts := [], laidByText := true, laidKinds := [.data, .data], laidTests := true, laidLooks := .later }
def MissingWayUptoCardSaid : Prop := Claim7.holds Tryd.pinned (.plain (OpenSpec.upto missingWaySpec)) missingWayUptoCard

/-- THE SECOND FORM's CARD OF 'bivouaclaw08.MissingReal'. -/
def missingRealUptoCard : Claim7 := { stood := { row := missingRealUptoRow, standIns := [], harness := (true, "48a644d6f72e2474e52626d774e99239f7aea2650a94157948e6924cff7fddc6"), looks := false }, kinds := [], alts := [], laidByText := true, laidKinds := [.data, .data], laidTests := true, laidLooks := .later }
def MissingRealUptoCardSaid : Prop := Claim7.holds Tryd.pinned (.plain (OpenSpec.upto missingRealSpec)) missingRealUptoCard

/-- THE SECOND FORM's CARD OF 'bivouaclaw08.MissingBy'. -/
def missingByUptoCard : Claim7 := { stood := { row := missingByUptoRow, standIns := [], harness := (true, "48a644d6f72e2474e52626d774e99239f7aea2650a94157948e6924cff7fddc6"), looks := false }, kinds := [], alts := [], laidByText := true, laidKinds := [.data, .data], laidTests := true, laidLooks := .later }
def MissingByUptoCardSaid : Prop := Claim7.holds Tryd.pinned (.plain (OpenSpec.upto missingBySpec)) missingByUptoCard

/-- THE SECOND FORM's CARD OF 'bivouaclaw08.MissingLeast'. -/
def missingLeastUptoCard : Claim7 := { stood := { row := missingLeastUptoRow, standIns := [], harness := (true, "48a644d6f72e2474e52626d774e99239f7aea2650a94157948e6924cff7fddc6"), looks := false }, kinds := [], alts := [], laidByText := true, laidKinds := [.data, .data], laidTests := true, laidLooks := .later }
def MissingLeastUptoCardSaid : Prop := Claim7.holds Tryd.pinned (.plain (OpenSpec.upto missingLeastSpec)) missingLeastUptoCard

/-- THE SECOND FORM's CARD OF 'bivouaclaw08.MissingTeams'. -/
def missingTeamsUptoCard : Claim7 := { stood := { row := missingTeamsUptoRow, standIns := [], harness := (true, "48a644d6f72e2474e52626d774e99239f7aea2650a94157948e6924cff7fddc6"), looks := false }, kinds := [], alts := [], laidByText := true, laidKinds := [.data, .data], laidTests := true, laidLooks := .later }
def MissingTeamsUptoCardSaid : Prop := Claim7.holds Tryd.pinned (.plain (OpenSpec.upto missingTeamsSpec)) missingTeamsUptoCard

/-- THE SECOND FORM's CARD OF 'bivouaclaw08.MissingNamed'. -/
def missingNamedUptoCard : Claim7 := { stood := { row := missingNamedUptoRow, standIns := [], harness := (true, "48a644d6f72e2474e52626d774e99239f7aea2650a94157948e6924cff7fddc6"), looks := false }, kinds := [], alts := [], laidByText := true, laidKinds := [.data, .data], laidTests := true, laidLooks := .later }
def MissingNamedUptoCardSaid : Prop := Claim7.holds Tryd.pinned (.plain (OpenSpec.upto missingNamedSpec)) missingNamedUptoCard
end Rows
end Go.Proofs.YtfkbbaagifpjpaaDoor
