/-
  DERIVED. GIVEN WITH THE SEED: THE CARDS: each row of YtlcbalngfpgjdaaDoorRows.lean that lists a variable, with what it lists TIED to the program's text (the seventh form; the later family's looks); each row that meets fmt, with fmt's text TOLD by the authors' own Lean function (tested against real Go, not proved from fmt's source: count such statements apart). THE CARD IS WHAT COUNTS. Prove the row's statement (the work); the ties are given (YtlcbalngfpgjdaaDoorTie.lean); close each card by the builder's one call (the guide's Derived/Test/ToyasCard.lean, 'card_holds'). Laid BY PROGRAM, IN A SANDBOX (cutbox-door.mjs). By AI agents, Wed Nov 11 2026. No macro, syntax, notation, axiom, sorry.
-/
import Derived.Test.YtlcbalngfpgjdaaDoorRows
import GoSem.ClaimSeven
namespace Go.Proofs.YtlcbalngfpgjdaaDoor
namespace Rows

/-- THE TIED CARD OF 'bivouaclaw05.WeatherMore'. -/
def weatherMoreCard : Claim7 := { stood := { row := weatherMoreRow, standIns := [], harness := (true, "d37ef973967b07c7cc1e096dad1e453ef394e18b7a20a6719cd19a8c169f9347"), looks := false }, kinds := [], alts := [], laidByText := true, laidKinds := [.data], laidTests := true, laidLooks := .later }
def WeatherMoreCardSaid : Prop := Claim7.holds Tryd.pinned (.plain (OpenSpec.ofChange weatherMoreSpec)) weatherMoreCard

/-- THE TIED CARD OF 'bivouaclaw05.WeatherComes'. -/
def weatherComesCard : Claim7 := { stood := { row := weatherComesRow, standIns := [], harness := (true, "d37ef973967b07c7cc1e096dad1e453ef394e18b7a20a6719cd19a8c169f9347"), looks := false }, kinds := [], alts := [], laidByText := true, laidKinds := [.data], laidTests := true, laidLooks := .later }
def WeatherComesCardSaid : Prop := Claim7.holds Tryd.pinned (.plain (OpenSpec.ofChange weatherComesSpec)) weatherComesCard

/-- THE TIED CARD OF 'bivouaclaw05.WeatherRanges'. -/
def weatherRangesCard : Claim7 := { stood := { row := weatherRangesRow, standIns := [], harness := (true, "d37ef973967b07c7cc1e096dad1e453ef394e18b7a20a6719cd19a8c169f9347"), looks := false }, kinds := [], alts := [], laidByText := true, laidKinds := [.data], laidTests := true, laidLooks := .later }
def WeatherRangesCardSaid : Prop := Claim7.holds Tryd.pinned (.plain (OpenSpec.ofChange weatherRangesSpec)) weatherRangesCard

/-- THE TIED CARD OF 'bivouaclaw05.WeatherTrue'. -/
def weatherTrueCard : Claim7 := { stood := { row := weatherTrueRow, standIns := [], harness := (true, "d37ef973967b07c7cc1e096dad1e453ef394e18b7a20a6719cd19a8c169f9347"), looks := false }, kinds := [], alts := [], laidByText := true, laidKinds := [.data], laidTests := true, laidLooks := .later }
def WeatherTrueCardSaid : Prop := Claim7.holds Tryd.pinned (.plain (OpenSpec.ofChange weatherTrueSpec)) weatherTrueCard

/-- THE SECOND FORM's CARD OF 'bivouaclaw05.WeatherMore'. -/
def weatherMoreUptoCard : Claim7 := { stood := { row := weatherMoreUptoRow, standIns := [], harness := (true, "d37ef973967b07c7cc1e096dad1e453ef394e18b7a20a6719cd19a8c169f9347"), looks := false }, kinds := [], alts := [], laidByText := true, laidKinds := [.data], laidTests := true, laidLooks := .later }
def WeatherMoreUptoCardSaid : Prop := Claim7.holds Tryd.pinned (.plain (OpenSpec.upto weatherMoreSpec)) weatherMoreUptoCard

/-- THE SECOND FORM's CARD OF 'bivouaclaw05.WeatherComes'. -/
def weatherComesUptoCard : Claim7 := { stood := { row := weatherComesUptoRow, standIns := [], harness := (true, "d37ef973967b07c7cc1e096dad1e453ef394e18b7a20a6719cd19a8c169f9347"), looks := false }, kinds := [], alts := [], laidByText := true, laidKinds := [.data], laidTests := true, laidLooks := .later }
def WeatherComesUptoCardSaid : Prop := Claim7.holds Tryd.pinned (.plain (OpenSpec.upto weatherComesSpec)) weatherComesUptoCard

/-- THE SECOND FORM's CARD OF 'bivouaclaw05.WeatherRanges'. -/
def weatherRangesUptoCard : Claim7 := { stood := { row := weatherRangesUptoRow, standIns := [], harness := (true, "d37ef973967b07c7cc1e096dad1e453ef394e18b7a20a6719cd19a8c169f9347"), looks := false }, kinds := [], alts := [], laidByText := true, laidKinds := [.data], laidTests := true, laidLooks := .later }
def WeatherRangesUptoCardSaid : Prop := Claim7.holds Tryd.pinned (.plain (OpenSpec.upto weatherRangesSpec)) weatherRangesUptoCard

/-- THE SECOND FORM's CARD OF 'bivouaclaw05.WeatherTrue'. -/
def weatherTrueUptoCard : Claim7 := { stood := { row := weatherTrueUptoRow, standIns := [], harness := (true, "d37ef973967b07c7cc1e096dad1e453ef394e18b7a20a6719cd19a8c169f9347"), looks := false }, kinds := [], alts := [], laidByText := true, laidKinds := [.data], laidTests := true, laidLooks := .later }
def WeatherTrueUptoCardSaid : Prop := Claim7.holds Tryd.pinned (.plain (OpenSpec.upto weatherTrueSpec)) weatherTrueUptoCard
end Rows
end Go.Proofs.YtlcbalngfpgjdaaDoor
