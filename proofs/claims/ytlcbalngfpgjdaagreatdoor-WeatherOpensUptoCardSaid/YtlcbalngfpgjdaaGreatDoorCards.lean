/-
  DERIVED. GIVEN WITH THE SEED: THE CARDS: each row of YtlcbalngfpgjdaaGreatDoorRows.lean that lists a variable, with what it lists TIED to the program's text (the seventh form; the later family's looks); each row that meets fmt, with fmt's text TOLD by the authors' own Lean function (tested against real Go, not proved from fmt's source: count such statements apart). THE CARD IS WHAT COUNTS. Prove the row's statement (the work); the ties are given (YtlcbalngfpgjdaaGreatDoorTie.lean); close each card by the builder's one call (the guide's Derived/Test/ToyasCard.lean, 'card_holds'). Laid BY PROGRAM, IN A SANDBOX (cutbox-door.mjs). By AI agents, Wed Nov 11 2026. No macro, syntax, notation, axiom, sorry.
-/
import Derived.Test.YtlcbalngfpgjdaaGreatDoorRows
import GoSem.ClaimSeven
namespace Go.Proofs.YtlcbalngfpgjdaaGreatDoor
namespace Rows

/-- THE TIED CARD OF 'bivouaclaw05.WeatherOpens'. -/
def weatherOpensCard : Claim7 := { stood := { row := weatherOpensRow, standIns := [], harness := (true, "27a958101faa89552598f6898754e75883372f3903367d182e8ba7b81c741ac8"), looks := false }, kinds := [], alts := [], laidByText := true, laidKinds := [.data], laidTests := true, laidLooks := .later }
def WeatherOpensCardSaid : Prop := Claim7.holds Tryz.pinned (.plain (OpenSpec.ofChange weatherOpensSpec)) weatherOpensCard

/-- THE TIED CARD OF 'bivouaclaw05.WeatherClosed'. -/
def weatherClosedCard : Claim7 := { stood := { row := weatherClosedRow, standIns := [], harness := (true, "27a958101faa89552598f6898754e75883372f3903367d182e8ba7b81c741ac8"), looks := false }, kinds := [], alts := [], laidByText := true, laidKinds := [.data], laidTests := true, laidLooks := .later }
def WeatherClosedCardSaid : Prop := Claim7.holds Tryz.pinned (.plain (OpenSpec.ofChange weatherClosedSpec)) weatherClosedCard

/-- THE TIED CARD OF 'bivouaclaw05.WeatherWindows'. -/
def weatherWindowsCard : Claim7 := { stood := { row := weatherWindowsRow, standIns := [], harness := (true, "27a958101faa89552598f6898754e75883372f3903367d182e8ba7b81c741ac8"), looks := false }, kinds := [], alts := [], laidByText := true, laidKinds := [.data], laidTests := true, laidLooks := .later }
def WeatherWindowsCardSaid : Prop := Claim7.holds Tryz.pinned (.plain (OpenSpec.ofChange weatherWindowsSpec)) weatherWindowsCard

/-- THE TIED CARD OF 'bivouaclaw05.WeatherRules'. -/
def weatherRulesCard : Claim7 := { stood := { row := weatherRulesRow, standIns := [], harness := (true, "27a958101faa89552598f6898754e75883372f3903367d182e8ba7b81c741ac8"), looks := false }, kinds := [], alts := [], laidByText := true, laidKinds := [.data], laidTests := true, laidLooks := .later }
def WeatherRulesCardSaid : Prop := Claim7.holds Tryz.pinned (.plain (OpenSpec.ofChange weatherRulesSpec)) weatherRulesCard

/-- THE SECOND FORM's CARD OF 'bivouaclaw05.WeatherOpens'. -/
def weatherOpensUptoCard : Claim7 := { stood := { row := weatherOpensUptoRow, standIns := [], harness := (true, "27a958101faa89552598f6898754e75883372f3903367d182e8ba7b81c741ac8"), looks := false }, kinds := [], alts := [], laidByText := true, laidKinds := [.data], laidTests := true, laidLooks := .later }
def WeatherOpensUptoCardSaid : Prop := Claim7.holds Tryz.pinned (.plain (OpenSpec.upto weatherOpensSpec)) weatherOpensUptoCard

/-- THE SECOND FORM's CARD OF 'bivouaclaw05.WeatherClosed'. -/
def weatherClosedUptoCard : Claim7 := { stood := { row := weatherClosedUptoRow, standIns := [], harness := (true, "27a958101faa89552598f6898754e75883372f3903367d182e8ba7b81c741ac8"), looks := false }, kinds := [], alts := [], laidByText := true, laidKinds := [.data], laidTests := true, laidLooks := .later }
def WeatherClosedUptoCardSaid : Prop := Claim7.holds Tryz.pinned (.plain (OpenSpec.upto weatherClosedSpec)) weatherClosedUptoCard

/-- THE SECOND FORM's CARD OF 'bivouaclaw05.WeatherWindows'. -/
def weatherWindowsUptoCard : Claim7 := { stood := { row := weatherWindowsUptoRow, standIns := [], harness := (true, "27a958101faa89552598f6898754e75883372f3903367d182e8ba7b81c741ac8"), looks := false }, kinds := [], alts := [], laidByText := true, laidKinds := [.data], laidTests := true, laidLooks := .later }
def WeatherWindowsUptoCardSaid : Prop := Claim7.holds Tryz.pinned (.plain (OpenSpec.upto weatherWindowsSpec)) weatherWindowsUptoCard

/-- THE SECOND FORM's CARD OF 'bivouaclaw05.WeatherRules'. -/
def weatherRulesUptoCard : Claim7 := { stood := { row := weatherRulesUptoRow, standIns := [], harness := (true, "27a958101faa89552598f6898754e75883372f3903367d182e8ba7b81c741ac8"), looks := false }, kinds := [], alts := [], laidByText := true, laidKinds := [.data], laidTests := true, laidLooks := .later }
def WeatherRulesUptoCardSaid : Prop := Claim7.holds Tryz.pinned (.plain (OpenSpec.upto weatherRulesSpec)) weatherRulesUptoCard
end Rows
end Go.Proofs.YtlcbalngfpgjdaaGreatDoor
