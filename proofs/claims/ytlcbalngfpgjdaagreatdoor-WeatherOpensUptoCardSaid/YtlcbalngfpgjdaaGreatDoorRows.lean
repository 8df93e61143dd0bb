/-
  NARROWER THAN 'FOR EVERY INPUT', by the rows' own cells (each row's printed sentence says how): WeatherOpens: laid · WeatherClosed: laid · WeatherWindows: laid · WeatherRules: laid.
  DERIVED. THE GIVEN ROWS OF THIS SEAT. 4 by the template 'for every input the law returns true; each argument reads behind the call as it read before'; 0 by the template 'total and deterministic' (their statements: YtlcbalngfpgjdaaGreatDoorTotals.lean).
  GIVEN WITH THE SEED: the statements are not yours to turn. If you find one false, say at which input.
  Laid BY PROGRAM, IN A SANDBOX (cutbox-rows.mjs): the forced cells as the released guide's own fill.sh prints them over the translation a49ed052f8f14875… (all of the seat's roots in one cut). By AI agents, Wed Nov 11 2026. No macro, syntax, notation, axiom, sorry.
-/
import Derived.Test.YtlcbalngfpgjdaaGreatDoorChecked
import GoSem.Claim
import GoSem.ClaimJoined
import GoSem.ClaimMapViews
import Derived.JoinedTies
import Derived.KernelRfl
namespace Go.Proofs.YtlcbalngfpgjdaaGreatDoor
/- THE CELL 'sum', in the pinned program and in every row, IS THE sha256 OF THE DUMP (.gsa) THAT YtlcbalngfpgjdaaGreatDoorProg.lean LOADS. Nothing in Lean hashes anything: it is a label: what it is worth is what the hold of that sum in a sandbox is worth. -/
noncomputable def Tryz.pinned : Pinned := { name := "ytlcbalngfpgjdaagreatdoor", sum := "a49ed052f8f148753e559a3687a5ac2de581212debe119dc45ab08947988576b", checked := Tryz.checked }
namespace Rows
def none {H : Type} : Left H := { results := [], args := [] }

/- WHAT THE LISTED PACKAGE-LEVEL VARIABLES READ AS WHEN THE CALL BEGINS. Each datum BY PROGRAM (the guide's laid-datum.mjs) off the statement by which the dump's own 'gosem.cut.vars' lays the variable. In a bare row this is a premise. The card (YtlcbalngfpgjdaaGreatDoorCards.lean) ties it to the program's text. -/
def laid_bivouac_weather_wide {H : Type} : DataW H := .agg [.agg [.lit (.int .i64 200), .lit (.int .i64 100), .agg [.lit (.int .i64 (-50)), .lit (.int .i64 50)]]]

/-- 'bivouaclaw05.WeatherOpens': WHATEVER THE INPUT: true; the input reads as it did. -/
def weatherOpensSpec : ChangeSpec := { name := "weatherOpens", fn := fun _ => fun
  | [d1, d2, d3] => { results := [.lit (.bool true)], args := [d1, d2, d3] }
  | _ => none }
def weatherOpensRow : OpenClaim := { program := "ytlcbalngfpgjdaagreatdoor", sum := "a49ed052f8f148753e559a3687a5ac2de581212debe119dc45ab08947988576b", func := "bivouac/bivouaclaw05.WeatherOpens", spec := "weatherOpens", unfollowed := true, recurses := true, named := ["bivouac/weather.wide"], apart := false, laid := [("bivouac/weather.wide", laid_bivouac_weather_wide)] }
def WeatherOpensSaid : Prop := weatherOpensRow.holds Tryz.pinned (OpenSpec.ofChange weatherOpensSpec)

/-- ITS FALSE NEIGHBOUR: 'it returns false'. Refute it at one input. -/
def weatherOpensWrong : ChangeSpec := { name := "weatherOpens", fn := fun _ => fun
  | [d1, d2, d3] => { results := [.lit (.bool false)], args := [d1, d2, d3] }
  | _ => none }
def WeatherOpensWrongFalsely : Prop := weatherOpensRow.holds Tryz.pinned (OpenSpec.ofChange weatherOpensWrong)

/-- 'bivouaclaw05.WeatherClosed': WHATEVER THE INPUT: true; the input reads as it did. -/
def weatherClosedSpec : ChangeSpec := { name := "weatherClosed", fn := fun _ => fun
  | [d1, d2, d3] => { results := [.lit (.bool true)], args := [d1, d2, d3] }
  | _ => none }
def weatherClosedRow : OpenClaim := { program := "ytlcbalngfpgjdaagreatdoor", sum := "a49ed052f8f148753e559a3687a5ac2de581212debe119dc45ab08947988576b", func := "bivouac/bivouaclaw05.WeatherClosed", spec := "weatherClosed", unfollowed := true, recurses := true, named := ["bivouac/weather.wide"], apart := false, laid := [("bivouac/weather.wide", laid_bivouac_weather_wide)] }
def WeatherClosedSaid : Prop := weatherClosedRow.holds Tryz.pinned (OpenSpec.ofChange weatherClosedSpec)

/-- ITS FALSE NEIGHBOUR: 'it returns false'. Refute it at one input. -/
def weatherClosedWrong : ChangeSpec := { name := "weatherClosed", fn := fun _ => fun
  | [d1, d2, d3] => { results := [.lit (.bool false)], args := [d1, d2, d3] }
  | _ => none }
def WeatherClosedWrongFalsely : Prop := weatherClosedRow.holds Tryz.pinned (OpenSpec.ofChange weatherClosedWrong)

/-- 'bivouaclaw05.WeatherWindows': WHATEVER THE INPUT: true; the input reads as it did. -/
def weatherWindowsSpec : ChangeSpec := { name := "weatherWindows", fn := fun _ => fun
  | [d1, d2, d3] => { results := [.lit (.bool true)], args := [d1, d2, d3] }
  | _ => none }
def weatherWindowsRow : OpenClaim := { program := "ytlcbalngfpgjdaagreatdoor", sum := "a49ed052f8f148753e559a3687a5ac2de581212debe119dc45ab08947988576b", func := "bivouac/bivouaclaw05.WeatherWindows", spec := "weatherWindows", unfollowed := true, recurses := true, named := ["bivouac/weather.wide"], apart := false, laid := [("bivouac/weather.wide", laid_bivouac_weather_wide)] }
def WeatherWindowsSaid : Prop := weatherWindowsRow.holds Tryz.pinned (OpenSpec.ofChange weatherWindowsSpec)

/-- ITS FALSE NEIGHBOUR: 'it returns false'. Refute it at one input. -/
def weatherWindowsWrong : ChangeSpec := { name := "weatherWindows", fn := fun _ => fun
  | [d1, d2, d3] => { results := [.lit (.bool false)], args := [d1, d2, d3] }
  | _ => none }
def WeatherWindowsWrongFalsely : Prop := weatherWindowsRow.holds Tryz.pinned (OpenSpec.ofChange weatherWindowsWrong)

/-- 'bivouaclaw05.WeatherRules': WHATEVER THE INPUT: true; the input reads as it did. -/
def weatherRulesSpec : ChangeSpec := { name := "weatherRules", fn := fun _ => fun
  | [d1, d2, d3] => { results := [.lit (.bool true)], args := [d1, d2, d3] }
  | _ => none }
def weatherRulesRow : OpenClaim := { program := "ytlcbalngfpgjdaagreatdoor", sum := "a49ed052f8f148753e559a3687a5ac2de581212debe119dc45ab08947988576b", func := "bivouac/bivouaclaw05.WeatherRules", spec := "weatherRules", unfollowed := true, recurses := true, named := ["bivouac/weather.wide"], apart := false, laid := [("bivouac/weather.wide", laid_bivouac_weather_wide)] }
def WeatherRulesSaid : Prop := weatherRulesRow.holds Tryz.pinned (OpenSpec.ofChange weatherRulesSpec)

/-- ITS FALSE NEIGHBOUR: 'it returns false'. Refute it at one input. -/
def weatherRulesWrong : ChangeSpec := { name := "weatherRules", fn := fun _ => fun
  | [d1, d2, d3] => { results := [.lit (.bool false)], args := [d1, d2, d3] }
  | _ => none }
def WeatherRulesWrongFalsely : Prop := weatherRulesRow.holds Tryz.pinned (OpenSpec.ofChange weatherRulesWrong)

/- THE SECOND FORM. 'bulk': how many values and letters a reading holds, each counted each time it is reached (what is shared counts as often as it is met; a slice's spare places count too). A statement '..UptoSaid' is the law's where the arguments, and the package variables that the reading takes, are together of bulk at most 1048576: NARROWER than '..Said'. Prove '..Said' where nothing that the law and all that it calls make is longer than what came in: it says more and counts as full. Else prove '..UptoSaid'. A law counts once. -/
mutual
def uptoBulk {H : Type} : DataW H → Nat
  | .lit (.string bytes) => bytes.length + 1
  | .lit _ => 1
  | .nil => 1
  | .ptr d => uptoBulk d + 1
  | .slice elems spare => uptoBulkAll elems + uptoBulkAll spare + 1
  | .agg parts => uptoBulkAll parts + 1
  | .iface _ d => uptoBulk d + 1
  | .map entries => uptoBulkEntries entries + 1
  | .held _ => 1
def uptoBulkAll {H : Type} : List (DataW H) → Nat
  | [] => 0
  | d :: r => uptoBulk d + uptoBulkAll r
def uptoBulkEntries {H : Type} : List (Lit × DataW H) → Nat
  | [] => 0
  | x :: r => uptoBulkEntry x + uptoBulkEntries r
def uptoBulkEntry {H : Type} : Lit × DataW H → Nat
  | (.string bytes, d) => bytes.length + uptoBulk d + 1
  | (_, d) => uptoBulk d + 1
 end
def uptoSmall : (H : Type) → List (DataW H) → Bool := fun _ ds => decide (uptoBulkAll ds ≤ 1048576)
def OpenSpec.upto (s : _root_.Go.ChangeSpec) : _root_.Go.OpenSpec := { _root_.Go.OpenSpec.ofChange s with cond := some uptoSmall }

/-- 'bivouaclaw05.WeatherOpens', WHERE WHAT IT READS IS OF BULK AT MOST 1048576: true; the input reads as it did. -/
def weatherOpensUptoRow : OpenClaim := { program := "ytlcbalngfpgjdaagreatdoor", sum := "a49ed052f8f148753e559a3687a5ac2de581212debe119dc45ab08947988576b", func := "bivouac/bivouaclaw05.WeatherOpens", spec := "weatherOpens", unfollowed := true, recurses := true, named := ["bivouac/weather.wide"], apart := false, laid := [("bivouac/weather.wide", laid_bivouac_weather_wide)], narrowed := true }
def WeatherOpensUptoSaid : Prop := weatherOpensUptoRow.holds Tryz.pinned (OpenSpec.upto weatherOpensSpec)

/-- 'bivouaclaw05.WeatherClosed', WHERE WHAT IT READS IS OF BULK AT MOST 1048576: true; the input reads as it did. -/
def weatherClosedUptoRow : OpenClaim := { program := "ytlcbalngfpgjdaagreatdoor", sum := "a49ed052f8f148753e559a3687a5ac2de581212debe119dc45ab08947988576b", func := "bivouac/bivouaclaw05.WeatherClosed", spec := "weatherClosed", unfollowed := true, recurses := true, named := ["bivouac/weather.wide"], apart := false, laid := [("bivouac/weather.wide", laid_bivouac_weather_wide)], narrowed := true }
def WeatherClosedUptoSaid : Prop := weatherClosedUptoRow.holds Tryz.pinned (OpenSpec.upto weatherClosedSpec)

/-- 'bivouaclaw05.WeatherWindows', WHERE WHAT IT READS IS OF BULK AT MOST 1048576: true; the input reads as it did. -/
def weatherWindowsUptoRow : OpenClaim := { program := "ytlcbalngfpgjdaagreatdoor", sum := "a49ed052f8f148753e559a3687a5ac2de581212debe119dc45ab08947988576b", func := "bivouac/bivouaclaw05.WeatherWindows", spec := "weatherWindows", unfollowed := true, recurses := true, named := ["bivouac/weather.wide"], apart := false, laid := [("bivouac/weather.wide", laid_bivouac_weather_wide)], narrowed := true }
def WeatherWindowsUptoSaid : Prop := weatherWindowsUptoRow.holds Tryz.pinned (OpenSpec.upto weatherWindowsSpec)

/-- 'bivouaclaw05.WeatherRules', WHERE WHAT IT READS IS OF BULK AT MOST 1048576: true; the input reads as it did. -/
def weatherRulesUptoRow : OpenClaim := { program := "ytlcbalngfpgjdaagreatdoor", sum := "a49ed052f8f148753e559a3687a5ac2de581212debe119dc45ab08947988576b", func := "bivouac/bivouaclaw05.WeatherRules", spec := "weatherRules", unfollowed := true, recurses := true, named := ["bivouac/weather.wide"], apart := false, laid := [("bivouac/weather.wide", laid_bivouac_weather_wide)], narrowed := true }
def WeatherRulesUptoSaid : Prop := weatherRulesUptoRow.holds Tryz.pinned (OpenSpec.upto weatherRulesSpec)

end Rows
end Go.Proofs.YtlcbalngfpgjdaaGreatDoor
