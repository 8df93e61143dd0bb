/-
  NARROWER THAN 'FOR EVERY INPUT', by the rows' own cells (each row's printed sentence says how): WeatherMore: laid · WeatherComes: laid · WeatherRanges: laid · WeatherTrue: laid.
  DERIVED. THE GIVEN ROWS OF THIS SEAT. 4 by the template 'for every input the law returns true; each argument reads behind the call as it read before'; 0 by the template 'total and deterministic' (their statements: YtlcbalngfpgjdaaDoorTotals.lean).
  GIVEN WITH THE SEED: the statements are not yours to turn. If you find one false, say at which input.
  Laid BY PROGRAM, IN A SANDBOX (cutbox-rows.mjs): the forced cells as the released guide's own fill.sh prints them over the translation 52217cee0c674d41… (all of the seat's roots in one cut). By AI agents, Wed Nov 11 2026. No macro, syntax, notation, axiom, sorry.
-/
import Derived.Test.YtlcbalngfpgjdaaDoorChecked
import GoSem.Claim
import GoSem.ClaimJoined
import GoSem.ClaimMapViews
import Derived.JoinedTies
import Derived.KernelRfl
namespace Go.Proofs.YtlcbalngfpgjdaaDoor
/- THE CELL 'sum', in the pinned program and in every row, IS THE sha256 OF THE DUMP (.gsa) THAT YtlcbalngfpgjdaaDoorProg.lean LOADS. Nothing in Lean hashes anything: it is a label: what it is worth is what the hold of that sum in a sandbox is worth. -/
noncomputable def Tryd.pinned : Pinned := { name := "ytlcbalngfpgjdaadoor", sum := "52217cee0c674d4135ee6e1e11b791d00e68c0e3e8eef2b0e82d24f5c3999f21", checked := Tryd.checked }
namespace Rows
def none {H : Type} : Left H := { results := [], args := [] }

/- WHAT THE LISTED PACKAGE-LEVEL VARIABLES READ AS WHEN THE CALL BEGINS. Each datum BY PROGRAM (the guide's laid-datum.mjs) off the statement by which the dump's own 'gosem.cut.vars' lays the variable. In a bare row this is a premise. The card (YtlcbalngfpgjdaaDoorCards.lean) ties it to the program's text. -/
def laid_bivouac_weather_wide {H : Type} : DataW H := .agg [.agg [.lit (.int .i64 200), .lit (.int .i64 100), .agg [.lit (.int .i64 (-50)), .lit (.int .i64 50)]]]

/-- 'bivouaclaw05.WeatherMore': WHATEVER THE INPUT: true; the input reads as it did. -/
def weatherMoreSpec : ChangeSpec := { name := "weatherMore", fn := fun _ => fun
  | [d1, d2, d3] => { results := [.lit (.bool true)], args := [d1, d2, d3] }
  | _ => none }
def weatherMoreRow : OpenClaim := { program := "ytlcbalngfpgjdaadoor", sum := "52217cee0c674d4135ee6e1e11b791d00e68c0e3e8eef2b0e82d24f5c3999f21", func := "bivouac/bivouaclaw05.WeatherMore", spec := "weatherMore", unfollowed := true, recurses := true, named := ["bivouac/weather.wide"], apart := false, laid := [("bivouac/weather.wide", laid_bivouac_weather_wide)] }
def WeatherMoreSaid : Prop := weatherMoreRow.holds Tryd.pinned (OpenSpec.ofChange weatherMoreSpec)

/-- ITS FALSE NEIGHBOUR: 'it returns false'. Refute it at one input. -/
def weatherMoreWrong : ChangeSpec := { name := "weatherMore", fn := fun _ => fun
  | [d1, d2, d3] => { results := [.lit (.bool false)], args := [d1, d2, d3] }
  | _ => none }
def WeatherMoreWrongFalsely : Prop := weatherMoreRow.holds Tryd.pinned (OpenSpec.ofChange weatherMoreWrong)

/-- 'bivouaclaw05.WeatherComes': WHATEVER THE INPUT: true; the input reads as it did. -/
def weatherComesSpec : ChangeSpec := { name := "weatherComes", fn := fun _ => fun
  | [d1, d2] => { results := [.lit (.bool true)], args := [d1, d2] }
  | _ => none }
def weatherComesRow : OpenClaim := { program := "ytlcbalngfpgjdaadoor", sum := "52217cee0c674d4135ee6e1e11b791d00e68c0e3e8eef2b0e82d24f5c3999f21", func := "bivouac/bivouaclaw05.WeatherComes", spec := "weatherComes", unfollowed := true, recurses := true, named := ["bivouac/weather.wide"], apart := false, laid := [("bivouac/weather.wide", laid_bivouac_weather_wide)] }
def WeatherComesSaid : Prop := weatherComesRow.holds Tryd.pinned (OpenSpec.ofChange weatherComesSpec)

/-- ITS FALSE NEIGHBOUR: 'it returns false'. Refute it at one input. -/
def weatherComesWrong : ChangeSpec := { name := "weatherComes", fn := fun _ => fun
  | [d1, d2] => { results := [.lit (.bool false)], args := [d1, d2] }
  | _ => none }
def WeatherComesWrongFalsely : Prop := weatherComesRow.holds Tryd.pinned (OpenSpec.ofChange weatherComesWrong)

/-- 'bivouaclaw05.WeatherRanges': WHATEVER THE INPUT: true; the input reads as it did. -/
def weatherRangesSpec : ChangeSpec := { name := "weatherRanges", fn := fun _ => fun
  | [d1, d2, d3] => { results := [.lit (.bool true)], args := [d1, d2, d3] }
  | _ => none }
def weatherRangesRow : OpenClaim := { program := "ytlcbalngfpgjdaadoor", sum := "52217cee0c674d4135ee6e1e11b791d00e68c0e3e8eef2b0e82d24f5c3999f21", func := "bivouac/bivouaclaw05.WeatherRanges", spec := "weatherRanges", unfollowed := true, recurses := true, named := ["bivouac/weather.wide"], apart := false, laid := [("bivouac/weather.wide", laid_bivouac_weather_wide)] }
def WeatherRangesSaid : Prop := weatherRangesRow.holds Tryd.pinned (OpenSpec.ofChange weatherRangesSpec)

/-- ITS FALSE NEIGHBOUR: 'it returns false'. Refute it at one input. -/
def weatherRangesWrong : ChangeSpec := { name := "weatherRanges", fn := fun _ => fun
  | [d1, d2, d3] => { results := [.lit (.bool false)], args := [d1, d2, d3] }
  | _ => none }
def WeatherRangesWrongFalsely : Prop := weatherRangesRow.holds Tryd.pinned (OpenSpec.ofChange weatherRangesWrong)

/-- 'bivouaclaw05.WeatherTrue': WHATEVER THE INPUT: true; the input reads as it did. -/
def weatherTrueSpec : ChangeSpec := { name := "weatherTrue", fn := fun _ => fun
  | [d1, d2] => { results := [.lit (.bool true)], args := [d1, d2] }
  | _ => none }
def weatherTrueRow : OpenClaim := { program := "ytlcbalngfpgjdaadoor", sum := "52217cee0c674d4135ee6e1e11b791d00e68c0e3e8eef2b0e82d24f5c3999f21", func := "bivouac/bivouaclaw05.WeatherTrue", spec := "weatherTrue", unfollowed := true, recurses := true, named := ["bivouac/weather.wide"], apart := false, laid := [("bivouac/weather.wide", laid_bivouac_weather_wide)] }
def WeatherTrueSaid : Prop := weatherTrueRow.holds Tryd.pinned (OpenSpec.ofChange weatherTrueSpec)

/-- ITS FALSE NEIGHBOUR: 'it returns false'. Refute it at one input. -/
def weatherTrueWrong : ChangeSpec := { name := "weatherTrue", fn := fun _ => fun
  | [d1, d2] => { results := [.lit (.bool false)], args := [d1, d2] }
  | _ => none }
def WeatherTrueWrongFalsely : Prop := weatherTrueRow.holds Tryd.pinned (OpenSpec.ofChange weatherTrueWrong)

/- THE SECOND FORM. 'bulk': how many values and letters a reading holds, each counted each time it is reached (what is shared counts as often as it is met; a slice's spare places count too). A statement '..UptoSaid' is the law's where the arguments, and the package variables that the reading takes, are together of bulk at most 1048576: NARROWER than '..Said'. Prove '..Said' where nothing that the law and all that it calls make is longer than what came in: it says more and counts as full. Else prove '..UptoSaid'. A law counts once. -/
mutual
def uptoBulk {H : Type} : DataW H → Nat
  | .lit (.string bytes) => bytes.length + 1
  | .lit _ => 1
  | .nil => 1
  | .ptr d => uptoBulk d + 1
  | .slice elems spare => uptoBulkAll elems + uptoBulkAll spare + 1
  | .agg parts => uptoBulkAll parts + 1
  | .iface _ d => uptoBulk d + 1
  | .map entries => uptoBulkEntries entries + 1
  | .held _ => 1
def uptoBulkAll {H : Type} : List (DataW H) → Nat
  | [] => 0
  | d :: r => uptoBulk d + uptoBulkAll r
def uptoBulkEntries {H : Type} : List (Lit × DataW H) → Nat
  | [] => 0
  | x :: r => uptoBulkEntry x + uptoBulkEntries r
def uptoBulkEntry {H : Type} : Lit × DataW H → Nat
  | (.string bytes, d) => bytes.length + uptoBulk d + 1
  | (_, d) => uptoBulk d + 1
 end
def uptoSmall : (H : Type) → List (DataW H) → Bool := fun _ ds => decide (uptoBulkAll ds ≤ 1048576)
def OpenSpec.upto (s : _root_.Go.ChangeSpec) : _root_.Go.OpenSpec := { _root_.Go.OpenSpec.ofChange s with cond := some uptoSmall }

/-- 'bivouaclaw05.WeatherMore', WHERE WHAT IT READS IS OF BULK AT MOST 1048576: true; the input reads as it did. -/
def weatherMoreUptoRow : OpenClaim := { program := "ytlcbalngfpgjdaadoor", sum := "52217cee0c674d4135ee6e1e11b791d00e68c0e3e8eef2b0e82d24f5c3999f21", func := "bivouac/bivouaclaw05.WeatherMore", spec := "weatherMore", unfollowed := true, recurses := true, named := ["bivouac/weather.wide"], apart := false, laid := [("bivouac/weather.wide", laid_bivouac_weather_wide)], narrowed := true }
def WeatherMoreUptoSaid : Prop := weatherMoreUptoRow.holds Tryd.pinned (OpenSpec.upto weatherMoreSpec)

/-- 'bivouaclaw05.WeatherComes', WHERE WHAT IT READS IS OF BULK AT MOST 1048576: true; the input reads as it did. -/
def weatherComesUptoRow : OpenClaim := { program := "ytlcbalngfpgjdaadoor", sum := "52217cee0c674d4135ee6e1e11b791d00e68c0e3e8eef2b0e82d24f5c3999f21", func := "bivouac/bivouaclaw05.WeatherComes", spec := "weatherComes", unfollowed := true, recurses := true, named := ["bivouac/weather.wide"], apart := false, laid := [("bivouac/weather.wide", laid_bivouac_weather_wide)], narrowed := true }
def WeatherComesUptoSaid : Prop := weatherComesUptoRow.holds Tryd.pinned (OpenSpec.upto weatherComesSpec)

/-- 'bivouaclaw05.WeatherRanges', WHERE WHAT IT READS IS OF BULK AT MOST 1048576: true; the input reads as it did. -/
def weatherRangesUptoRow : OpenClaim := { program := "ytlcbalngfpgjdaadoor", sum := "52217cee0c674d4135ee6e1e11b791d00e68c0e3e8eef2b0e82d24f5c3999f21", func := "bivouac/bivouaclaw05.WeatherRanges", spec := "weatherRanges", unfollowed := true, recurses := true, named := ["bivouac/weather.wide"], apart := false, laid := [("bivouac/weather.wide", laid_bivouac_weather_wide)], narrowed := true }
def WeatherRangesUptoSaid : Prop := weatherRangesUptoRow.holds Tryd.pinned (OpenSpec.upto weatherRangesSpec)

/-- 'bivouaclaw05.WeatherTrue', WHERE WHAT IT READS IS OF BULK AT MOST 1048576: true; the input reads as it did. -/
def weatherTrueUptoRow : OpenClaim := { program := "ytlcbalngfpgjdaadoor", sum := "52217cee0c674d4135ee6e1e11b791d00e68c0e3e8eef2b0e82d24f5c3999f21", func := "bivouac/bivouaclaw05.WeatherTrue", spec := "weatherTrue", unfollowed := true, recurses := true, named := ["bivouac/weather.wide"], apart := false, laid := [("bivouac/weather.wide", laid_bivouac_weather_wide)], narrowed := true }
def WeatherTrueUptoSaid : Prop := weatherTrueUptoRow.holds Tryd.pinned (OpenSpec.upto weatherTrueSpec)

end Rows
end Go.Proofs.YtlcbalngfpgjdaaDoor
