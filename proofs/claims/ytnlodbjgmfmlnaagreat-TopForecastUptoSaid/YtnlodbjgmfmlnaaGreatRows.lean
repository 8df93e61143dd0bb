/-
  No cell of these rows narrows 'for every input' (looked for: loops, veiled, ifaces, maps, wideKeys, modest, calm, conditions, laid).
  DERIVED. THE GIVEN ROWS OF THIS SEAT. 8 by the template 'for every input the law returns true; each argument reads behind the call as it read before'; 0 by the template 'total and deterministic' (their statements: YtnlodbjgmfmlnaaGreatTotals.lean).
  GIVEN WITH THE SEED: the statements are not yours to turn. If you find one false, say at which input.
  Laid BY PROGRAM, IN A SANDBOX (cutbox-rows.mjs): the forced cells as the released guide's own fill.sh prints them over the translation 42ffd15fe7961fb9… (all of the seat's roots in one cut). By AI agents, Wed Nov 11 2026. No macro, syntax, notation, axiom, sorry.
-/
import Derived.Test.YtnlodbjgmfmlnaaGreatChecked
import GoSem.Claim
import GoSem.ClaimJoined
import GoSem.ClaimMapViews
import Derived.JoinedTies
import Derived.KernelRfl
namespace Go.Proofs.YtnlodbjgmfmlnaaGreat
/- THE CELL 'sum', in the pinned program and in every row, IS THE sha256 OF THE DUMP (.gsa) THAT YtnlodbjgmfmlnaaGreatProg.lean LOADS. Nothing in Lean hashes anything: it is a label: what it is worth is what the hold of that sum in a sandbox is worth. -/
noncomputable def Tryz.pinned : Pinned := { name := "ytnlodbjgmfmlnaagreat", sum := "42ffd15fe7961fb9887904d4aee78736993da071dd66f92bdf24947992cb16d8", checked := Tryz.checked }
namespace Rows
def none {H : Type} : Left H := { results := [], args := [] }

/-- 'bivouaclaw06.SupplyStocks': WHATEVER THE INPUT: true; the input reads as it did. -/
def supplyStocksSpec : ChangeSpec := { name := "supplyStocks", fn := fun _ => fun
  | [d1, d2, d3] => { results := [.lit (.bool true)], args := [d1, d2, d3] }
  | _ => none }
def supplyStocksRow : OpenClaim := { program := "ytnlodbjgmfmlnaagreat", sum := "42ffd15fe7961fb9887904d4aee78736993da071dd66f92bdf24947992cb16d8", func := "bivouac/bivouaclaw06.SupplyStocks", spec := "supplyStocks", unfollowed := true, recurses := true, plainKeys := false, apart := false }
def SupplyStocksSaid : Prop := supplyStocksRow.holds Tryz.pinned (OpenSpec.ofChange supplyStocksSpec)

/-- ITS FALSE NEIGHBOUR: 'it returns false'. Refute it at one input. -/
def supplyStocksWrong : ChangeSpec := { name := "supplyStocks", fn := fun _ => fun
  | [d1, d2, d3] => { results := [.lit (.bool false)], args := [d1, d2, d3] }
  | _ => none }
def SupplyStocksWrongFalsely : Prop := supplyStocksRow.holds Tryz.pinned (OpenSpec.ofChange supplyStocksWrong)

/-- 'bivouaclaw06.SupplyKept': WHATEVER THE INPUT: true; the input reads as it did. -/
def supplyKeptSpec : ChangeSpec := { name := "supplyKept", fn := fun _ => fun
  | [d1, d2, d3] => { results := [.lit (.bool true)], args := [d1, d2, d3] }
  | _ => none }
def supplyKeptRow : OpenClaim := { program := "ytnlodbjgmfmlnaagreat", sum := "42ffd15fe7961fb9887904d4aee78736993da071dd66f92bdf24947992cb16d8", func := "bivouac/bivouaclaw06.SupplyKept", spec := "supplyKept", unfollowed := true, recurses := true, plainKeys := false, apart := false }
def SupplyKeptSaid : Prop := supplyKeptRow.holds Tryz.pinned (OpenSpec.ofChange supplyKeptSpec)

/-- ITS FALSE NEIGHBOUR: 'it returns false'. Refute it at one input. -/
def supplyKeptWrong : ChangeSpec := { name := "supplyKept", fn := fun _ => fun
  | [d1, d2, d3] => { results := [.lit (.bool false)], args := [d1, d2, d3] }
  | _ => none }
def SupplyKeptWrongFalsely : Prop := supplyKeptRow.holds Tryz.pinned (OpenSpec.ofChange supplyKeptWrong)

/-- 'bivouaclaw06.SupplyLoads': WHATEVER THE INPUT: true; the input reads as it did. -/
def supplyLoadsSpec : ChangeSpec := { name := "supplyLoads", fn := fun _ => fun
  | [d1, d2, d3] => { results := [.lit (.bool true)], args := [d1, d2, d3] }
  | _ => none }
def supplyLoadsRow : OpenClaim := { program := "ytnlodbjgmfmlnaagreat", sum := "42ffd15fe7961fb9887904d4aee78736993da071dd66f92bdf24947992cb16d8", func := "bivouac/bivouaclaw06.SupplyLoads", spec := "supplyLoads", unfollowed := true, recurses := true, plainKeys := false, apart := false }
def SupplyLoadsSaid : Prop := supplyLoadsRow.holds Tryz.pinned (OpenSpec.ofChange supplyLoadsSpec)

/-- ITS FALSE NEIGHBOUR: 'it returns false'. Refute it at one input. -/
def supplyLoadsWrong : ChangeSpec := { name := "supplyLoads", fn := fun _ => fun
  | [d1, d2, d3] => { results := [.lit (.bool false)], args := [d1, d2, d3] }
  | _ => none }
def SupplyLoadsWrongFalsely : Prop := supplyLoadsRow.holds Tryz.pinned (OpenSpec.ofChange supplyLoadsWrong)

/-- 'bivouaclaw06.SupplyEnough': WHATEVER THE INPUT: true; the input reads as it did. -/
def supplyEnoughSpec : ChangeSpec := { name := "supplyEnough", fn := fun _ => fun
  | [d1, d2] => { results := [.lit (.bool true)], args := [d1, d2] }
  | _ => none }
def supplyEnoughRow : OpenClaim := { program := "ytnlodbjgmfmlnaagreat", sum := "42ffd15fe7961fb9887904d4aee78736993da071dd66f92bdf24947992cb16d8", func := "bivouac/bivouaclaw06.SupplyEnough", spec := "supplyEnough", unfollowed := true, recurses := true, plainKeys := false, apart := false }
def SupplyEnoughSaid : Prop := supplyEnoughRow.holds Tryz.pinned (OpenSpec.ofChange supplyEnoughSpec)

/-- ITS FALSE NEIGHBOUR: 'it returns false'. Refute it at one input. -/
def supplyEnoughWrong : ChangeSpec := { name := "supplyEnough", fn := fun _ => fun
  | [d1, d2] => { results := [.lit (.bool false)], args := [d1, d2] }
  | _ => none }
def SupplyEnoughWrongFalsely : Prop := supplyEnoughRow.holds Tryz.pinned (OpenSpec.ofChange supplyEnoughWrong)

/-- 'bivouactop.TopScenario': WHATEVER THE INPUT: true; the input reads as it did. -/
def topScenarioSpec : ChangeSpec := { name := "topScenario", fn := fun _ => fun
  | [d1, d2] => { results := [.lit (.bool true)], args := [d1, d2] }
  | _ => none }
def topScenarioRow : OpenClaim := { program := "ytnlodbjgmfmlnaagreat", sum := "42ffd15fe7961fb9887904d4aee78736993da071dd66f92bdf24947992cb16d8", func := "bivouac/bivouactop.TopScenario", spec := "topScenario", unfollowed := true, recurses := true, plainKeys := false, apart := false }
def TopScenarioSaid : Prop := topScenarioRow.holds Tryz.pinned (OpenSpec.ofChange topScenarioSpec)

/-- ITS FALSE NEIGHBOUR: 'it returns false'. Refute it at one input. -/
def topScenarioWrong : ChangeSpec := { name := "topScenario", fn := fun _ => fun
  | [d1, d2] => { results := [.lit (.bool false)], args := [d1, d2] }
  | _ => none }
def TopScenarioWrongFalsely : Prop := topScenarioRow.holds Tryz.pinned (OpenSpec.ofChange topScenarioWrong)

/-- 'bivouactop.TopFuelled': WHATEVER THE INPUT: true; the input reads as it did. -/
def topFuelledSpec : ChangeSpec := { name := "topFuelled", fn := fun _ => fun
  | [d1, d2] => { results := [.lit (.bool true)], args := [d1, d2] }
  | _ => none }
def topFuelledRow : OpenClaim := { program := "ytnlodbjgmfmlnaagreat", sum := "42ffd15fe7961fb9887904d4aee78736993da071dd66f92bdf24947992cb16d8", func := "bivouac/bivouactop.TopFuelled", spec := "topFuelled", unfollowed := true, recurses := true, plainKeys := false, apart := false }
def TopFuelledSaid : Prop := topFuelledRow.holds Tryz.pinned (OpenSpec.ofChange topFuelledSpec)

/-- ITS FALSE NEIGHBOUR: 'it returns false'. Refute it at one input. -/
def topFuelledWrong : ChangeSpec := { name := "topFuelled", fn := fun _ => fun
  | [d1, d2] => { results := [.lit (.bool false)], args := [d1, d2] }
  | _ => none }
def TopFuelledWrongFalsely : Prop := topFuelledRow.holds Tryz.pinned (OpenSpec.ofChange topFuelledWrong)

/-- 'bivouactop.TopStocked': WHATEVER THE INPUT: true; the input reads as it did. -/
def topStockedSpec : ChangeSpec := { name := "topStocked", fn := fun _ => fun
  | [d1, d2, d3] => { results := [.lit (.bool true)], args := [d1, d2, d3] }
  | _ => none }
def topStockedRow : OpenClaim := { program := "ytnlodbjgmfmlnaagreat", sum := "42ffd15fe7961fb9887904d4aee78736993da071dd66f92bdf24947992cb16d8", func := "bivouac/bivouactop.TopStocked", spec := "topStocked", unfollowed := true, recurses := true, plainKeys := false, apart := false }
def TopStockedSaid : Prop := topStockedRow.holds Tryz.pinned (OpenSpec.ofChange topStockedSpec)

/-- ITS FALSE NEIGHBOUR: 'it returns false'. Refute it at one input. -/
def topStockedWrong : ChangeSpec := { name := "topStocked", fn := fun _ => fun
  | [d1, d2, d3] => { results := [.lit (.bool false)], args := [d1, d2, d3] }
  | _ => none }
def TopStockedWrongFalsely : Prop := topStockedRow.holds Tryz.pinned (OpenSpec.ofChange topStockedWrong)

/-- 'bivouactop.TopForecast': WHATEVER THE INPUT: true; the input reads as it did. -/
def topForecastSpec : ChangeSpec := { name := "topForecast", fn := fun _ => fun
  | [d1, d2, d3] => { results := [.lit (.bool true)], args := [d1, d2, d3] }
  | _ => none }
def topForecastRow : OpenClaim := { program := "ytnlodbjgmfmlnaagreat", sum := "42ffd15fe7961fb9887904d4aee78736993da071dd66f92bdf24947992cb16d8", func := "bivouac/bivouactop.TopForecast", spec := "topForecast", unfollowed := true, recurses := true, plainKeys := false, apart := false }
def TopForecastSaid : Prop := topForecastRow.holds Tryz.pinned (OpenSpec.ofChange topForecastSpec)

/-- ITS FALSE NEIGHBOUR: 'it returns false'. Refute it at one input. -/
def topForecastWrong : ChangeSpec := { name := "topForecast", fn := fun _ => fun
  | [d1, d2, d3] => { results := [.lit (.bool false)], args := [d1, d2, d3] }
  | _ => none }
def TopForecastWrongFalsely : Prop := topForecastRow.holds Tryz.pinned (OpenSpec.ofChange topForecastWrong)

/- THE SECOND FORM. 'bulk': how many values and letters a reading holds, each counted each time it is reached (what is shared counts as often as it is met; a slice's spare places count too). A statement '..UptoSaid' is the law's where the arguments, and the package variables that the reading takes, are together of bulk at most 1048576: NARROWER than '..Said'. Prove '..Said' where nothing that the law and all that it calls make is longer than what came in: it says more and counts as full. Else prove '..UptoSaid'. A law counts once. -/
mutual
def uptoBulk {H : Type} : DataW H → Nat
  | .lit (.string bytes) => bytes.length + 1
  | .lit _ => 1
  | .nil => 1
  | .ptr d => uptoBulk d + 1
  | .slice elems spare => uptoBulkAll elems + uptoBulkAll spare + 1
  | .agg parts => uptoBulkAll parts + 1
  | .iface _ d => uptoBulk d + 1
  | .map entries => uptoBulkEntries entries + 1
  | .held _ => 1
def uptoBulkAll {H : Type} : List (DataW H) → Nat
  | [] => 0
  | d :: r => uptoBulk d + uptoBulkAll r
def uptoBulkEntries {H : Type} : List (Lit × DataW H) → Nat
  | [] => 0
  | x :: r => uptoBulkEntry x + uptoBulkEntries r
def uptoBulkEntry {H : Type} : Lit × DataW H → Nat
  | (.string bytes, d) => bytes.length + uptoBulk d + 1
  | (_, d) => uptoBulk d + 1
 end
def uptoSmall : (H : Type) → List (DataW H) → Bool := fun _ ds => decide (uptoBulkAll ds ≤ 1048576)
def OpenSpec.upto (s : _root_.Go.ChangeSpec) : _root_.Go.OpenSpec := { _root_.Go.OpenSpec.ofChange s with cond := some uptoSmall }

/-- 'bivouaclaw06.SupplyStocks', WHERE WHAT IT READS IS OF BULK AT MOST 1048576: true; the input reads as it did. -/
def supplyStocksUptoRow : OpenClaim := { program := "ytnlodbjgmfmlnaagreat", sum := "42ffd15fe7961fb9887904d4aee78736993da071dd66f92bdf24947992cb16d8", func := "bivouac/bivouaclaw06.SupplyStocks", spec := "supplyStocks", unfollowed := true, recurses := true, plainKeys := false, apart := false, narrowed := true }
def SupplyStocksUptoSaid : Prop := supplyStocksUptoRow.holds Tryz.pinned (OpenSpec.upto supplyStocksSpec)

/-- 'bivouaclaw06.SupplyKept', WHERE WHAT IT READS IS OF BULK AT MOST 1048576: true; the input reads as it did. -/
def supplyKeptUptoRow : OpenClaim := { program := "ytnlodbjgmfmlnaagreat", sum := "42ffd15fe7961fb9887904d4aee78736993da071dd66f92bdf24947992cb16d8", func := "bivouac/bivouaclaw06.SupplyKept", spec := "supplyKept", unfollowed := true, recurses := true, plainKeys := false, apart := false, narrowed := true }
def SupplyKeptUptoSaid : Prop := supplyKeptUptoRow.holds Tryz.pinned (OpenSpec.upto supplyKeptSpec)

/-- 'bivouaclaw06.SupplyLoads', WHERE WHAT IT READS IS OF BULK AT MOST 1048576: true; the input reads as it did. -/
def supplyLoadsUptoRow : OpenClaim := { program := "ytnlodbjgmfmlnaagreat", sum := "42ffd15fe7961fb9887904d4aee78736993da071dd66f92bdf24947992cb16d8", func := "bivouac/bivouaclaw06.SupplyLoads", spec := "supplyLoads", unfollowed := true, recurses := true, plainKeys := false, apart := false, narrowed := true }
def SupplyLoadsUptoSaid : Prop := supplyLoadsUptoRow.holds Tryz.pinned (OpenSpec.upto supplyLoadsSpec)

/-- 'bivouaclaw06.SupplyEnough', WHERE WHAT IT READS IS OF BULK AT MOST 1048576: true; the input reads as it did. -/
def supplyEnoughUptoRow : OpenClaim := { program := "ytnlodbjgmfmlnaagreat", sum := "42ffd15fe7961fb9887904d4aee78736993da071dd66f92bdf24947992cb16d8", func := "bivouac/bivouaclaw06.SupplyEnough", spec := "supplyEnough", unfollowed := true, recurses := true, plainKeys := false, apart := false, narrowed := true }
def SupplyEnoughUptoSaid : Prop := supplyEnoughUptoRow.holds Tryz.pinned (OpenSpec.upto supplyEnoughSpec)

/-- 'bivouactop.TopScenario', WHERE WHAT IT READS IS OF BULK AT MOST 1048576: true; the input reads as it did. -/
def topScenarioUptoRow : OpenClaim := { program := "ytnlodbjgmfmlnaagreat", sum := "42ffd15fe7961fb9887904d4aee78736993da071dd66f92bdf24947992cb16d8", func := "bivouac/bivouactop.TopScenario", spec := "topScenario", unfollowed := true, recurses := true, plainKeys := false, apart := false, narrowed := true }
def TopScenarioUptoSaid : Prop := topScenarioUptoRow.holds Tryz.pinned (OpenSpec.upto topScenarioSpec)

/-- 'bivouactop.TopFuelled', WHERE WHAT IT READS IS OF BULK AT MOST 1048576: true; the input reads as it did. -/
def topFuelledUptoRow : OpenClaim := { program := "ytnlodbjgmfmlnaagreat", sum := "42ffd15fe7961fb9887904d4aee78736993da071dd66f92bdf24947992cb16d8", func := "bivouac/bivouactop.TopFuelled", spec := "topFuelled", unfollowed := true, recurses := true, plainKeys := false, apart := false, narrowed := true }
def TopFuelledUptoSaid : Prop := topFuelledUptoRow.holds Tryz.pinned (OpenSpec.upto topFuelledSpec)

/-- 'bivouactop.TopStocked', WHERE WHAT IT READS IS OF BULK AT MOST 1048576: true; the input reads as it did. -/
def topStockedUptoRow : OpenClaim := { program := "ytnlodbjgmfmlnaagreat", sum := "42ffd15fe7961fb9887904d4aee78736993da071dd66f92bdf24947992cb16d8", func := "bivouac/bivouactop.TopStocked", spec := "topStocked", unfollowed := true, recurses := true, plainKeys := false, apart := false, narrowed := true }
def TopStockedUptoSaid : Prop := topStockedUptoRow.holds Tryz.pinned (OpenSpec.upto topStockedSpec)

/-- 'bivouactop.TopForecast', WHERE WHAT IT READS IS OF BULK AT MOST 1048576: true; the input reads as it did. -/
def topForecastUptoRow : OpenClaim := { program := "ytnlodbjgmfmlnaagreat", sum := "42ffd15fe7961fb9887904d4aee78736993da071dd66f92bdf24947992cb16d8", func := "bivouac/bivouactop.TopForecast", spec := "topForecast", unfollowed := true, recurses := true, plainKeys := false, apart := false, narrowed := true }
def TopForecastUptoSaid : Prop := topForecastUptoRow.holds Tryz.pinned (OpenSpec.upto topForecastSpec)

end Rows
end Go.Proofs.YtnlodbjgmfmlnaaGreat
