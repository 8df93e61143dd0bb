/-
  No cell of these rows narrows 'for every input' (looked for: loops, veiled, ifaces, maps, wideKeys, modest, calm, conditions, laid).
  DERIVED. THE GIVEN ROWS OF THIS SEAT. 4 by the template 'for every input the law returns true; each argument reads behind the call as it read before'; 0 by the template 'total and deterministic' (their statements: YtnlodbjgmfmlnaaTotals.lean).
  GIVEN WITH THE SEED: the statements are not yours to turn. If you find one false, say at which input.
  Laid BY PROGRAM, IN A SANDBOX (cutbox-rows.mjs): the forced cells as the released guide's own fill.sh prints them over the translation aa096e96a8cb5f4d… (all of the seat's roots in one cut). By AI agents, Wed Nov 11 2026. No macro, syntax, notation, axiom, sorry.
-/
import Derived.Test.YtnlodbjgmfmlnaaChecked
import GoSem.Claim
import GoSem.ClaimJoined
import GoSem.ClaimMapViews
import Derived.JoinedTies
import Derived.KernelRfl
namespace Go.Proofs.Ytnlodbjgmfmlnaa
/- THE CELL 'sum', in the pinned program and in every row, IS THE sha256 OF THE DUMP (.gsa) THAT YtnlodbjgmfmlnaaProg.lean LOADS. Nothing in Lean hashes anything: it is a label: what it is worth is what the hold of that sum in a sandbox is worth. -/
noncomputable def Try.pinned : Pinned := { name := "ytnlodbjgmfmlnaa", sum := "aa096e96a8cb5f4db154fbd162dc9b138c39d788c8d6d91b257099ae379a06c2", checked := Try.checked }
namespace Rows
def none {H : Type} : Left H := { results := [], args := [] }

/-- 'bivouaclaw06.SupplyWaits': WHATEVER THE INPUT: true; the input reads as it did. -/
def supplyWaitsSpec : ChangeSpec := { name := "supplyWaits", fn := fun _ => fun
  | [d1, d2] => { results := [.lit (.bool true)], args := [d1, d2] }
  | _ => none }
def supplyWaitsRow : OpenClaim := { program := "ytnlodbjgmfmlnaa", sum := "aa096e96a8cb5f4db154fbd162dc9b138c39d788c8d6d91b257099ae379a06c2", func := "bivouac/bivouaclaw06.SupplyWaits", spec := "supplyWaits", unfollowed := true, recurses := true, plainKeys := false, apart := false }
def SupplyWaitsSaid : Prop := supplyWaitsRow.holds Try.pinned (OpenSpec.ofChange supplyWaitsSpec)

/-- ITS FALSE NEIGHBOUR: 'it returns false'. Refute it at one input. -/
def supplyWaitsWrong : ChangeSpec := { name := "supplyWaits", fn := fun _ => fun
  | [d1, d2] => { results := [.lit (.bool false)], args := [d1, d2] }
  | _ => none }
def SupplyWaitsWrongFalsely : Prop := supplyWaitsRow.holds Try.pinned (OpenSpec.ofChange supplyWaitsWrong)

/-- 'bivouaclaw06.SupplySeen': WHATEVER THE INPUT: true; the input reads as it did. -/
def supplySeenSpec : ChangeSpec := { name := "supplySeen", fn := fun _ => fun
  | [d1, d2] => { results := [.lit (.bool true)], args := [d1, d2] }
  | _ => none }
def supplySeenRow : OpenClaim := { program := "ytnlodbjgmfmlnaa", sum := "aa096e96a8cb5f4db154fbd162dc9b138c39d788c8d6d91b257099ae379a06c2", func := "bivouac/bivouaclaw06.SupplySeen", spec := "supplySeen", unfollowed := true, recurses := true, plainKeys := false, apart := false }
def SupplySeenSaid : Prop := supplySeenRow.holds Try.pinned (OpenSpec.ofChange supplySeenSpec)

/-- ITS FALSE NEIGHBOUR: 'it returns false'. Refute it at one input. -/
def supplySeenWrong : ChangeSpec := { name := "supplySeen", fn := fun _ => fun
  | [d1, d2] => { results := [.lit (.bool false)], args := [d1, d2] }
  | _ => none }
def SupplySeenWrongFalsely : Prop := supplySeenRow.holds Try.pinned (OpenSpec.ofChange supplySeenWrong)

/-- 'bivouaclaw06.SupplyWeather': WHATEVER THE INPUT: true; the input reads as it did. -/
def supplyWeatherSpec : ChangeSpec := { name := "supplyWeather", fn := fun _ => fun
  | [d1, d2] => { results := [.lit (.bool true)], args := [d1, d2] }
  | _ => none }
def supplyWeatherRow : OpenClaim := { program := "ytnlodbjgmfmlnaa", sum := "aa096e96a8cb5f4db154fbd162dc9b138c39d788c8d6d91b257099ae379a06c2", func := "bivouac/bivouaclaw06.SupplyWeather", spec := "supplyWeather", unfollowed := true, recurses := true, plainKeys := false, apart := false }
def SupplyWeatherSaid : Prop := supplyWeatherRow.holds Try.pinned (OpenSpec.ofChange supplyWeatherSpec)

/-- ITS FALSE NEIGHBOUR: 'it returns false'. Refute it at one input. -/
def supplyWeatherWrong : ChangeSpec := { name := "supplyWeather", fn := fun _ => fun
  | [d1, d2] => { results := [.lit (.bool false)], args := [d1, d2] }
  | _ => none }
def SupplyWeatherWrongFalsely : Prop := supplyWeatherRow.holds Try.pinned (OpenSpec.ofChange supplyWeatherWrong)

/-- 'bivouaclaw06.SupplyEasier': WHATEVER THE INPUT: true; the input reads as it did. -/
def supplyEasierSpec : ChangeSpec := { name := "supplyEasier", fn := fun _ => fun
  | [d1, d2] => { results := [.lit (.bool true)], args := [d1, d2] }
  | _ => none }
def supplyEasierRow : OpenClaim := { program := "ytnlodbjgmfmlnaa", sum := "aa096e96a8cb5f4db154fbd162dc9b138c39d788c8d6d91b257099ae379a06c2", func := "bivouac/bivouaclaw06.SupplyEasier", spec := "supplyEasier", unfollowed := true, recurses := true, plainKeys := false, apart := false }
def SupplyEasierSaid : Prop := supplyEasierRow.holds Try.pinned (OpenSpec.ofChange supplyEasierSpec)

/-- ITS FALSE NEIGHBOUR: 'it returns false'. Refute it at one input. -/
def supplyEasierWrong : ChangeSpec := { name := "supplyEasier", fn := fun _ => fun
  | [d1, d2] => { results := [.lit (.bool false)], args := [d1, d2] }
  | _ => none }
def SupplyEasierWrongFalsely : Prop := supplyEasierRow.holds Try.pinned (OpenSpec.ofChange supplyEasierWrong)

/- THE SECOND FORM. 'bulk': how many values and letters a reading holds, each counted each time it is reached (what is shared counts as often as it is met; a slice's spare places count too). A statement '..UptoSaid' is the law's where the arguments, and the package variables that the reading takes, are together of bulk at most 1048576: NARROWER than '..Said'. Prove '..Said' where nothing that the law and all that it calls make is longer than what came in: it says more and counts as full. Else prove '..UptoSaid'. A law counts once. -/
mutual
def uptoBulk {H : Type} : DataW H → Nat
  | .lit (.string bytes) => bytes.length + 1
  | .lit _ => 1
  | .nil => 1
  | .ptr d => uptoBulk d + 1
  | .slice elems spare => uptoBulkAll elems + uptoBulkAll spare + 1
  | .agg parts => uptoBulkAll parts + 1
  | .iface _ d => uptoBulk d + 1
  | .map entries => uptoBulkEntries entries + 1
  | .held _ => 1
def uptoBulkAll {H : Type} : List (DataW H) → Nat
  | [] => 0
  | d :: r => uptoBulk d + uptoBulkAll r
def uptoBulkEntries {H : Type} : List (Lit × DataW H) → Nat
  | [] => 0
  | x :: r => uptoBulkEntry x + uptoBulkEntries r
def uptoBulkEntry {H : Type} : Lit × DataW H → Nat
  | (.string bytes, d) => bytes.length + uptoBulk d + 1
  | (_, d) => uptoBulk d + 1
 end
def uptoSmall : (H : Type) → List (DataW H) → Bool := fun _ ds => decide (uptoBulkAll ds ≤ 1048576)
def OpenSpec.upto (s : _root_.Go.ChangeSpec) : _root_.Go.OpenSpec := { _root_.Go.OpenSpec.ofChange s with cond := some uptoSmall }

/-- 'bivouaclaw06.SupplyWaits', WHERE WHAT IT READS IS OF BULK AT MOST 1048576: true; the input reads as it did. -/
def supplyWaitsUptoRow : OpenClaim := { program := "ytnlodbjgmfmlnaa", sum := "aa096e96a8cb5f4db154fbd162dc9b138c39d788c8d6d91b257099ae379a06c2", func := "bivouac/bivouaclaw06.SupplyWaits", spec := "supplyWaits", unfollowed := true, recurses := true, plainKeys := false, apart := false, narrowed := true }
def SupplyWaitsUptoSaid : Prop := supplyWaitsUptoRow.holds Try.pinned (OpenSpec.upto supplyWaitsSpec)

/-- 'bivouaclaw06.SupplySeen', WHERE WHAT IT READS IS OF BULK AT MOST 1048576: true; the input reads as it did. -/
def supplySeenUptoRow : OpenClaim := { program := "ytnlodbjgmfmlnaa", sum := "aa096e96a8cb5f4db154fbd162dc9b138c39d788c8d6d91b257099ae379a06c2", func := "bivouac/bivouaclaw06.SupplySeen", spec := "supplySeen", unfollowed := true, recurses := true, plainKeys := false, apart := false, narrowed := true }
def SupplySeenUptoSaid : Prop := supplySeenUptoRow.holds Try.pinned (OpenSpec.upto supplySeenSpec)

/-- 'bivouaclaw06.SupplyWeather', WHERE WHAT IT READS IS OF BULK AT MOST 1048576: true; the input reads as it did. -/
def supplyWeatherUptoRow : OpenClaim := { program := "ytnlodbjgmfmlnaa", sum := "aa096e96a8cb5f4db154fbd162dc9b138c39d788c8d6d91b257099ae379a06c2", func := "bivouac/bivouaclaw06.SupplyWeather", spec := "supplyWeather", unfollowed := true, recurses := true, plainKeys := false, apart := false, narrowed := true }
def SupplyWeatherUptoSaid : Prop := supplyWeatherUptoRow.holds Try.pinned (OpenSpec.upto supplyWeatherSpec)

/-- 'bivouaclaw06.SupplyEasier', WHERE WHAT IT READS IS OF BULK AT MOST 1048576: true; the input reads as it did. -/
def supplyEasierUptoRow : OpenClaim := { program := "ytnlodbjgmfmlnaa", sum := "aa096e96a8cb5f4db154fbd162dc9b138c39d788c8d6d91b257099ae379a06c2", func := "bivouac/bivouaclaw06.SupplyEasier", spec := "supplyEasier", unfollowed := true, recurses := true, plainKeys := false, apart := false, narrowed := true }
def SupplyEasierUptoSaid : Prop := supplyEasierUptoRow.holds Try.pinned (OpenSpec.upto supplyEasierSpec)

end Rows
end Go.Proofs.Ytnlodbjgmfmlnaa
