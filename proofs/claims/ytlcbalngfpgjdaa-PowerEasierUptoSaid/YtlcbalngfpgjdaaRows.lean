/-
  No cell of these rows narrows 'for every input' (looked for: loops, veiled, ifaces, maps, wideKeys, modest, calm, conditions, laid).
  DERIVED. THE GIVEN ROWS OF THIS SEAT. 11 by the template 'for every input the law returns true; each argument reads behind the call as it read before'; 0 by the template 'total and deterministic' (their statements: YtlcbalngfpgjdaaTotals.lean).
  GIVEN WITH THE SEED: the statements are not yours to turn. If you find one false, say at which input.
  Laid BY PROGRAM, IN A SANDBOX (cutbox-rows.mjs): the forced cells as the released guide's own fill.sh prints them over the translation 625935658da22ed5… (all of the seat's roots in one cut). By AI agents, Wed Nov 11 2026. No macro, syntax, notation, axiom, sorry.
-/
import Derived.Test.YtlcbalngfpgjdaaChecked
import GoSem.Claim
import GoSem.ClaimJoined
import GoSem.ClaimMapViews
import Derived.JoinedTies
import Derived.KernelRfl
namespace Go.Proofs.Ytlcbalngfpgjdaa
/- THE CELL 'sum', in the pinned program and in every row, IS THE sha256 OF THE DUMP (.gsa) THAT YtlcbalngfpgjdaaProg.lean LOADS. Nothing in Lean hashes anything: it is a label: what it is worth is what the hold of that sum in a sandbox is worth. -/
noncomputable def Try.pinned : Pinned := { name := "ytlcbalngfpgjdaa", sum := "625935658da22ed5c634cd65f12646bd33ea6dd5a435069e03952addcd9379fc", checked := Try.checked }
namespace Rows
def none {H : Type} : Left H := { results := [], args := [] }

/-- 'bivouaclaw10.PowerEasier': WHATEVER THE INPUT: true; the input reads as it did. -/
def powerEasierSpec : ChangeSpec := { name := "powerEasier", fn := fun _ => fun
  | [d1, d2] => { results := [.lit (.bool true)], args := [d1, d2] }
  | _ => none }
def powerEasierRow : OpenClaim := { program := "ytlcbalngfpgjdaa", sum := "625935658da22ed5c634cd65f12646bd33ea6dd5a435069e03952addcd9379fc", func := "bivouac/bivouaclaw10.PowerEasier", spec := "powerEasier", unfollowed := true, recurses := true, apart := false }
def PowerEasierSaid : Prop := powerEasierRow.holds Try.pinned (OpenSpec.ofChange powerEasierSpec)

/-- ITS FALSE NEIGHBOUR: 'it returns false'. Refute it at one input. -/
def powerEasierWrong : ChangeSpec := { name := "powerEasier", fn := fun _ => fun
  | [d1, d2] => { results := [.lit (.bool false)], args := [d1, d2] }
  | _ => none }
def PowerEasierWrongFalsely : Prop := powerEasierRow.holds Try.pinned (OpenSpec.ofChange powerEasierWrong)

/-- 'bivouaclaw10.PowerPlans': WHATEVER THE INPUT: true; the input reads as it did. -/
def powerPlansSpec : ChangeSpec := { name := "powerPlans", fn := fun _ => fun
  | [d] => { results := [.lit (.bool true)], args := [d] }
  | _ => none }
def powerPlansRow : OpenClaim := { program := "ytlcbalngfpgjdaa", sum := "625935658da22ed5c634cd65f12646bd33ea6dd5a435069e03952addcd9379fc", func := "bivouac/bivouaclaw10.PowerPlans", spec := "powerPlans", unfollowed := true, recurses := true, apart := false }
def PowerPlansSaid : Prop := powerPlansRow.holds Try.pinned (OpenSpec.ofChange powerPlansSpec)

/-- ITS FALSE NEIGHBOUR: 'it returns false'. Refute it at one input. -/
def powerPlansWrong : ChangeSpec := { name := "powerPlans", fn := fun _ => fun
  | [d] => { results := [.lit (.bool false)], args := [d] }
  | _ => none }
def PowerPlansWrongFalsely : Prop := powerPlansRow.holds Try.pinned (OpenSpec.ofChange powerPlansWrong)

/-- 'bivouaclaw10.PowerLate': WHATEVER THE INPUT: true; the input reads as it did. -/
def powerLateSpec : ChangeSpec := { name := "powerLate", fn := fun _ => fun
  | [d1, d2] => { results := [.lit (.bool true)], args := [d1, d2] }
  | _ => none }
def powerLateRow : OpenClaim := { program := "ytlcbalngfpgjdaa", sum := "625935658da22ed5c634cd65f12646bd33ea6dd5a435069e03952addcd9379fc", func := "bivouac/bivouaclaw10.PowerLate", spec := "powerLate", unfollowed := true, recurses := true, apart := false }
def PowerLateSaid : Prop := powerLateRow.holds Try.pinned (OpenSpec.ofChange powerLateSpec)

/-- ITS FALSE NEIGHBOUR: 'it returns false'. Refute it at one input. -/
def powerLateWrong : ChangeSpec := { name := "powerLate", fn := fun _ => fun
  | [d1, d2] => { results := [.lit (.bool false)], args := [d1, d2] }
  | _ => none }
def PowerLateWrongFalsely : Prop := powerLateRow.holds Try.pinned (OpenSpec.ofChange powerLateWrong)

/-- 'bivouaclaw10.PowerEdge': WHATEVER THE INPUT: true; the input reads as it did. -/
def powerEdgeSpec : ChangeSpec := { name := "powerEdge", fn := fun _ => fun
  | [d1, d2, d3] => { results := [.lit (.bool true)], args := [d1, d2, d3] }
  | _ => none }
def powerEdgeRow : OpenClaim := { program := "ytlcbalngfpgjdaa", sum := "625935658da22ed5c634cd65f12646bd33ea6dd5a435069e03952addcd9379fc", func := "bivouac/bivouaclaw10.PowerEdge", spec := "powerEdge", unfollowed := true, recurses := true, apart := false }
def PowerEdgeSaid : Prop := powerEdgeRow.holds Try.pinned (OpenSpec.ofChange powerEdgeSpec)

/-- ITS FALSE NEIGHBOUR: 'it returns false'. Refute it at one input. -/
def powerEdgeWrong : ChangeSpec := { name := "powerEdge", fn := fun _ => fun
  | [d1, d2, d3] => { results := [.lit (.bool false)], args := [d1, d2, d3] }
  | _ => none }
def PowerEdgeWrongFalsely : Prop := powerEdgeRow.holds Try.pinned (OpenSpec.ofChange powerEdgeWrong)

/-- 'bivouaclaw10.PowerSpares': WHATEVER THE INPUT: true; the input reads as it did. -/
def powerSparesSpec : ChangeSpec := { name := "powerSpares", fn := fun _ => fun
  | [d] => { results := [.lit (.bool true)], args := [d] }
  | _ => none }
def powerSparesRow : OpenClaim := { program := "ytlcbalngfpgjdaa", sum := "625935658da22ed5c634cd65f12646bd33ea6dd5a435069e03952addcd9379fc", func := "bivouac/bivouaclaw10.PowerSpares", spec := "powerSpares", unfollowed := true, recurses := true, apart := false }
def PowerSparesSaid : Prop := powerSparesRow.holds Try.pinned (OpenSpec.ofChange powerSparesSpec)

/-- ITS FALSE NEIGHBOUR: 'it returns false'. Refute it at one input. -/
def powerSparesWrong : ChangeSpec := { name := "powerSpares", fn := fun _ => fun
  | [d] => { results := [.lit (.bool false)], args := [d] }
  | _ => none }
def PowerSparesWrongFalsely : Prop := powerSparesRow.holds Try.pinned (OpenSpec.ofChange powerSparesWrong)

/-- 'bivouaclaw10.PowerLasting': WHATEVER THE INPUT: true; the input reads as it did. -/
def powerLastingSpec : ChangeSpec := { name := "powerLasting", fn := fun _ => fun
  | [d1, d2] => { results := [.lit (.bool true)], args := [d1, d2] }
  | _ => none }
def powerLastingRow : OpenClaim := { program := "ytlcbalngfpgjdaa", sum := "625935658da22ed5c634cd65f12646bd33ea6dd5a435069e03952addcd9379fc", func := "bivouac/bivouaclaw10.PowerLasting", spec := "powerLasting", unfollowed := true, recurses := true, apart := false }
def PowerLastingSaid : Prop := powerLastingRow.holds Try.pinned (OpenSpec.ofChange powerLastingSpec)

/-- ITS FALSE NEIGHBOUR: 'it returns false'. Refute it at one input. -/
def powerLastingWrong : ChangeSpec := { name := "powerLasting", fn := fun _ => fun
  | [d1, d2] => { results := [.lit (.bool false)], args := [d1, d2] }
  | _ => none }
def PowerLastingWrongFalsely : Prop := powerLastingRow.holds Try.pinned (OpenSpec.ofChange powerLastingWrong)

/-- 'bivouaclaw10.PowerKept': WHATEVER THE INPUT: true; the input reads as it did. -/
def powerKeptSpec : ChangeSpec := { name := "powerKept", fn := fun _ => fun
  | [d1, d2, d3] => { results := [.lit (.bool true)], args := [d1, d2, d3] }
  | _ => none }
def powerKeptRow : OpenClaim := { program := "ytlcbalngfpgjdaa", sum := "625935658da22ed5c634cd65f12646bd33ea6dd5a435069e03952addcd9379fc", func := "bivouac/bivouaclaw10.PowerKept", spec := "powerKept", unfollowed := true, recurses := true, apart := false }
def PowerKeptSaid : Prop := powerKeptRow.holds Try.pinned (OpenSpec.ofChange powerKeptSpec)

/-- ITS FALSE NEIGHBOUR: 'it returns false'. Refute it at one input. -/
def powerKeptWrong : ChangeSpec := { name := "powerKept", fn := fun _ => fun
  | [d1, d2, d3] => { results := [.lit (.bool false)], args := [d1, d2, d3] }
  | _ => none }
def PowerKeptWrongFalsely : Prop := powerKeptRow.holds Try.pinned (OpenSpec.ofChange powerKeptWrong)

/-- 'bivouaclaw10.PowerWithin': WHATEVER THE INPUT: true; the input reads as it did. -/
def powerWithinSpec : ChangeSpec := { name := "powerWithin", fn := fun _ => fun
  | [d1, d2] => { results := [.lit (.bool true)], args := [d1, d2] }
  | _ => none }
def powerWithinRow : OpenClaim := { program := "ytlcbalngfpgjdaa", sum := "625935658da22ed5c634cd65f12646bd33ea6dd5a435069e03952addcd9379fc", func := "bivouac/bivouaclaw10.PowerWithin", spec := "powerWithin", unfollowed := true, recurses := true, apart := false }
def PowerWithinSaid : Prop := powerWithinRow.holds Try.pinned (OpenSpec.ofChange powerWithinSpec)

/-- ITS FALSE NEIGHBOUR: 'it returns false'. Refute it at one input. -/
def powerWithinWrong : ChangeSpec := { name := "powerWithin", fn := fun _ => fun
  | [d1, d2] => { results := [.lit (.bool false)], args := [d1, d2] }
  | _ => none }
def PowerWithinWrongFalsely : Prop := powerWithinRow.holds Try.pinned (OpenSpec.ofChange powerWithinWrong)

/-- 'bivouaclaw10.PowerYields': WHATEVER THE INPUT: true; the input reads as it did. -/
def powerYieldsSpec : ChangeSpec := { name := "powerYields", fn := fun _ => fun
  | [d] => { results := [.lit (.bool true)], args := [d] }
  | _ => none }
def powerYieldsRow : OpenClaim := { program := "ytlcbalngfpgjdaa", sum := "625935658da22ed5c634cd65f12646bd33ea6dd5a435069e03952addcd9379fc", func := "bivouac/bivouaclaw10.PowerYields", spec := "powerYields", unfollowed := true, recurses := true, apart := false }
def PowerYieldsSaid : Prop := powerYieldsRow.holds Try.pinned (OpenSpec.ofChange powerYieldsSpec)

/-- ITS FALSE NEIGHBOUR: 'it returns false'. Refute it at one input. -/
def powerYieldsWrong : ChangeSpec := { name := "powerYields", fn := fun _ => fun
  | [d] => { results := [.lit (.bool false)], args := [d] }
  | _ => none }
def PowerYieldsWrongFalsely : Prop := powerYieldsRow.holds Try.pinned (OpenSpec.ofChange powerYieldsWrong)

/-- 'bivouaclaw10.PowerWorst': WHATEVER THE INPUT: true; the input reads as it did. -/
def powerWorstSpec : ChangeSpec := { name := "powerWorst", fn := fun _ => fun
  | [d1, d2, d3] => { results := [.lit (.bool true)], args := [d1, d2, d3] }
  | _ => none }
def powerWorstRow : OpenClaim := { program := "ytlcbalngfpgjdaa", sum := "625935658da22ed5c634cd65f12646bd33ea6dd5a435069e03952addcd9379fc", func := "bivouac/bivouaclaw10.PowerWorst", spec := "powerWorst", unfollowed := true, recurses := true, apart := false }
def PowerWorstSaid : Prop := powerWorstRow.holds Try.pinned (OpenSpec.ofChange powerWorstSpec)

/-- ITS FALSE NEIGHBOUR: 'it returns false'. Refute it at one input. -/
def powerWorstWrong : ChangeSpec := { name := "powerWorst", fn := fun _ => fun
  | [d1, d2, d3] => { results := [.lit (.bool false)], args := [d1, d2, d3] }
  | _ => none }
def PowerWorstWrongFalsely : Prop := powerWorstRow.holds Try.pinned (OpenSpec.ofChange powerWorstWrong)

/-- 'bivouaclaw10.PowerLevels': WHATEVER THE INPUT: true; the input reads as it did. -/
def powerLevelsSpec : ChangeSpec := { name := "powerLevels", fn := fun _ => fun
  | [d1, d2, d3] => { results := [.lit (.bool true)], args := [d1, d2, d3] }
  | _ => none }
def powerLevelsRow : OpenClaim := { program := "ytlcbalngfpgjdaa", sum := "625935658da22ed5c634cd65f12646bd33ea6dd5a435069e03952addcd9379fc", func := "bivouac/bivouaclaw10.PowerLevels", spec := "powerLevels", unfollowed := true, recurses := true, apart := false }
def PowerLevelsSaid : Prop := powerLevelsRow.holds Try.pinned (OpenSpec.ofChange powerLevelsSpec)

/-- ITS FALSE NEIGHBOUR: 'it returns false'. Refute it at one input. -/
def powerLevelsWrong : ChangeSpec := { name := "powerLevels", fn := fun _ => fun
  | [d1, d2, d3] => { results := [.lit (.bool false)], args := [d1, d2, d3] }
  | _ => none }
def PowerLevelsWrongFalsely : Prop := powerLevelsRow.holds Try.pinned (OpenSpec.ofChange powerLevelsWrong)

/- THE SECOND FORM. 'bulk': how many values and letters a reading holds, each counted each time it is reached (what is shared counts as often as it is met; a slice's spare places count too). A statement '..UptoSaid' is the law's where the arguments, and the package variables that the reading takes, are together of bulk at most 1048576: NARROWER than '..Said'. Prove '..Said' where nothing that the law and all that it calls make is longer than what came in: it says more and counts as full. Else prove '..UptoSaid'. A law counts once. -/
mutual
def uptoBulk {H : Type} : DataW H → Nat
  | .lit (.string bytes) => bytes.length + 1
  | .lit _ => 1
  | .nil => 1
  | .ptr d => uptoBulk d + 1
  | .slice elems spare => uptoBulkAll elems + uptoBulkAll spare + 1
  | .agg parts => uptoBulkAll parts + 1
  | .iface _ d => uptoBulk d + 1
  | .map entries => uptoBulkEntries entries + 1
  | .held _ => 1
def uptoBulkAll {H : Type} : List (DataW H) → Nat
  | [] => 0
  | d :: r => uptoBulk d + uptoBulkAll r
def uptoBulkEntries {H : Type} : List (Lit × DataW H) → Nat
  | [] => 0
  | x :: r => uptoBulkEntry x + uptoBulkEntries r
def uptoBulkEntry {H : Type} : Lit × DataW H → Nat
  | (.string bytes, d) => bytes.length + uptoBulk d + 1
  | (_, d) => uptoBulk d + 1
 end
def uptoSmall : (H : Type) → List (DataW H) → Bool := fun _ ds => decide (uptoBulkAll ds ≤ 1048576)
def OpenSpec.upto (s : _root_.Go.ChangeSpec) : _root_.Go.OpenSpec := { _root_.Go.OpenSpec.ofChange s with cond := some uptoSmall }

/-- 'bivouaclaw10.PowerEasier', WHERE WHAT IT READS IS OF BULK AT MOST 1048576: true; the input reads as it did. -/
def powerEasierUptoRow : OpenClaim := { program := "ytlcbalngfpgjdaa", sum := "625935658da22ed5c634cd65f12646bd33ea6dd5a435069e03952addcd9379fc", func := "bivouac/bivouaclaw10.PowerEasier", spec := "powerEasier", unfollowed := true, recurses := true, apart := false, narrowed := true }
def PowerEasierUptoSaid : Prop := powerEasierUptoRow.holds Try.pinned (OpenSpec.upto powerEasierSpec)

/-- 'bivouaclaw10.PowerPlans', WHERE WHAT IT READS IS OF BULK AT MOST 1048576: true; the input reads as it did. -/
def powerPlansUptoRow : OpenClaim := { program := "ytlcbalngfpgjdaa", sum := "625935658da22ed5c634cd65f12646bd33ea6dd5a435069e03952addcd9379fc", func := "bivouac/bivouaclaw10.PowerPlans", spec := "powerPlans", unfollowed := true, recurses := true, apart := false, narrowed := true }
def PowerPlansUptoSaid : Prop := powerPlansUptoRow.holds Try.pinned (OpenSpec.upto powerPlansSpec)

/-- 'bivouaclaw10.PowerLate', WHERE WHAT IT READS IS OF BULK AT MOST 1048576: true; the input reads as it did. -/
def powerLateUptoRow : OpenClaim := { program := "ytlcbalngfpgjdaa", sum := "625935658da22ed5c634cd65f12646bd33ea6dd5a435069e03952addcd9379fc", func := "bivouac/bivouaclaw10.PowerLate", spec := "powerLate", unfollowed := true, recurses := true, apart := false, narrowed := true }
def PowerLateUptoSaid : Prop := powerLateUptoRow.holds Try.pinned (OpenSpec.upto powerLateSpec)

/-- 'bivouaclaw10.PowerEdge', WHERE WHAT IT READS IS OF BULK AT MOST 1048576: true; the input reads as it did. -/
def powerEdgeUptoRow : OpenClaim := { program := "ytlcbalngfpgjdaa", sum := "625935658da22ed5c634cd65f12646bd33ea6dd5a435069e03952addcd9379fc", func := "bivouac/bivouaclaw10.PowerEdge", spec := "powerEdge", unfollowed := true, recurses := true, apart := false, narrowed := true }
def PowerEdgeUptoSaid : Prop := powerEdgeUptoRow.holds Try.pinned (OpenSpec.upto powerEdgeSpec)

/-- 'bivouaclaw10.PowerSpares', WHERE WHAT IT READS IS OF BULK AT MOST 1048576: true; the input reads as it did. -/
def powerSparesUptoRow : OpenClaim := { program := "ytlcbalngfpgjdaa", sum := "625935658da22ed5c634cd65f12646bd33ea6dd5a435069e03952addcd9379fc", func := "bivouac/bivouaclaw10.PowerSpares", spec := "powerSpares", unfollowed := true, recurses := true, apart := false, narrowed := true }
def PowerSparesUptoSaid : Prop := powerSparesUptoRow.holds Try.pinned (OpenSpec.upto powerSparesSpec)

/-- 'bivouaclaw10.PowerLasting', WHERE WHAT IT READS IS OF BULK AT MOST 1048576: true; the input reads as it did. -/
def powerLastingUptoRow : OpenClaim := { program := "ytlcbalngfpgjdaa", sum := "625935658da22ed5c634cd65f12646bd33ea6dd5a435069e03952addcd9379fc", func := "bivouac/bivouaclaw10.PowerLasting", spec := "powerLasting", unfollowed := true, recurses := true, apart := false, narrowed := true }
def PowerLastingUptoSaid : Prop := powerLastingUptoRow.holds Try.pinned (OpenSpec.upto powerLastingSpec)

/-- 'bivouaclaw10.PowerKept', WHERE WHAT IT READS IS OF BULK AT MOST 1048576: true; the input reads as it did. -/
def powerKeptUptoRow : OpenClaim := { program := "ytlcbalngfpgjdaa", sum := "625935658da22ed5c634cd65f12646bd33ea6dd5a435069e03952addcd9379fc", func := "bivouac/bivouaclaw10.PowerKept", spec := "powerKept", unfollowed := true, recurses := true, apart := false, narrowed := true }
def PowerKeptUptoSaid : Prop := powerKeptUptoRow.holds Try.pinned (OpenSpec.upto powerKeptSpec)

/-- 'bivouaclaw10.PowerWithin', WHERE WHAT IT READS IS OF BULK AT MOST 1048576: true; the input reads as it did. -/
def powerWithinUptoRow : OpenClaim := { program := "ytlcbalngfpgjdaa", sum := "625935658da22ed5c634cd65f12646bd33ea6dd5a435069e03952addcd9379fc", func := "bivouac/bivouaclaw10.PowerWithin", spec := "powerWithin", unfollowed := true, recurses := true, apart := false, narrowed := true }
def PowerWithinUptoSaid : Prop := powerWithinUptoRow.holds Try.pinned (OpenSpec.upto powerWithinSpec)

/-- 'bivouaclaw10.PowerYields', WHERE WHAT IT READS IS OF BULK AT MOST 1048576: true; the input reads as it did. -/
def powerYieldsUptoRow : OpenClaim := { program := "ytlcbalngfpgjdaa", sum := "625935658da22ed5c634cd65f12646bd33ea6dd5a435069e03952addcd9379fc", func := "bivouac/bivouaclaw10.PowerYields", spec := "powerYields", unfollowed := true, recurses := true, apart := false, narrowed := true }
def PowerYieldsUptoSaid : Prop := powerYieldsUptoRow.holds Try.pinned (OpenSpec.upto powerYieldsSpec)

/-- 'bivouaclaw10.PowerWorst', WHERE WHAT IT READS IS OF BULK AT MOST 1048576: true; the input reads as it did. -/
def powerWorstUptoRow : OpenClaim := { program := "ytlcbalngfpgjdaa", sum := "625935658da22ed5c634cd65f12646bd33ea6dd5a435069e03952addcd9379fc", func := "bivouac/bivouaclaw10.PowerWorst", spec := "powerWorst", unfollowed := true, recurses := true, apart := false, narrowed := true }
def PowerWorstUptoSaid : Prop := powerWorstUptoRow.holds Try.pinned (OpenSpec.upto powerWorstSpec)

/-- 'bivouaclaw10.PowerLevels', WHERE WHAT IT READS IS OF BULK AT MOST 1048576: true; the input reads as it did. -/
def powerLevelsUptoRow : OpenClaim := { program := "ytlcbalngfpgjdaa", sum := "625935658da22ed5c634cd65f12646bd33ea6dd5a435069e03952addcd9379fc", func := "bivouac/bivouaclaw10.PowerLevels", spec := "powerLevels", unfollowed := true, recurses := true, apart := false, narrowed := true }
def PowerLevelsUptoSaid : Prop := powerLevelsUptoRow.holds Try.pinned (OpenSpec.upto powerLevelsSpec)

end Rows
end Go.Proofs.Ytlcbalngfpgjdaa
