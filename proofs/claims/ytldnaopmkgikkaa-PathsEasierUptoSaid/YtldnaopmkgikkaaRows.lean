/-
  No cell of these rows narrows 'for every input' (looked for: loops, veiled, ifaces, maps, wideKeys, modest, calm, conditions, laid).
  DERIVED. THE GIVEN ROWS OF THIS SEAT. 9 by the template 'for every input the law returns true; each argument reads behind the call as it read before'; 0 by the template 'total and deterministic' (their statements: YtldnaopmkgikkaaTotals.lean).
  GIVEN WITH THE SEED: the statements are not yours to turn. If you find one false, say at which input.
  Laid BY PROGRAM, IN A SANDBOX (cutbox-rows.mjs): the forced cells as the released guide's own fill.sh prints them over the translation 62720e917dd1d3d5… (all of the seat's roots in one cut). By AI agents, Wed Nov 11 2026. No macro, syntax, notation, axiom, sorry.
-/
import Derived.Test.YtldnaopmkgikkaaChecked
import GoSem.Claim
import GoSem.ClaimJoined
import GoSem.ClaimMapViews
import Derived.JoinedTies
import Derived.KernelRfl
namespace Go.Proofs.Ytldnaopmkgikkaa
/- THE CELL 'sum', in the pinned program and in every row, IS THE sha256 OF THE DUMP (.gsa) THAT YtldnaopmkgikkaaProg.lean LOADS. Nothing in Lean hashes anything: it is a label: what it is worth is what the hold of that sum in a sandbox is worth. -/
noncomputable def Try.pinned : Pinned := { name := "ytldnaopmkgikkaa", sum := "62720e917dd1d3d500b235857a8c3b5db629a9827744c26dbe9368218e06eae2", checked := Try.checked }
namespace Rows
def none {H : Type} : Left H := { results := [], args := [] }

/-- 'bivouaclaw01.PathsRoutes': WHATEVER THE INPUT: true; the input reads as it did. -/
def pathsRoutesSpec : ChangeSpec := { name := "pathsRoutes", fn := fun _ => fun
  | [d1, d2, d3] => { results := [.lit (.bool true)], args := [d1, d2, d3] }
  | _ => none }
def pathsRoutesRow : OpenClaim := { program := "ytldnaopmkgikkaa", sum := "62720e917dd1d3d500b235857a8c3b5db629a9827744c26dbe9368218e06eae2", func := "bivouac/bivouaclaw01.PathsRoutes", spec := "pathsRoutes", unfollowed := true, recurses := true, apart := false }
def PathsRoutesSaid : Prop := pathsRoutesRow.holds Try.pinned (OpenSpec.ofChange pathsRoutesSpec)

/-- ITS FALSE NEIGHBOUR: 'it returns false'. Refute it at one input. -/
def pathsRoutesWrong : ChangeSpec := { name := "pathsRoutes", fn := fun _ => fun
  | [d1, d2, d3] => { results := [.lit (.bool false)], args := [d1, d2, d3] }
  | _ => none }
def PathsRoutesWrongFalsely : Prop := pathsRoutesRow.holds Try.pinned (OpenSpec.ofChange pathsRoutesWrong)

/-- 'bivouaclaw01.PathsWalked': WHATEVER THE INPUT: true; the input reads as it did. -/
def pathsWalkedSpec : ChangeSpec := { name := "pathsWalked", fn := fun _ => fun
  | [d1, d2, d3, d4] => { results := [.lit (.bool true)], args := [d1, d2, d3, d4] }
  | _ => none }
def pathsWalkedRow : OpenClaim := { program := "ytldnaopmkgikkaa", sum := "62720e917dd1d3d500b235857a8c3b5db629a9827744c26dbe9368218e06eae2", func := "bivouac/bivouaclaw01.PathsWalked", spec := "pathsWalked", unfollowed := true, recurses := true, apart := false }
def PathsWalkedSaid : Prop := pathsWalkedRow.holds Try.pinned (OpenSpec.ofChange pathsWalkedSpec)

/-- ITS FALSE NEIGHBOUR: 'it returns false'. Refute it at one input. -/
def pathsWalkedWrong : ChangeSpec := { name := "pathsWalked", fn := fun _ => fun
  | [d1, d2, d3, d4] => { results := [.lit (.bool false)], args := [d1, d2, d3, d4] }
  | _ => none }
def PathsWalkedWrongFalsely : Prop := pathsWalkedRow.holds Try.pinned (OpenSpec.ofChange pathsWalkedWrong)

/-- 'bivouaclaw01.PathsBest': WHATEVER THE INPUT: true; the input reads as it did. -/
def pathsBestSpec : ChangeSpec := { name := "pathsBest", fn := fun _ => fun
  | [d1, d2, d3, d4] => { results := [.lit (.bool true)], args := [d1, d2, d3, d4] }
  | _ => none }
def pathsBestRow : OpenClaim := { program := "ytldnaopmkgikkaa", sum := "62720e917dd1d3d500b235857a8c3b5db629a9827744c26dbe9368218e06eae2", func := "bivouac/bivouaclaw01.PathsBest", spec := "pathsBest", unfollowed := true, recurses := true, apart := false }
def PathsBestSaid : Prop := pathsBestRow.holds Try.pinned (OpenSpec.ofChange pathsBestSpec)

/-- ITS FALSE NEIGHBOUR: 'it returns false'. Refute it at one input. -/
def pathsBestWrong : ChangeSpec := { name := "pathsBest", fn := fun _ => fun
  | [d1, d2, d3, d4] => { results := [.lit (.bool false)], args := [d1, d2, d3, d4] }
  | _ => none }
def PathsBestWrongFalsely : Prop := pathsBestRow.holds Try.pinned (OpenSpec.ofChange pathsBestWrong)

/-- 'bivouaclaw01.PathsEasier': WHATEVER THE INPUT: true; the input reads as it did. -/
def pathsEasierSpec : ChangeSpec := { name := "pathsEasier", fn := fun _ => fun
  | [d1, d2, d3, d4] => { results := [.lit (.bool true)], args := [d1, d2, d3, d4] }
  | _ => none }
def pathsEasierRow : OpenClaim := { program := "ytldnaopmkgikkaa", sum := "62720e917dd1d3d500b235857a8c3b5db629a9827744c26dbe9368218e06eae2", func := "bivouac/bivouaclaw01.PathsEasier", spec := "pathsEasier", unfollowed := true, recurses := true, apart := false }
def PathsEasierSaid : Prop := pathsEasierRow.holds Try.pinned (OpenSpec.ofChange pathsEasierSpec)

/-- ITS FALSE NEIGHBOUR: 'it returns false'. Refute it at one input. -/
def pathsEasierWrong : ChangeSpec := { name := "pathsEasier", fn := fun _ => fun
  | [d1, d2, d3, d4] => { results := [.lit (.bool false)], args := [d1, d2, d3, d4] }
  | _ => none }
def PathsEasierWrongFalsely : Prop := pathsEasierRow.holds Try.pinned (OpenSpec.ofChange pathsEasierWrong)

/-- 'bivouaclaw01.PathsStart': WHATEVER THE INPUT: true; the input reads as it did. -/
def pathsStartSpec : ChangeSpec := { name := "pathsStart", fn := fun _ => fun
  | [d1, d2, d3] => { results := [.lit (.bool true)], args := [d1, d2, d3] }
  | _ => none }
def pathsStartRow : OpenClaim := { program := "ytldnaopmkgikkaa", sum := "62720e917dd1d3d500b235857a8c3b5db629a9827744c26dbe9368218e06eae2", func := "bivouac/bivouaclaw01.PathsStart", spec := "pathsStart", unfollowed := true, recurses := true, apart := false }
def PathsStartSaid : Prop := pathsStartRow.holds Try.pinned (OpenSpec.ofChange pathsStartSpec)

/-- ITS FALSE NEIGHBOUR: 'it returns false'. Refute it at one input. -/
def pathsStartWrong : ChangeSpec := { name := "pathsStart", fn := fun _ => fun
  | [d1, d2, d3] => { results := [.lit (.bool false)], args := [d1, d2, d3] }
  | _ => none }
def PathsStartWrongFalsely : Prop := pathsStartRow.holds Try.pinned (OpenSpec.ofChange pathsStartWrong)

/-- 'bivouaclaw01.PathsArrive': WHATEVER THE INPUT: true; the input reads as it did. -/
def pathsArriveSpec : ChangeSpec := { name := "pathsArrive", fn := fun _ => fun
  | [d1, d2, d3] => { results := [.lit (.bool true)], args := [d1, d2, d3] }
  | _ => none }
def pathsArriveRow : OpenClaim := { program := "ytldnaopmkgikkaa", sum := "62720e917dd1d3d500b235857a8c3b5db629a9827744c26dbe9368218e06eae2", func := "bivouac/bivouaclaw01.PathsArrive", spec := "pathsArrive", unfollowed := true, recurses := true, apart := false }
def PathsArriveSaid : Prop := pathsArriveRow.holds Try.pinned (OpenSpec.ofChange pathsArriveSpec)

/-- ITS FALSE NEIGHBOUR: 'it returns false'. Refute it at one input. -/
def pathsArriveWrong : ChangeSpec := { name := "pathsArrive", fn := fun _ => fun
  | [d1, d2, d3] => { results := [.lit (.bool false)], args := [d1, d2, d3] }
  | _ => none }
def PathsArriveWrongFalsely : Prop := pathsArriveRow.holds Try.pinned (OpenSpec.ofChange pathsArriveWrong)

/-- 'bivouaclaw01.PathsMust': WHATEVER THE INPUT: true; the input reads as it did. -/
def pathsMustSpec : ChangeSpec := { name := "pathsMust", fn := fun _ => fun
  | [d1, d2, d3] => { results := [.lit (.bool true)], args := [d1, d2, d3] }
  | _ => none }
def pathsMustRow : OpenClaim := { program := "ytldnaopmkgikkaa", sum := "62720e917dd1d3d500b235857a8c3b5db629a9827744c26dbe9368218e06eae2", func := "bivouac/bivouaclaw01.PathsMust", spec := "pathsMust", unfollowed := true, recurses := true, apart := false }
def PathsMustSaid : Prop := pathsMustRow.holds Try.pinned (OpenSpec.ofChange pathsMustSpec)

/-- ITS FALSE NEIGHBOUR: 'it returns false'. Refute it at one input. -/
def pathsMustWrong : ChangeSpec := { name := "pathsMust", fn := fun _ => fun
  | [d1, d2, d3] => { results := [.lit (.bool false)], args := [d1, d2, d3] }
  | _ => none }
def PathsMustWrongFalsely : Prop := pathsMustRow.holds Try.pinned (OpenSpec.ofChange pathsMustWrong)

/-- 'bivouaclaw01.PathsBack': WHATEVER THE INPUT: true; the input reads as it did. -/
def pathsBackSpec : ChangeSpec := { name := "pathsBack", fn := fun _ => fun
  | [d1, d2, d3] => { results := [.lit (.bool true)], args := [d1, d2, d3] }
  | _ => none }
def pathsBackRow : OpenClaim := { program := "ytldnaopmkgikkaa", sum := "62720e917dd1d3d500b235857a8c3b5db629a9827744c26dbe9368218e06eae2", func := "bivouac/bivouaclaw01.PathsBack", spec := "pathsBack", unfollowed := true, recurses := true, apart := false }
def PathsBackSaid : Prop := pathsBackRow.holds Try.pinned (OpenSpec.ofChange pathsBackSpec)

/-- ITS FALSE NEIGHBOUR: 'it returns false'. Refute it at one input. -/
def pathsBackWrong : ChangeSpec := { name := "pathsBack", fn := fun _ => fun
  | [d1, d2, d3] => { results := [.lit (.bool false)], args := [d1, d2, d3] }
  | _ => none }
def PathsBackWrongFalsely : Prop := pathsBackRow.holds Try.pinned (OpenSpec.ofChange pathsBackWrong)

/-- 'bivouaclaw01.PathsVital': WHATEVER THE INPUT: true; the input reads as it did. -/
def pathsVitalSpec : ChangeSpec := { name := "pathsVital", fn := fun _ => fun
  | [d1, d2, d3] => { results := [.lit (.bool true)], args := [d1, d2, d3] }
  | _ => none }
def pathsVitalRow : OpenClaim := { program := "ytldnaopmkgikkaa", sum := "62720e917dd1d3d500b235857a8c3b5db629a9827744c26dbe9368218e06eae2", func := "bivouac/bivouaclaw01.PathsVital", spec := "pathsVital", unfollowed := true, recurses := true, apart := false }
def PathsVitalSaid : Prop := pathsVitalRow.holds Try.pinned (OpenSpec.ofChange pathsVitalSpec)

/-- ITS FALSE NEIGHBOUR: 'it returns false'. Refute it at one input. -/
def pathsVitalWrong : ChangeSpec := { name := "pathsVital", fn := fun _ => fun
  | [d1, d2, d3] => { results := [.lit (.bool false)], args := [d1, d2, d3] }
  | _ => none }
def PathsVitalWrongFalsely : Prop := pathsVitalRow.holds Try.pinned (OpenSpec.ofChange pathsVitalWrong)

/- THE SECOND FORM. 'bulk': how many values and letters a reading holds, each counted each time it is reached (what is shared counts as often as it is met; a slice's spare places count too). A statement '..UptoSaid' is the law's where the arguments, and the package variables that the reading takes, are together of bulk at most 1048576: NARROWER than '..Said'. Prove '..Said' where nothing that the law and all that it calls make is longer than what came in: it says more and counts as full. Else prove '..UptoSaid'. A law counts once. -/
mutual
def uptoBulk {H : Type} : DataW H → Nat
  | .lit (.string bytes) => bytes.length + 1
  | .lit _ => 1
  | .nil => 1
  | .ptr d => uptoBulk d + 1
  | .slice elems spare => uptoBulkAll elems + uptoBulkAll spare + 1
  | .agg parts => uptoBulkAll parts + 1
  | .iface _ d => uptoBulk d + 1
  | .map entries => uptoBulkEntries entries + 1
  | .held _ => 1
def uptoBulkAll {H : Type} : List (DataW H) → Nat
  | [] => 0
  | d :: r => uptoBulk d + uptoBulkAll r
def uptoBulkEntries {H : Type} : List (Lit × DataW H) → Nat
  | [] => 0
  | x :: r => uptoBulkEntry x + uptoBulkEntries r
def uptoBulkEntry {H : Type} : Lit × DataW H → Nat
  | (.string bytes, d) => bytes.length + uptoBulk d + 1
  | (_, d) => uptoBulk d + 1
 end
def uptoSmall : (H : Type) → List (DataW H) → Bool := fun _ ds => decide (uptoBulkAll ds ≤ 1048576)
def OpenSpec.upto (s : _root_.Go.ChangeSpec) : _root_.Go.OpenSpec := { _root_.Go.OpenSpec.ofChange s with cond := some uptoSmall }

/-- 'bivouaclaw01.PathsRoutes', WHERE WHAT IT READS IS OF BULK AT MOST 1048576: true; the input reads as it did. -/
def pathsRoutesUptoRow : OpenClaim := { program := "ytldnaopmkgikkaa", sum := "62720e917dd1d3d500b235857a8c3b5db629a9827744c26dbe9368218e06eae2", func := "bivouac/bivouaclaw01.PathsRoutes", spec := "pathsRoutes", unfollowed := true, recurses := true, apart := false, narrowed := true }
def PathsRoutesUptoSaid : Prop := pathsRoutesUptoRow.holds Try.pinned (OpenSpec.upto pathsRoutesSpec)

/-- 'bivouaclaw01.PathsWalked', WHERE WHAT IT READS IS OF BULK AT MOST 1048576: true; the input reads as it did. -/
def pathsWalkedUptoRow : OpenClaim := { program := "ytldnaopmkgikkaa", sum := "62720e917dd1d3d500b235857a8c3b5db629a9827744c26dbe9368218e06eae2", func := "bivouac/bivouaclaw01.PathsWalked", spec := "pathsWalked", unfollowed := true, recurses := true, apart := false, narrowed := true }
def PathsWalkedUptoSaid : Prop := pathsWalkedUptoRow.holds Try.pinned (OpenSpec.upto pathsWalkedSpec)

/-- 'bivouaclaw01.PathsBest', WHERE WHAT IT READS IS OF BULK AT MOST 1048576: true; the input reads as it did. -/
def pathsBestUptoRow : OpenClaim := { program := "ytldnaopmkgikkaa", sum := "62720e917dd1d3d500b235857a8c3b5db629a9827744c26dbe9368218e06eae2", func := "bivouac/bivouaclaw01.PathsBest", spec := "pathsBest", unfollowed := true, recurses := true, apart := false, narrowed := true }
def PathsBestUptoSaid : Prop := pathsBestUptoRow.holds Try.pinned (OpenSpec.upto pathsBestSpec)

/-- 'bivouaclaw01.PathsEasier', WHERE WHAT IT READS IS OF BULK AT MOST 1048576: true; the input reads as it did. -/
def pathsEasierUptoRow : OpenClaim := { program := "ytldnaopmkgikkaa", sum := "62720e917dd1d3d500b235857a8c3b5db629a9827744c26dbe9368218e06eae2", func := "bivouac/bivouaclaw01.PathsEasier", spec := "pathsEasier", unfollowed := true, recurses := true, apart := false, narrowed := true }
def PathsEasierUptoSaid : Prop := pathsEasierUptoRow.holds Try.pinned (OpenSpec.upto pathsEasierSpec)

/-- 'bivouaclaw01.PathsStart', WHERE WHAT IT READS IS OF BULK AT MOST 1048576: true; the input reads as it did. -/
def pathsStartUptoRow : OpenClaim := { program := "ytldnaopmkgikkaa", sum := "62720e917dd1d3d500b235857a8c3b5db629a9827744c26dbe9368218e06eae2", func := "bivouac/bivouaclaw01.PathsStart", spec := "pathsStart", unfollowed := true, recurses := true, apart := false, narrowed := true }
def PathsStartUptoSaid : Prop := pathsStartUptoRow.holds Try.pinned (OpenSpec.upto pathsStartSpec)

/-- 'bivouaclaw01.PathsArrive', WHERE WHAT IT READS IS OF BULK AT MOST 1048576: true; the input reads as it did. -/
def pathsArriveUptoRow : OpenClaim := { program := "ytldnaopmkgikkaa", sum := "62720e917dd1d3d500b235857a8c3b5db629a9827744c26dbe9368218e06eae2", func := "bivouac/bivouaclaw01.PathsArrive", spec := "pathsArrive", unfollowed := true, recurses := true, apart := false, narrowed := true }
def PathsArriveUptoSaid : Prop := pathsArriveUptoRow.holds Try.pinned (OpenSpec.upto pathsArriveSpec)

/-- 'bivouaclaw01.PathsMust', WHERE WHAT IT READS IS OF BULK AT MOST 1048576: true; the input reads as it did. -/
def pathsMustUptoRow : OpenClaim := { program := "ytldnaopmkgikkaa", sum := "62720e917dd1d3d500b235857a8c3b5db629a9827744c26dbe9368218e06eae2", func := "bivouac/bivouaclaw01.PathsMust", spec := "pathsMust", unfollowed := true, recurses := true, apart := false, narrowed := true }
def PathsMustUptoSaid : Prop := pathsMustUptoRow.holds Try.pinned (OpenSpec.upto pathsMustSpec)

/-- 'bivouaclaw01.PathsBack', WHERE WHAT IT READS IS OF BULK AT MOST 1048576: true; the input reads as it did. -/
def pathsBackUptoRow : OpenClaim := { program := "ytldnaopmkgikkaa", sum := "62720e917dd1d3d500b235857a8c3b5db629a9827744c26dbe9368218e06eae2", func := "bivouac/bivouaclaw01.PathsBack", spec := "pathsBack", unfollowed := true, recurses := true, apart := false, narrowed := true }
def PathsBackUptoSaid : Prop := pathsBackUptoRow.holds Try.pinned (OpenSpec.upto pathsBackSpec)

/-- 'bivouaclaw01.PathsVital', WHERE WHAT IT READS IS OF BULK AT MOST 1048576: true; the input reads as it did. -/
def pathsVitalUptoRow : OpenClaim := { program := "ytldnaopmkgikkaa", sum := "62720e917dd1d3d500b235857a8c3b5db629a9827744c26dbe9368218e06eae2", func := "bivouac/bivouaclaw01.PathsVital", spec := "pathsVital", unfollowed := true, recurses := true, apart := false, narrowed := true }
def PathsVitalUptoSaid : Prop := pathsVitalUptoRow.holds Try.pinned (OpenSpec.upto pathsVitalSpec)

end Rows
end Go.Proofs.Ytldnaopmkgikkaa
