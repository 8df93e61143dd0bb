/-
  NARROWER THAN 'FOR EVERY INPUT', by the rows' own cells (each row's printed sentence says how): MissingHolds: laid · MissingMore: laid · MissingSorted: laid · MissingWay: laid · MissingReal: laid · MissingBy: laid · MissingLeast: laid · MissingTeams: laid · MissingNamed: laid.
  DERIVED. THE GIVEN ROWS OF THIS SEAT. 9 by the template 'for every input the law returns true; each argument reads behind the call as it read before'; 0 by the template 'total and deterministic' (their statements: YtfkbbaagifpjpaaDoorTotals.lean).
  GIVEN WITH THE SEED: the statements are not yours to turn. If you find one false, say at which input.
  Laid BY PROGRAM, IN A SANDBOX (cutbox-rows.mjs): the forced cells as the released guide's own fill.sh prints them over the translation 548520eb874a5d87… (all of the seat's roots in one cut). By AI agents, Wed Nov 11 2026. No macro, syntax, notation, axiom, sorry.
-/
import Derived.Test.YtfkbbaagifpjpaaDoorChecked
import GoSem.Claim
import GoSem.ClaimJoined
import GoSem.ClaimMapViews
import Derived.JoinedTies
import Derived.KernelRfl
namespace Go.Proofs.YtfkbbaagifpjpaaDoor
/- THE CELL 'sum', in the pinned program and in every row, IS THE sha256 OF THE DUMP (.gsa) THAT YtfkbbaagifpjpaaDoorProg.lean LOADS. Nothing in Lean hashes anything: it is a label: what it is worth is what the hold of that sum in a sandbox is worth. -/
noncomputable def Tryd.pinned : Pinned := { name := "ytfkbbaagifpjpaadoor", sum := "548520eb874a5d87227b59e2bb833041188943a0f46cf83164c1112f9e20f167", checked := Tryd.checked }
namespace Rows
def none {H : Type} : Left H := { results := [], args := [] }

/- WHAT THE LISTED PACKAGE-LEVEL VARIABLES READ AS WHEN THE CALL BEGINS. Each datum BY PROGRAM (the guide's laid-datum.mjs) off the statement by which the dump's own 'gosem.cut.vars' lays the variable. In a bare row this is a premise. The card (YtfkbbaagifpjpaaDoorCards.lean) ties it to the program's text. -/
def laid_math_bits_deBruijn32tab {H : Type} : DataW H := .agg [.lit (.int .u8 0), .lit (.int .u8 1), .lit (.int .u8 28), .lit (.int .u8 2), .lit (.int .u8 29), .lit (.int .u8 14), .lit (.int .u8 24), .lit (.int .u8 3), .lit (.int .u8 30), .lit (.int .u8 22), .lit (.int .u8 20), .lit (.int .u8 15), .lit (.int .u8 25), .lit (.int .u8 17), .lit (.int .u8 4), .lit (.int .u8 8), .lit (.int .u8 31), .lit (.int .u8 27), .lit (.int .u8 13), .lit (.int .u8 23), .lit (.int .u8 21), .lit (.int .u8 19), .lit (.int .u8 16), .lit (.int .u8 7), .lit (.int .u8 26), .lit (.int .u8 12), .lit (.int .u8 18), .lit (.int .u8 6), .lit (.int .u8 11), .lit (.int .u8 5), .lit (.int .u8 10), .lit (.int .u8 9)]
def laid_math_bits_deBruijn64tab {H : Type} : DataW H := .agg [.lit (.int .u8 0), .lit (.int .u8 1), .lit (.int .u8 56), .lit (.int .u8 2), .lit (.int .u8 57), .lit (.int .u8 49), .lit (.int .u8 28), .lit (.int .u8 3), .lit (.int .u8 61), .lit (.int .u8 58), .lit (.int .u8 42), .lit (.int .u8 50), .lit (.int .u8 38), .lit (.int .u8 29), .lit (.int .u8 17), .lit (.int .u8 4), .lit (.int .u8 62), .lit (.int .u8 47), .lit (.int .u8 59), .lit (.int .u8 36), .lit (.int .u8 45), .lit (.int .u8 43), .lit (.int .u8 51), .lit (.int .u8 22), .lit (.int .u8 53), .lit (.int .u8 39), .lit (.int .u8 33), .lit (.int .u8 30), .lit (.int .u8 24), .lit (.int .u8 18), .lit (.int .u8 12), .lit (.int .u8 5), .lit (.int .u8 63), .lit (.int .u8 55), .lit (.int .u8 48), .lit (.int .u8 27), .lit (.int .u8 60), .lit (.int .u8 41), .lit (.int .u8 37), .lit (.int .u8 16), .lit (.int .u8 46), .lit (.int .u8 35), .lit (.int .u8 44), .lit (.int .u8 21), .lit (.int .u8 52), .lit (.int .u8 32), .lit (.int .u8 23), .lit (.int .u8 11), .lit (.int .u8 54), .lit (.int .u8 26), .lit (.int .u8 40), .lit (.int .u8 15), .lit (.int .u8 34), .lit (.int .u8 20), .lit (.int .u8 31), .lit (.int .u8 10), .lit (.int .u8 25), .lit (.int .u8 14), .lit (.int .u8 19), .lit (.int .u8 9), .lit (.int .u8 13), .lit (.int .u8 8), .lit (.int .u8 7), .lit (.int .u8 6)]

/-- 'bivouaclaw08.MissingHolds': WHATEVER THE INPUT: true; the input reads as it did. -/
def missingHoldsSpec : ChangeSpec := { name := "missingHolds", fn := fun _ => fun
  | [d1, d2, d3] => { results := [.lit (.bool true)], args := [d1, d2, d3] }
  | _ => none }
def missingHoldsRow : OpenClaim := { program := "ytfkbbaagifpjpaadoor", sum := "548520eb874a5d87227b59e2bb833041188943a0f46cf83164c1112f9e20f167", func := "bivouac/bivouaclaw08.MissingHolds", spec := "missingHolds", unfollowed := true, recurses := true, named := ["math/bits.deBruijn32tab", "math/bits.deBruijn64tab"], plainKeys := false, apart := false, laid := [("math/bits.deBruijn32tab", laid_math_bits_deBruijn32tab), ("math/bits.deBruijn64tab", laid_math_bits_deBruijn64tab)] }
def MissingHoldsSaid : Prop := missingHoldsRow.holds Tryd.pinned (OpenSpec.ofChange missingHoldsSpec)

/-- ITS FALSE NEIGHBOUR: 'it returns false'. Refute it at one input. -/
def missingHoldsWrong : ChangeSpec := { name := "missingHolds", fn := fun _ => fun
  | [d1, d2, d3] => { results := [.lit (.bool false)], args := [d1, d2, d3] }
  | _ => none }
def MissingHoldsWrongFalsely : Prop := missingHoldsRow.holds Tryd.pinned (OpenSpec.ofChange missingHoldsWrong)

/-- 'bivouaclaw08.MissingMore': WHATEVER THE INPUT: true; the input reads as it did. -/
def missingMoreSpec : ChangeSpec := { name := "missingMore", fn := fun _ => fun
  | [d1, d2, d3] => { results := [.lit (.bool true)], args := [d1, d2, d3] }
  | _ => none }
def missingMoreRow : OpenClaim := { program := "ytfkbbaagifpjpaadoor", sum := "548520eb874a5d87227b59e2bb833041188943a0f46cf83164c1112f9e20f167", func := "bivouac/bivouaclaw08.MissingMore", spec := "missingMore", unfollowed := true, recurses := true, named := ["math/bits.deBruijn32tab", "math/bits.deBruijn64tab"], plainKeys := false, apart := false, laid := [("math/bits.deBruijn32tab", laid_math_bits_deBruijn32tab), ("math/bits.deBruijn64tab", laid_math_bits_deBruijn64tab)] }
def MissingMoreSaid : Prop := missingMoreRow.holds Tryd.pinned (OpenSpec.ofChange missingMoreSpec)

/-- ITS FALSE NEIGHBOUR: 'it returns false'. Refute it at one input. -/
def missingMoreWrong : ChangeSpec := { name := "missingMore", fn := fun _ => fun
  | [d1, d2, d3] => { results := [.lit (.bool false)], args := [d1, d2, d3] }
  | _ => none }
def MissingMoreWrongFalsely : Prop := missingMoreRow.holds Tryd.pinned (OpenSpec.ofChange missingMoreWrong)

/-- 'bivouaclaw08.MissingSorted': WHATEVER THE INPUT: true; the input reads as it did. -/
def missingSortedSpec : ChangeSpec := { name := "missingSorted", fn := fun _ => fun
  | [d1, d2] => { results := [.lit (.bool true)], args := [d1, d2] }
  | _ => none }
def missingSortedRow : OpenClaim := { program := "ytfkbbaagifpjpaadoor", sum := "548520eb874a5d87227b59e2bb833041188943a0f46cf83164c1112f9e20f167", func := "bivouac/bivouaclaw08.MissingSorted", spec := "missingSorted", unfollowed := true, recurses := true, named := ["math/bits.deBruijn32tab", "math/bits.deBruijn64tab"], plainKeys := false, apart := false, laid := [("math/bits.deBruijn32tab", laid_math_bits_deBruijn32tab), ("math/bits.deBruijn64tab", laid_math_bits_deBruijn64tab)] }
def MissingSortedSaid : Prop := missingSortedRow.holds Tryd.pinned (OpenSpec.ofChange missingSortedSpec)

/-- ITS FALSE NEIGHBOUR: 'it returns false'. Refute it at one input. -/
def missingSortedWrong : ChangeSpec := { name := "missingSorted", fn := fun _ => fun
  | [d1, d2] => { results := [.lit (.bool false)], args := [d1, d2] }
  | _ => none }
def MissingSortedWrongFalsely : Prop := missingSortedRow.holds Tryd.pinned (OpenSpec.ofChange missingSortedWrong)

/-- 'bivouaclaw08.MissingWay': WHATEVER THE INPUT: true; the input reads as it did. -/
def missingWaySpec : ChangeSpec := { name := "missingWay", fn := fun _ => fun
  | [d1, d2, d3] => { results := [.lit (.bool true)], args := [d1, d2, d3] }
  | _ => none }
def missingWayRow : OpenClaim := { program := "ytfkbbaagifpjpaadoor", sum := "548520eb874a5d87227b59e2bb833041188943a0f46cf83164c1112f9e20f167", func := "bivouac/bivouaclaw08.MissingWay", spec := "missingWay", unfollowed := true, recurses := true, named := ["math/bits.deBruijn32tab", "math/bits.deBruijn64tab"], plainKeys := false, apart := false, laid := [("math/bits.deBruijn32tab", laid_math_bits_deBruijn32tab), ("math/bits.deBruijn64tab", laid_math_bits_deBruijn64tab)] }
def MissingWaySaid : Prop := missingWayRow.holds Tryd.pinned (OpenSpec.ofChange missingWaySpec)

/-- ITS FALSE NEIGHBOUR: 'it returns false'. Refute it at one input. -/
def missingWayWrong : ChangeSpec := { name := "missingWay", fn := fun _ => fun
  | [d1, d2, d3] => { results := [.lit (.bool false)], args := [d1, d2, d3] }
  | _ => none }
def MissingWayWrongFalsely : Prop := missingWayRow.holds Tryd.pinned (OpenSpec.ofChange missingWayWrong)

/-- 'bivouaclaw08.MissingReal': WHATEVER THE INPUT: true; the input reads as it did. -/
def missingRealSpec : ChangeSpec := { name := "missingReal", fn := fun _ => fun
  | [d1, d2, d3] => { results := [.lit (.bool true)], args := [d1, d2, d3] }
  | _ => none }
def missingRealRow : OpenClaim := { program := "ytfkbbaagifpjpaadoor", sum := "548520eb874a5d87227b59e2bb833041188943a0f46cf83164c1112f9e20f167", func := "bivouac/bivouaclaw08.MissingReal", spec := "missingReal", unfollowed := true, recurses := true, named := ["math/bits.deBruijn32tab", "math/bits.deBruijn64tab"], plainKeys := false, apart := false, laid := [("math/bits.deBruijn32tab", laid_math_bits_deBruijn32tab), ("math/bits.deBruijn64tab", laid_math_bits_deBruijn64tab)] }
def MissingRealSaid : Prop := missingRealRow.holds Tryd.pinned (OpenSpec.ofChange missingRealSpec)

/-- ITS FALSE NEIGHBOUR: 'it returns false'. Refute it at one input. -/
def missingRealWrong : ChangeSpec := { name := "missingReal", fn := fun _ => fun
  | [d1, d2, d3] => { results := [.lit (.bool false)], args := [d1, d2, d3] }
  | _ => none }
def MissingRealWrongFalsely : Prop := missingRealRow.holds Tryd.pinned (OpenSpec.ofChange missingRealWrong)

/-- 'bivouaclaw08.MissingBy': WHATEVER THE INPUT: true; the input reads as it did. -/
def missingBySpec : ChangeSpec := { name := "missingBy", fn := fun _ => fun
  | [d1, d2, d3] => { results := [.lit (.bool true)], args := [d1, d2, d3] }
  | _ => none }
def missingByRow : OpenClaim := { program := "ytfkbbaagifpjpaadoor", sum := "548520eb874a5d87227b59e2bb833041188943a0f46cf83164c1112f9e20f167", func := "bivouac/bivouaclaw08.MissingBy", spec := "missingBy", unfollowed := true, recurses := true, named := ["math/bits.deBruijn32tab", "math/bits.deBruijn64tab"], plainKeys := false, apart := false, laid := [("math/bits.deBruijn32tab", laid_math_bits_deBruijn32tab), ("math/bits.deBruijn64tab", laid_math_bits_deBruijn64tab)] }
def MissingBySaid : Prop := missingByRow.holds Tryd.pinned (OpenSpec.ofChange missingBySpec)

/-- ITS FALSE NEIGHBOUR: 'it returns false'. Refute it at one input. -/
def missingByWrong : ChangeSpec := { name := "missingBy", fn := fun _ => fun
  | [d1, d2, d3] => { results := [.lit (.bool false)], args := [d1, d2, d3] }
  | _ => none }
def MissingByWrongFalsely : Prop := missingByRow.holds Tryd.pinned (OpenSpec.ofChange missingByWrong)

/-- 'bivouaclaw08.MissingLeast': WHATEVER THE INPUT: true; the input reads as it did. -/
def missingLeastSpec : ChangeSpec := { name := "missingLeast", fn := fun _ => fun
  | [d1, d2, d3] => { results := [.lit (.bool true)], args := [d1, d2, d3] }
  | _ => none }
def missingLeastRow : OpenClaim := { program := "ytfkbbaagifpjpaadoor", sum := "548520eb874a5d87227b59e2bb833041188943a0f46cf83164c1112f9e20f167", func := "bivouac/bivouaclaw08.MissingLeast", spec := "missingLeast", unfollowed := true, recurses := true, named := ["math/bits.deBruijn32tab", "math/bits.deBruijn64tab"], plainKeys := false, apart := false, laid := [("math/bits.deBruijn32tab", laid_math_bits_deBruijn32tab), ("math/bits.deBruijn64tab", laid_math_bits_deBruijn64tab)] }
def MissingLeastSaid : Prop := missingLeastRow.holds Tryd.pinned (OpenSpec.ofChange missingLeastSpec)

/-- ITS FALSE NEIGHBOUR: 'it returns false'. Refute it at one input. -/
def missingLeastWrong : ChangeSpec := { name := "missingLeast", fn := fun _ => fun
  | [d1, d2, d3] => { results := [.lit (.bool false)], args := [d1, d2, d3] }
  | _ => none }
def MissingLeastWrongFalsely : Prop := missingLeastRow.holds Tryd.pinned (OpenSpec.ofChange missingLeastWrong)

/-- 'bivouaclaw08.MissingTeams': WHATEVER THE INPUT: true; the input reads as it did. -/
def missingTeamsSpec : ChangeSpec := { name := "missingTeams", fn := fun _ => fun
  | [d1, d2] => { results := [.lit (.bool true)], args := [d1, d2] }
  | _ => none }
def missingTeamsRow : OpenClaim := { program := "ytfkbbaagifpjpaadoor", sum := "548520eb874a5d87227b59e2bb833041188943a0f46cf83164c1112f9e20f167", func := "bivouac/bivouaclaw08.MissingTeams", spec := "missingTeams", unfollowed := true, recurses := true, named := ["math/bits.deBruijn32tab", "math/bits.deBruijn64tab"], plainKeys := false, apart := false, laid := [("math/bits.deBruijn32tab", laid_math_bits_deBruijn32tab), ("math/bits.deBruijn64tab", laid_math_bits_deBruijn64tab)] }
def MissingTeamsSaid : Prop := missingTeamsRow.holds Tryd.pinned (OpenSpec.ofChange missingTeamsSpec)

/-- ITS FALSE NEIGHBOUR: 'it returns false'. Refute it at one input. -/
def missingTeamsWrong : ChangeSpec := { name := "missingTeams", fn := fun _ => fun
  | [d1, d2] => { results := [.lit (.bool false)], args := [d1, d2] }
  | _ => none }
def MissingTeamsWrongFalsely : Prop := missingTeamsRow.holds Tryd.pinned (OpenSpec.ofChange missingTeamsWrong)

/-- 'bivouaclaw08.MissingNamed': WHATEVER THE INPUT: true; the input reads as it did. -/
def missingNamedSpec : ChangeSpec := { name := "missingNamed", fn := fun _ => fun
  | [d1, d2] => { results := [.lit (.bool true)], args := [d1, d2] }
  | _ => none }
def missingNamedRow : OpenClaim := { program := "ytfkbbaagifpjpaadoor", sum := "548520eb874a5d87227b59e2bb833041188943a0f46cf83164c1112f9e20f167", func := "bivouac/bivouaclaw08.MissingNamed", spec := "missingNamed", unfollowed := true, recurses := true, named := ["math/bits.deBruijn32tab", "math/bits.deBruijn64tab"], plainKeys := false, apart := false, laid := [("math/bits.deBruijn32tab", laid_math_bits_deBruijn32tab), ("math/bits.deBruijn64tab", laid_math_bits_deBruijn64tab)] }
def MissingNamedSaid : Prop := missingNamedRow.holds Tryd.pinned (OpenSpec.ofChange missingNamedSpec)

/-- ITS FALSE NEIGHBOUR: 'it returns false'. Refute it at one input. -/
def missingNamedWrong : ChangeSpec := { name := "missingNamed", fn := fun _ => fun
  | [d1, d2] => { results := [.lit (.bool false)], args := [d1, d2] }
  | _ => none }
def MissingNamedWrongFalsely : Prop := missingNamedRow.holds Tryd.pinned (OpenSpec.ofChange missingNamedWrong)

/- THE SECOND FORM. 'bulk': how many values and letters a reading holds, each counted each time it is reached (what is shared counts as often as it is met; a slice's spare places count too). A statement '..UptoSaid' is the law's where the arguments, and the package variables that the reading takes, are together of bulk at most 1048576: NARROWER than '..Said'. Prove '..Said' where nothing that the law and all that it calls make is longer than what came in: it says more and counts as full. Else prove '..UptoSaid'. A law counts once. -/
mutual
def uptoBulk {H : Type} : DataW H → Nat
  | .lit (.string bytes) => bytes.length + 1
  | .lit _ => 1
  | .nil => 1
  | .ptr d => uptoBulk d + 1
  | .slice elems spare => uptoBulkAll elems + uptoBulkAll spare + 1
  | .agg parts => uptoBulkAll parts + 1
  | .iface _ d => uptoBulk d + 1
  | .map entries => uptoBulkEntries entries + 1
  | .held _ => 1
def uptoBulkAll {H : Type} : List (DataW H) → Nat
  | [] => 0
  | d :: r => uptoBulk d + uptoBulkAll r
def uptoBulkEntries {H : Type} : List (Lit × DataW H) → Nat
  | [] => 0
  | x :: r => uptoBulkEntry x + uptoBulkEntries r
def uptoBulkEntry {H : Type} : Lit × DataW H → Nat
  | (.string bytes, d) => bytes.length + uptoBulk d + 1
  | (_, d) => uptoBulk d + 1
 end
def uptoSmall : (H : Type) → List (DataW H) → Bool := fun _ ds => decide (uptoBulkAll ds ≤ 1048576)
def OpenSpec.upto (s : _root_.Go.ChangeSpec) : _root_.Go.OpenSpec := { _root_.Go.OpenSpec.ofChange s with cond := some uptoSmall }

/-- 'bivouaclaw08.MissingHolds', WHERE WHAT IT READS IS OF BULK AT MOST 1048576: true; the input reads as it did. -/
def missingHoldsUptoRow : OpenClaim := { program := "ytfkbbaagifpjpaadoor", sum := "548520eb874a5d87227b59e2bb833041188943a0f46cf83164c1112f9e20f167", func := "bivouac/bivouaclaw08.MissingHolds", spec := "missingHolds", unfollowed := true, recurses := true, named := ["math/bits.deBruijn32tab", "math/bits.deBruijn64tab"], plainKeys := false, apart := false, laid := [("math/bits.deBruijn32tab", laid_math_bits_deBruijn32tab), ("math/bits.deBruijn64tab", laid_math_bits_deBruijn64tab)], narrowed := true }
def MissingHoldsUptoSaid : Prop := missingHoldsUptoRow.holds Tryd.pinned (OpenSpec.upto missingHoldsSpec)

/-- 'bivouaclaw08.MissingMore', WHERE WHAT IT READS IS OF BULK AT MOST 1048576: true; the input reads as it did. -/
def missingMoreUptoRow : OpenClaim := { program := "ytfkbbaagifpjpaadoor", sum := "548520eb874a5d87227b59e2bb833041188943a0f46cf83164c1112f9e20f167", func := "bivouac/bivouaclaw08.MissingMore", spec := "missingMore", unfollowed := true, recurses := true, named := ["math/bits.deBruijn32tab", "math/bits.deBruijn64tab"], plainKeys := false, apart := false, laid := [("math/bits.deBruijn32tab", laid_math_bits_deBruijn32tab), ("math/bits.deBruijn64tab", laid_math_bits_deBruijn64tab)], narrowed := true }
def MissingMoreUptoSaid : Prop := missingMoreUptoRow.holds Tryd.pinned (OpenSpec.upto missingMoreSpec)

/-- 'bivouaclaw08.MissingSorted', WHERE WHAT IT READS IS OF BULK AT MOST 1048576: true; the input reads as it did. -/
def missingSortedUptoRow : OpenClaim := { program := "ytfkbbaagifpjpaadoor", sum := "548520eb874a5d87227b59e2bb833041188943a0f46cf83164c1112f9e20f167", func := "bivouac/bivouaclaw08.MissingSorted", spec := "missingSorted", unfollowed := true, recurses := true, named := ["math/bits.deBruijn32tab", "math/bits.deBruijn64tab"], plainKeys := false, apart := false, laid := [("math/bits.deBruijn32tab", laid_math_bits_deBruijn32tab), ("math/bits.deBruijn64tab", laid_math_bits_deBruijn64tab)], narrowed := true }
def MissingSortedUptoSaid : Prop := missingSortedUptoRow.holds Tryd.pinned (OpenSpec.upto missingSortedSpec)

/-- 'bivouaclaw08.MissingWay', WHERE WHAT IT READS IS OF BULK AT MOST 1048576: true; the input reads as it did. -/
def missingWayUptoRow : OpenClaim := { program := "ytfkbbaagifpjpaadoor", sum := "548520eb874a5d87227b59e2bb833041188943a0f46cf83164c1112f9e20f167", func := "bivouac/bivouaclaw08.MissingWay", spec := "missingWay", unfollowed := true, recurses := true, named := ["math/bits.deBruijn32tab", "math/bits.deBruijn64tab"], plainKeys := false, apart := false, laid := [("math/bits.deBruijn32tab", laid_math_bits_deBruijn32tab), ("math/bits.deBruijn64tab", laid_math_bits_deBruijn64tab)], narrowed := true }
def MissingWayUptoSaid : Prop := missingWayUptoRow.holds Tryd.pinned (OpenSpec.upto missingWaySpec)

/-- 'bivouaclaw08.MissingReal', WHERE WHAT IT READS IS OF BULK AT MOST 1048576: true; the input reads as it did. -/
def missingRealUptoRow : OpenClaim := { program := "ytfkbbaagifpjpaadoor", sum := "548520eb874a5d87227b59e2bb833041188943a0f46cf83164c1112f9e20f167", func := "bivouac/bivouaclaw08.MissingReal", spec := "missingReal", unfollowed := true, recurses := true, named := ["math/bits.deBruijn32tab", "math/bits.deBruijn64tab"], plainKeys := false, apart := false, laid := [("math/bits.deBruijn32tab", laid_math_bits_deBruijn32tab), ("math/bits.deBruijn64tab", laid_math_bits_deBruijn64tab)], narrowed := true }
def MissingRealUptoSaid : Prop := missingRealUptoRow.holds Tryd.pinned (OpenSpec.upto missingRealSpec)

/-- 'bivouaclaw08.MissingBy', WHERE WHAT IT READS IS OF BULK AT MOST 1048576: true; the input reads as it did. -/
def missingByUptoRow : OpenClaim := { program := "ytfkbbaagifpjpaadoor", sum := "548520eb874a5d87227b59e2bb833041188943a0f46cf83164c1112f9e20f167", func := "bivouac/bivouaclaw08.MissingBy", spec := "missingBy", unfollowed := true, recurses := true, named := ["math/bits.deBruijn32tab", "math/bits.deBruijn64tab"], plainKeys := false, apart := false, laid := [("math/bits.deBruijn32tab", laid_math_bits_deBruijn32tab), ("math/bits.deBruijn64tab", laid_math_bits_deBruijn64tab)], narrowed := true }
def MissingByUptoSaid : Prop := missingByUptoRow.holds Tryd.pinned (OpenSpec.upto missingBySpec)

/-- 'bivouaclaw08.MissingLeast', WHERE WHAT IT READS IS OF BULK AT MOST 1048576: true; the input reads as it did. -/
def missingLeastUptoRow : OpenClaim := { program := "ytfkbbaagifpjpaadoor", sum := "548520eb874a5d87227b59e2bb833041188943a0f46cf83164c1112f9e20f167", func := "bivouac/bivouaclaw08.MissingLeast", spec := "missingLeast", unfollowed := true, recurses := true, named := ["math/bits.deBruijn32tab", "math/bits.deBruijn64tab"], plainKeys := false, apart := false, laid := [("math/bits.deBruijn32tab", laid_math_bits_deBruijn32tab), ("math/bits.deBruijn64tab", laid_math_bits_deBruijn64tab)], narrowed := true }
def MissingLeastUptoSaid : Prop := missingLeastUptoRow.holds Tryd.pinned (OpenSpec.upto missingLeastSpec)

/-- 'bivouaclaw08.MissingTeams', WHERE WHAT IT READS IS OF BULK AT MOST 1048576: true; the input reads as it did. -/
def missingTeamsUptoRow : OpenClaim := { program := "ytfkbbaagifpjpaadoor", sum := "548520eb874a5d87227b59e2bb833041188943a0f46cf83164c1112f9e20f167", func := "bivouac/bivouaclaw08.MissingTeams", spec := "missingTeams", unfollowed := true, recurses := true, named := ["math/bits.deBruijn32tab", "math/bits.deBruijn64tab"], plainKeys := false, apart := false, laid := [("math/bits.deBruijn32tab", laid_math_bits_deBruijn32tab), ("math/bits.deBruijn64tab", laid_math_bits_deBruijn64tab)], narrowed := true }
def MissingTeamsUptoSaid : Prop := missingTeamsUptoRow.holds Tryd.pinned (OpenSpec.upto missingTeamsSpec)

/-- 'bivouaclaw08.MissingNamed', WHERE WHAT IT READS IS OF BULK AT MOST 1048576: true; the input reads as it did. -/
def missingNamedUptoRow : OpenClaim := { program := "ytfkbbaagifpjpaadoor", sum := "548520eb874a5d87227b59e2bb833041188943a0f46cf83164c1112f9e20f167", func := "bivouac/bivouaclaw08.MissingNamed", spec := "missingNamed", unfollowed := true, recurses := true, named := ["math/bits.deBruijn32tab", "math/bits.deBruijn64tab"], plainKeys := false, apart := false, laid := [("math/bits.deBruijn32tab", laid_math_bits_deBruijn32tab), ("math/bits.deBruijn64tab", laid_math_bits_deBruijn64tab)], narrowed := true }
def MissingNamedUptoSaid : Prop := missingNamedUptoRow.holds Tryd.pinned (OpenSpec.upto missingNamedSpec)

end Rows
end Go.Proofs.YtfkbbaagifpjpaaDoor
