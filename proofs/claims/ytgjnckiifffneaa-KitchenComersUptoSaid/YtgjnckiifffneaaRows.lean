/-
  No cell of these rows narrows 'for every input' (looked for: loops, veiled, ifaces, maps, wideKeys, modest, calm, conditions, laid).
  DERIVED. THE GIVEN ROWS OF THIS SEAT. 8 by the template 'for every input the law returns true; each argument reads behind the call as it read before'; 0 by the template 'total and deterministic' (their statements: YtgjnckiifffneaaTotals.lean).
  GIVEN WITH THE SEED: the statements are not yours to turn. If you find one false, say at which input.
  Laid BY PROGRAM, IN A SANDBOX (cutbox-rows.mjs): the forced cells as the released guide's own fill.sh prints them over the translation 21a8d79430f4c835… (all of the seat's roots in one cut). By AI agents, Wed Nov 11 2026. No macro, syntax, notation, axiom, sorry.
-/
import Derived.Test.YtgjnckiifffneaaChecked
import GoSem.Claim
import GoSem.ClaimJoined
import GoSem.ClaimMapViews
import Derived.JoinedTies
import Derived.KernelRfl
namespace Go.Proofs.Ytgjnckiifffneaa
/- THE CELL 'sum', in the pinned program and in every row, IS THE sha256 OF THE DUMP (.gsa) THAT YtgjnckiifffneaaProg.lean LOADS. Nothing in Lean hashes anything: it is a label: what it is worth is what the hold of that sum in a sandbox is worth. -/
noncomputable def Try.pinned : Pinned := { name := "ytgjnckiifffneaa", sum := "21a8d79430f4c8357de61ea4a27ab42546d9057e9722c3d0ec9c7eec6fdabcf4", checked := Try.checked }
namespace Rows
def none {H : Type} : Left H := { results := [], args := [] }

/-- 'bivouaclaw07.KitchenPlans': WHATEVER THE INPUT: true; the input reads as it did. -/
def kitchenPlansSpec : ChangeSpec := { name := "kitchenPlans", fn := fun _ => fun
  | [d1, d2] => { results := [.lit (.bool true)], args := [d1, d2] }
  | _ => none }
def kitchenPlansRow : OpenClaim := { program := "ytgjnckiifffneaa", sum := "21a8d79430f4c8357de61ea4a27ab42546d9057e9722c3d0ec9c7eec6fdabcf4", func := "bivouac/bivouaclaw07.KitchenPlans", spec := "kitchenPlans", unfollowed := true, recurses := true, plainKeys := false, apart := false }
def KitchenPlansSaid : Prop := kitchenPlansRow.holds Try.pinned (OpenSpec.ofChange kitchenPlansSpec)

/-- ITS FALSE NEIGHBOUR: 'it returns false'. Refute it at one input. -/
def kitchenPlansWrong : ChangeSpec := { name := "kitchenPlans", fn := fun _ => fun
  | [d1, d2] => { results := [.lit (.bool false)], args := [d1, d2] }
  | _ => none }
def KitchenPlansWrongFalsely : Prop := kitchenPlansRow.holds Try.pinned (OpenSpec.ofChange kitchenPlansWrong)

/-- 'bivouaclaw07.KitchenKept': WHATEVER THE INPUT: true; the input reads as it did. -/
def kitchenKeptSpec : ChangeSpec := { name := "kitchenKept", fn := fun _ => fun
  | [d1, d2] => { results := [.lit (.bool true)], args := [d1, d2] }
  | _ => none }
def kitchenKeptRow : OpenClaim := { program := "ytgjnckiifffneaa", sum := "21a8d79430f4c8357de61ea4a27ab42546d9057e9722c3d0ec9c7eec6fdabcf4", func := "bivouac/bivouaclaw07.KitchenKept", spec := "kitchenKept", unfollowed := true, recurses := true, plainKeys := false, apart := false }
def KitchenKeptSaid : Prop := kitchenKeptRow.holds Try.pinned (OpenSpec.ofChange kitchenKeptSpec)

/-- ITS FALSE NEIGHBOUR: 'it returns false'. Refute it at one input. -/
def kitchenKeptWrong : ChangeSpec := { name := "kitchenKept", fn := fun _ => fun
  | [d1, d2] => { results := [.lit (.bool false)], args := [d1, d2] }
  | _ => none }
def KitchenKeptWrongFalsely : Prop := kitchenKeptRow.holds Try.pinned (OpenSpec.ofChange kitchenKeptWrong)

/-- 'bivouaclaw07.KitchenComers': WHATEVER THE INPUT: true; the input reads as it did. -/
def kitchenComersSpec : ChangeSpec := { name := "kitchenComers", fn := fun _ => fun
  | [d1, d2, d3] => { results := [.lit (.bool true)], args := [d1, d2, d3] }
  | _ => none }
def kitchenComersRow : OpenClaim := { program := "ytgjnckiifffneaa", sum := "21a8d79430f4c8357de61ea4a27ab42546d9057e9722c3d0ec9c7eec6fdabcf4", func := "bivouac/bivouaclaw07.KitchenComers", spec := "kitchenComers", unfollowed := true, recurses := true, plainKeys := false, apart := false }
def KitchenComersSaid : Prop := kitchenComersRow.holds Try.pinned (OpenSpec.ofChange kitchenComersSpec)

/-- ITS FALSE NEIGHBOUR: 'it returns false'. Refute it at one input. -/
def kitchenComersWrong : ChangeSpec := { name := "kitchenComers", fn := fun _ => fun
  | [d1, d2, d3] => { results := [.lit (.bool false)], args := [d1, d2, d3] }
  | _ => none }
def KitchenComersWrongFalsely : Prop := kitchenComersRow.holds Try.pinned (OpenSpec.ofChange kitchenComersWrong)

/-- 'bivouaclaw07.KitchenThrift': WHATEVER THE INPUT: true; the input reads as it did. -/
def kitchenThriftSpec : ChangeSpec := { name := "kitchenThrift", fn := fun _ => fun
  | [d1, d2] => { results := [.lit (.bool true)], args := [d1, d2] }
  | _ => none }
def kitchenThriftRow : OpenClaim := { program := "ytgjnckiifffneaa", sum := "21a8d79430f4c8357de61ea4a27ab42546d9057e9722c3d0ec9c7eec6fdabcf4", func := "bivouac/bivouaclaw07.KitchenThrift", spec := "kitchenThrift", unfollowed := true, recurses := true, plainKeys := false, apart := false }
def KitchenThriftSaid : Prop := kitchenThriftRow.holds Try.pinned (OpenSpec.ofChange kitchenThriftSpec)

/-- ITS FALSE NEIGHBOUR: 'it returns false'. Refute it at one input. -/
def kitchenThriftWrong : ChangeSpec := { name := "kitchenThrift", fn := fun _ => fun
  | [d1, d2] => { results := [.lit (.bool false)], args := [d1, d2] }
  | _ => none }
def KitchenThriftWrongFalsely : Prop := kitchenThriftRow.holds Try.pinned (OpenSpec.ofChange kitchenThriftWrong)

/-- 'bivouaclaw07.KitchenOrdered': WHATEVER THE INPUT: true; the input reads as it did. -/
def kitchenOrderedSpec : ChangeSpec := { name := "kitchenOrdered", fn := fun _ => fun
  | [d1, d2, d3] => { results := [.lit (.bool true)], args := [d1, d2, d3] }
  | _ => none }
def kitchenOrderedRow : OpenClaim := { program := "ytgjnckiifffneaa", sum := "21a8d79430f4c8357de61ea4a27ab42546d9057e9722c3d0ec9c7eec6fdabcf4", func := "bivouac/bivouaclaw07.KitchenOrdered", spec := "kitchenOrdered", unfollowed := true, recurses := true, plainKeys := false, apart := false }
def KitchenOrderedSaid : Prop := kitchenOrderedRow.holds Try.pinned (OpenSpec.ofChange kitchenOrderedSpec)

/-- ITS FALSE NEIGHBOUR: 'it returns false'. Refute it at one input. -/
def kitchenOrderedWrong : ChangeSpec := { name := "kitchenOrdered", fn := fun _ => fun
  | [d1, d2, d3] => { results := [.lit (.bool false)], args := [d1, d2, d3] }
  | _ => none }
def KitchenOrderedWrongFalsely : Prop := kitchenOrderedRow.holds Try.pinned (OpenSpec.ofChange kitchenOrderedWrong)

/-- 'bivouaclaw07.KitchenMore': WHATEVER THE INPUT: true; the input reads as it did. -/
def kitchenMoreSpec : ChangeSpec := { name := "kitchenMore", fn := fun _ => fun
  | [d1, d2, d3] => { results := [.lit (.bool true)], args := [d1, d2, d3] }
  | _ => none }
def kitchenMoreRow : OpenClaim := { program := "ytgjnckiifffneaa", sum := "21a8d79430f4c8357de61ea4a27ab42546d9057e9722c3d0ec9c7eec6fdabcf4", func := "bivouac/bivouaclaw07.KitchenMore", spec := "kitchenMore", unfollowed := true, recurses := true, plainKeys := false, apart := false }
def KitchenMoreSaid : Prop := kitchenMoreRow.holds Try.pinned (OpenSpec.ofChange kitchenMoreSpec)

/-- ITS FALSE NEIGHBOUR: 'it returns false'. Refute it at one input. -/
def kitchenMoreWrong : ChangeSpec := { name := "kitchenMore", fn := fun _ => fun
  | [d1, d2, d3] => { results := [.lit (.bool false)], args := [d1, d2, d3] }
  | _ => none }
def KitchenMoreWrongFalsely : Prop := kitchenMoreRow.holds Try.pinned (OpenSpec.ofChange kitchenMoreWrong)

/-- 'bivouaclaw07.KitchenAllergies': WHATEVER THE INPUT: true; the input reads as it did. -/
def kitchenAllergiesSpec : ChangeSpec := { name := "kitchenAllergies", fn := fun _ => fun
  | [d1, d2] => { results := [.lit (.bool true)], args := [d1, d2] }
  | _ => none }
def kitchenAllergiesRow : OpenClaim := { program := "ytgjnckiifffneaa", sum := "21a8d79430f4c8357de61ea4a27ab42546d9057e9722c3d0ec9c7eec6fdabcf4", func := "bivouac/bivouaclaw07.KitchenAllergies", spec := "kitchenAllergies", unfollowed := true, recurses := true, plainKeys := false, apart := false }
def KitchenAllergiesSaid : Prop := kitchenAllergiesRow.holds Try.pinned (OpenSpec.ofChange kitchenAllergiesSpec)

/-- ITS FALSE NEIGHBOUR: 'it returns false'. Refute it at one input. -/
def kitchenAllergiesWrong : ChangeSpec := { name := "kitchenAllergies", fn := fun _ => fun
  | [d1, d2] => { results := [.lit (.bool false)], args := [d1, d2] }
  | _ => none }
def KitchenAllergiesWrongFalsely : Prop := kitchenAllergiesRow.holds Try.pinned (OpenSpec.ofChange kitchenAllergiesWrong)

/-- 'bivouaclaw07.KitchenCooks': WHATEVER THE INPUT: true; the input reads as it did. -/
def kitchenCooksSpec : ChangeSpec := { name := "kitchenCooks", fn := fun _ => fun
  | [d1, d2] => { results := [.lit (.bool true)], args := [d1, d2] }
  | _ => none }
def kitchenCooksRow : OpenClaim := { program := "ytgjnckiifffneaa", sum := "21a8d79430f4c8357de61ea4a27ab42546d9057e9722c3d0ec9c7eec6fdabcf4", func := "bivouac/bivouaclaw07.KitchenCooks", spec := "kitchenCooks", unfollowed := true, recurses := true, plainKeys := false, apart := false }
def KitchenCooksSaid : Prop := kitchenCooksRow.holds Try.pinned (OpenSpec.ofChange kitchenCooksSpec)

/-- ITS FALSE NEIGHBOUR: 'it returns false'. Refute it at one input. -/
def kitchenCooksWrong : ChangeSpec := { name := "kitchenCooks", fn := fun _ => fun
  | [d1, d2] => { results := [.lit (.bool false)], args := [d1, d2] }
  | _ => none }
def KitchenCooksWrongFalsely : Prop := kitchenCooksRow.holds Try.pinned (OpenSpec.ofChange kitchenCooksWrong)

/- THE SECOND FORM. 'bulk': how many values and letters a reading holds, each counted each time it is reached (what is shared counts as often as it is met; a slice's spare places count too). A statement '..UptoSaid' is the law's where the arguments, and the package variables that the reading takes, are together of bulk at most 1048576: NARROWER than '..Said'. Prove '..Said' where nothing that the law and all that it calls make is longer than what came in: it says more and counts as full. Else prove '..UptoSaid'. A law counts once. -/
mutual
def uptoBulk {H : Type} : DataW H → Nat
  | .lit (.string bytes) => bytes.length + 1
  | .lit _ => 1
  | .nil => 1
  | .ptr d => uptoBulk d + 1
  | .slice elems spare => uptoBulkAll elems + uptoBulkAll spare + 1
  | .agg parts => uptoBulkAll parts + 1
  | .iface _ d => uptoBulk d + 1
  | .map entries => uptoBulkEntries entries + 1
  | .held _ => 1
def uptoBulkAll {H : Type} : List (DataW H) → Nat
  | [] => 0
  | d :: r => uptoBulk d + uptoBulkAll r
def uptoBulkEntries {H : Type} : List (Lit × DataW H) → Nat
  | [] => 0
  | x :: r => uptoBulkEntry x + uptoBulkEntries r
def uptoBulkEntry {H : Type} : Lit × DataW H → Nat
  | (.string bytes, d) => bytes.length + uptoBulk d + 1
  | (_, d) => uptoBulk d + 1
 end
def uptoSmall : (H : Type) → List (DataW H) → Bool := fun _ ds => decide (uptoBulkAll ds ≤ 1048576)
def OpenSpec.upto (s : _root_.Go.ChangeSpec) : _root_.Go.OpenSpec := { _root_.Go.OpenSpec.ofChange s with cond := some uptoSmall }

/-- 'bivouaclaw07.KitchenPlans', WHERE WHAT IT READS IS OF BULK AT MOST 1048576: true; the input reads as it did. -/
def kitchenPlansUptoRow : OpenClaim := { program := "ytgjnckiifffneaa", sum := "21a8d79430f4c8357de61ea4a27ab42546d9057e9722c3d0ec9c7eec6fdabcf4", func := "bivouac/bivouaclaw07.KitchenPlans", spec := "kitchenPlans", unfollowed := true, recurses := true, plainKeys := false, apart := false, narrowed := true }
def KitchenPlansUptoSaid : Prop := kitchenPlansUptoRow.holds Try.pinned (OpenSpec.upto kitchenPlansSpec)

/-- 'bivouaclaw07.KitchenKept', WHERE WHAT IT READS IS OF BULK AT MOST 1048576: true; the input reads as it did. -/
def kitchenKeptUptoRow : OpenClaim := { program := "ytgjnckiifffneaa", sum := "21a8d79430f4c8357de61ea4a27ab42546d9057e9722c3d0ec9c7eec6fdabcf4", func := "bivouac/bivouaclaw07.KitchenKept", spec := "kitchenKept", unfollowed := true, recurses := true, plainKeys := false, apart := false, narrowed := true }
def KitchenKeptUptoSaid : Prop := kitchenKeptUptoRow.holds Try.pinned (OpenSpec.upto kitchenKeptSpec)

/-- 'bivouaclaw07.KitchenComers', WHERE WHAT IT READS IS OF BULK AT MOST 1048576: true; the input reads as it did. -/
def kitchenComersUptoRow : OpenClaim := { program := "ytgjnckiifffneaa", sum := "21a8d79430f4c8357de61ea4a27ab42546d9057e9722c3d0ec9c7eec6fdabcf4", func := "bivouac/bivouaclaw07.KitchenComers", spec := "kitchenComers", unfollowed := true, recurses := true, plainKeys := false, apart := false, narrowed := true }
def KitchenComersUptoSaid : Prop := kitchenComersUptoRow.holds Try.pinned (OpenSpec.upto kitchenComersSpec)

/-- 'bivouaclaw07.KitchenThrift', WHERE WHAT IT READS IS OF BULK AT MOST 1048576: true; the input reads as it did. -/
def kitchenThriftUptoRow : OpenClaim := { program := "ytgjnckiifffneaa", sum := "21a8d79430f4c8357de61ea4a27ab42546d9057e9722c3d0ec9c7eec6fdabcf4", func := "bivouac/bivouaclaw07.KitchenThrift", spec := "kitchenThrift", unfollowed := true, recurses := true, plainKeys := false, apart := false, narrowed := true }
def KitchenThriftUptoSaid : Prop := kitchenThriftUptoRow.holds Try.pinned (OpenSpec.upto kitchenThriftSpec)

/-- 'bivouaclaw07.KitchenOrdered', WHERE WHAT IT READS IS OF BULK AT MOST 1048576: true; the input reads as it did. -/
def kitchenOrderedUptoRow : OpenClaim := { program := "ytgjnckiifffneaa", sum := "21a8d79430f4c8357de61ea4a27ab42546d9057e9722c3d0ec9c7eec6fdabcf4", func := "bivouac/bivouaclaw07.KitchenOrdered", spec := "kitchenOrdered", unfollowed := true, recurses := true, plainKeys := false, apart := false, narrowed := true }
def KitchenOrderedUptoSaid : Prop := kitchenOrderedUptoRow.holds Try.pinned (OpenSpec.upto kitchenOrderedSpec)

/-- 'bivouaclaw07.KitchenMore', WHERE WHAT IT READS IS OF BULK AT MOST 1048576: true; the input reads as it did. -/
def kitchenMoreUptoRow : OpenClaim := { program := "ytgjnckiifffneaa", sum := "21a8d79430f4c8357de61ea4a27ab42546d9057e9722c3d0ec9c7eec6fdabcf4", func := "bivouac/bivouaclaw07.KitchenMore", spec := "kitchenMore", unfollowed := true, recurses := true, plainKeys := false, apart := false, narrowed := true }
def KitchenMoreUptoSaid : Prop := kitchenMoreUptoRow.holds Try.pinned (OpenSpec.upto kitchenMoreSpec)

/-- 'bivouaclaw07.KitchenAllergies', WHERE WHAT IT READS IS OF BULK AT MOST 1048576: true; the input reads as it did. -/
def kitchenAllergiesUptoRow : OpenClaim := { program := "ytgjnckiifffneaa", sum := "21a8d79430f4c8357de61ea4a27ab42546d9057e9722c3d0ec9c7eec6fdabcf4", func := "bivouac/bivouaclaw07.KitchenAllergies", spec := "kitchenAllergies", unfollowed := true, recurses := true, plainKeys := false, apart := false, narrowed := true }
def KitchenAllergiesUptoSaid : Prop := kitchenAllergiesUptoRow.holds Try.pinned (OpenSpec.upto kitchenAllergiesSpec)

/-- 'bivouaclaw07.KitchenCooks', WHERE WHAT IT READS IS OF BULK AT MOST 1048576: true; the input reads as it did. -/
def kitchenCooksUptoRow : OpenClaim := { program := "ytgjnckiifffneaa", sum := "21a8d79430f4c8357de61ea4a27ab42546d9057e9722c3d0ec9c7eec6fdabcf4", func := "bivouac/bivouaclaw07.KitchenCooks", spec := "kitchenCooks", unfollowed := true, recurses := true, plainKeys := false, apart := false, narrowed := true }
def KitchenCooksUptoSaid : Prop := kitchenCooksUptoRow.holds Try.pinned (OpenSpec.upto kitchenCooksSpec)

end Rows
end Go.Proofs.Ytgjnckiifffneaa
