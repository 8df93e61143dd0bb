/- KitchenWaits returns true and leaves its input as it was, where what it reads is of bulk at most 1048576. -/
import Derived.Test.YtgjnckiifffneaaGreatWf
import Derived.WalkKit
import Derived.ProofKit
import Derived.OpenShut
import Derived.JoinedCond
set_option linter.unusedSimpArgs false
namespace Go.Proofs.YtgjnckiifffneaaGreat.KitchenWaitsUpto
open Go.ChangeShapes Go.WideShapes Go.ChangeAt Go.RowKit Go.Ab
set_option linter.unusedVariables false

theorem own : ownKnob Tryz.prog.godebug = none := by kernel_rfl

theorem walked : ∀ xs, AllC [aQ, aM, aO] xs → Go.Ab.Fn Tryz.prog 3 xs (.bool true) := by
  intro xs h
  obtain ⟨_, _, _, rfl, ⟨k, rfl, hk⟩, ⟨M, rfl, hM, hM2⟩, ⟨z, rfl, hz, _⟩⟩ := allC3 h
  exact zf3 k M z.supp z.carrier z.len hk hM hM2 hz

theorem spec (H : Type) (ds : List (DataW H)) (h : ds.length = [aQ, aM, aO].length) : Rows.kitchenWaitsSpec.fn H ds = { results := [.lit (.bool true)], args := ds } := by
  match ds, h with
  | [a, b, c], _ => rfl

set_option maxHeartbeats 4000000 in
set_option maxRecDepth 100000 in
theorem lifted (os : Os) (started : os.Started) (H : Type) (enc : TypeId × Value → H) (F : Stop.Interp) :
    ReturnsInHanded {} Tryz.checked os 3 .any ((Rows.OpenSpec.upto Rows.kitchenWaitsSpec).pre6 enc Tryz.prog Tryz.f3 Rows.kitchenWaitsUptoRow.domain false) (((Rows.OpenSpec.upto Rows.kitchenWaitsSpec).at F).post enc Tryz.prog Tryz.f3 false true false false) := by
  refine returnsInHanded_of_cond (C := Tryz.checked) (s := Rows.OpenSpec.upto Rows.kitchenWaitsSpec) (k := Rows.uptoSmall) rfl own started (by kernel_rfl) Tryz.func3
    (OpenSpec.witness (enc := enc) (C := Tryz.checked) (s := Rows.OpenSpec.upto Rows.kitchenWaitsSpec) (k := Rows.uptoSmall) rfl false
      ⟨#[], #[.agg #[.slice none 0 0, .slice none 0 0, .slice none 0 0, .slice none 0 0], .slice none 0 0, .agg #[.slice none 0 0, .slice none 0 0, .int .i64 0, .int .i64 0, .int .i64 0, .int .i64 0, .int .i64 0, .slice none 0 0, .int .i64 0, .int .i64 0]], []⟩ 8 (by kernel_rfl) (by kernel_rfl) (by kernel_rfl)
      (x := ([.agg [.nil, .nil, .nil, .nil], .nil, .agg [.agg [.agg [.nil], .nil, .agg [.lit (.int .i64 0), .lit (.int .i64 0), .lit (.int .i64 0), .agg [.lit (.int .i64 0), .lit (.int .i64 0)]], .nil], .lit (.int .i64 0), .lit (.int .i64 0)]], [], [])) (by kernel_rfl) rfl (by kernel_rfl)) ?_
  intro W base args ds gs before hval hW _ hk _
  exact link [aQ, aM, aO] (by intro c hc; rcases List.mem_cons.1 hc with rfl | hc; exact rdKit; rcases List.mem_cons.1 hc with rfl | hc; exact z1163; rcases List.mem_cons.1 hc with rfl | hc; exact z1162; cases hc) walked Tryz.params3 (by kernel_rfl) Rows.kitchenWaitsSpec rfl spec hval hW hk

theorem over : Rows.kitchenWaitsUptoRow.holds Tryz.pinned (Rows.OpenSpec.upto Rows.kitchenWaitsSpec) :=
  OpenClaim.holds_of_cond 3 Tryz.f3 rfl rfl rfl rfl rfl rfl rfl ⟨rfl, rfl, rfl, rfl, rfl⟩ rfl rfl rfl rfl rfl (by kernel_rfl) Tryz.func3 (by kernel_rfl)
    (of_decide_eq_true (by kernel_rfl)) (by unfold Func.isWrapper; first | (rw [if_pos (by decide +kernel)]; kernel_rfl) | (rw [if_neg (by decide +kernel)]; exact ⟨rfl, rfl⟩))
    (fun os started H enc _ F => lifted os started H enc F)

theorem proved : Rows.KitchenWaitsUptoSaid :=
  over
#print axioms proved
end Go.Proofs.YtgjnckiifffneaaGreat.KitchenWaitsUpto


