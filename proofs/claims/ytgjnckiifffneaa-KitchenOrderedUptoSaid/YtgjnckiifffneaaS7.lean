/- KitchenOrdered returns true and leaves its input as it was, where what it reads is of bulk at most 1048576. -/
import Derived.Test.YtgjnckiifffneaaWf
import Derived.WalkKit
import Derived.ProofKit
import Derived.OpenShut
import Derived.JoinedCond
set_option linter.unusedSimpArgs false
namespace Go.Proofs.Ytgjnckiifffneaa.KitchenOrderedUpto
open Go.ChangeShapes Go.WideShapes Go.ChangeAt Go.RowKit Go.Ab
set_option linter.unusedVariables false

theorem own : ownKnob Try.prog.godebug = none := by kernel_rfl

theorem walked : ∀ xs, AllC [aQ, aM, aZ] xs → Go.Ab.Fn Try.prog 7 xs (.bool true) := by
  intro xs h
  obtain ⟨_, _, _, rfl, ⟨k, rfl, hk⟩, ⟨M, rfl, hM, hM2⟩, ⟨a, b, rfl⟩⟩ := z1051 h
  exact zf7 k M a b hk hM hM2

theorem spec (H : Type) (ds : List (DataW H)) (h : ds.length = [aQ, aM, aZ].length) : Rows.kitchenOrderedSpec.fn H ds = { results := [.lit (.bool true)], args := ds } := by
  match ds, h with
  | [a, b, c], _ => rfl

set_option maxHeartbeats 4000000 in
set_option maxRecDepth 100000 in
theorem lifted (os : Os) (started : os.Started) (H : Type) (enc : TypeId × Value → H) (F : Stop.Interp) :
    ReturnsInHanded {} Try.checked os 7 .any ((Rows.OpenSpec.upto Rows.kitchenOrderedSpec).pre6 enc Try.prog Try.f7 Rows.kitchenOrderedUptoRow.domain false) (((Rows.OpenSpec.upto Rows.kitchenOrderedSpec).at F).post enc Try.prog Try.f7 false true false false) := by
  refine returnsInHanded_of_cond (C := Try.checked) (s := Rows.OpenSpec.upto Rows.kitchenOrderedSpec) (k := Rows.uptoSmall) rfl own started (by kernel_rfl) Try.func7
    (OpenSpec.witness (enc := enc) (C := Try.checked) (s := Rows.OpenSpec.upto Rows.kitchenOrderedSpec) (k := Rows.uptoSmall) rfl false
      ⟨#[], #[.agg #[.slice none 0 0, .slice none 0 0, .slice none 0 0, .slice none 0 0], .slice none 0 0, .agg #[.int .i64 0, .int .i64 0]], []⟩ 8 (by kernel_rfl) (by kernel_rfl) (by kernel_rfl)
      (x := ([.agg [.nil, .nil, .nil, .nil], .nil, .agg [.lit (.int .i64 0), .lit (.int .i64 0)]], [], [])) (by kernel_rfl) rfl (by kernel_rfl)) ?_
  intro W base args ds gs before hval hW _ hk _
  exact z1063 [aQ, aM, aZ] (by intro c hc; rcases List.mem_cons.1 hc with rfl | hc; exact z1045; rcases List.mem_cons.1 hc with rfl | hc; exact z971; rcases List.mem_cons.1 hc with rfl | hc; exact z970; cases hc) walked Try.params7 (by kernel_rfl) Rows.kitchenOrderedSpec rfl spec hval hW hk

theorem over : Rows.kitchenOrderedUptoRow.holds Try.pinned (Rows.OpenSpec.upto Rows.kitchenOrderedSpec) :=
  OpenClaim.holds_of_cond 7 Try.f7 rfl rfl rfl rfl rfl rfl rfl ⟨rfl, rfl, rfl, rfl, rfl⟩ rfl rfl rfl rfl rfl (by kernel_rfl) Try.func7 (by kernel_rfl)
    (of_decide_eq_true (by kernel_rfl)) (by unfold Func.isWrapper; first | (rw [if_pos (by decide +kernel)]; kernel_rfl) | (rw [if_neg (by decide +kernel)]; exact ⟨rfl, rfl⟩))
    (fun os started H enc _ F => lifted os started H enc F)

theorem proved : Rows.KitchenOrderedUptoSaid :=
  over
#print axioms proved
end Go.Proofs.Ytgjnckiifffneaa.KitchenOrderedUpto


