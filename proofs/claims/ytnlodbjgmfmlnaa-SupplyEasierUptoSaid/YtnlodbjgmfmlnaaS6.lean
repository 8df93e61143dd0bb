/- SupplyEasier returns true and leaves its input as it was, where what it reads is of bulk at most 1048576. -/
import Derived.Test.YtnlodbjgmfmlnaaWe
import Derived.WalkKit
import Derived.ProofKit
import Derived.OpenShut
import Derived.JoinedCond
set_option linter.unusedSimpArgs false
namespace Go.Proofs.Ytnlodbjgmfmlnaa.SupplyEasierUpto
open Go.ChangeShapes Go.WideShapes Go.ChangeAt Go.RowKit Go.Ab
set_option linter.unusedVariables false

theorem own : ownKnob Try.prog.godebug = none := by kernel_rfl

theorem walked : ∀ xs, AllC [aS, aE] xs → Go.Ab.Fn Try.prog 6 xs (.bool true) := by
  intro xs h
  obtain ⟨_, _, rfl, ⟨s, rfl, hs, _⟩, ⟨x, rfl⟩⟩ := allC2 h
  exact f6 s x hs

theorem spec (H : Type) (ds : List (DataW H)) (h : ds.length = [aS, aE].length) : Rows.supplyEasierSpec.fn H ds = { results := [.lit (.bool true)], args := ds } := by
  match ds, h with
  | [a, b], _ => rfl

set_option maxHeartbeats 4000000 in
set_option maxRecDepth 100000 in
theorem lifted (os : Os) (started : os.Started) (H : Type) (enc : TypeId × Value → H) (F : Stop.Interp) :
    ReturnsInHanded {} Try.checked os 6 .any ((Rows.OpenSpec.upto Rows.supplyEasierSpec).pre6 enc Try.prog Try.f6 Rows.supplyEasierUptoRow.domain false) (((Rows.OpenSpec.upto Rows.supplyEasierSpec).at F).post enc Try.prog Try.f6 false true false false) := by
  refine returnsInHanded_of_cond (C := Try.checked) (s := Rows.OpenSpec.upto Rows.supplyEasierSpec) (k := Rows.uptoSmall) rfl own started (by kernel_rfl) Try.func6
    (OpenSpec.witness (enc := enc) (C := Try.checked) (s := Rows.OpenSpec.upto Rows.supplyEasierSpec) (k := Rows.uptoSmall) rfl false
      ⟨#[], #[.agg #[.slice none 0 0, .slice none 0 0, .int .i64 0, .int .i64 0, .int .i64 0, .int .i64 0, .int .i64 0, .slice none 0 0], .agg #[.int .i64 0, .int .i64 0, .int .i64 0, .int .i64 0, .int .i64 0, .int .i64 0, .int .i64 0, .int .i64 0, .int .i64 0, .int .i64 0, .int .i64 0]], []⟩ 8 (by kernel_rfl) (by kernel_rfl) (by kernel_rfl)
      (x := ([.agg [.agg [.nil], .nil, .agg [.lit (.int .i64 0), .lit (.int .i64 0), .lit (.int .i64 0), .agg [.lit (.int .i64 0), .lit (.int .i64 0)]], .nil], .agg [.lit (.int .i64 0), .lit (.int .i64 0), .lit (.int .i64 0), .lit (.int .i64 0), .agg [.lit (.int .i64 0), .lit (.int .i64 0), .lit (.int .i64 0), .agg [.lit (.int .i64 0), .lit (.int .i64 0), .agg [.lit (.int .i64 0), .lit (.int .i64 0)]]]]], [], [])) (by kernel_rfl) rfl (by kernel_rfl)) ?_
  intro W base args ds gs before hval hW _ hk _
  exact link [aS, aE] (by intro c hc; rcases List.mem_cons.1 hc with rfl | hc; exact rdSupp; rcases List.mem_cons.1 hc with rfl | hc; exact rdEase6; cases hc) walked Try.params6 (by kernel_rfl) Rows.supplyEasierSpec rfl spec hval hW hk

theorem over : Rows.supplyEasierUptoRow.holds Try.pinned (Rows.OpenSpec.upto Rows.supplyEasierSpec) :=
  OpenClaim.holds_of_cond 6 Try.f6 rfl rfl rfl rfl rfl rfl rfl ⟨rfl, rfl, rfl, rfl, rfl⟩ rfl rfl rfl rfl rfl (by kernel_rfl) Try.func6 (by kernel_rfl)
    (of_decide_eq_true (by kernel_rfl)) (by unfold Func.isWrapper; first | (rw [if_pos (by decide +kernel)]; kernel_rfl) | (rw [if_neg (by decide +kernel)]; exact ⟨rfl, rfl⟩))
    (fun os started H enc _ F => lifted os started H enc F)

theorem proved : Rows.SupplyEasierUptoSaid :=
  over
#print axioms proved
end Go.Proofs.Ytnlodbjgmfmlnaa.SupplyEasierUpto


