/- TopOpen returns true and leaves its input as it was, where what it reads is of bulk at most 1048576. -/
import Derived.Test.YtfkbbaagifpjpaaWf
import Derived.WalkKit
import Derived.ProofKit
import Derived.OpenShut
import Derived.JoinedCond
set_option linter.unusedSimpArgs false
namespace Go.Proofs.Ytfkbbaagifpjpaa.TopOpenUpto
open Go.ChangeShapes Go.WideShapes Go.ChangeAt Go.RowKit Go.Ab
set_option linter.unusedVariables false

theorem own : ownKnob Try.prog.godebug = none := by kernel_rfl

theorem walked : ∀ xs, AllC [aN, aR] xs → Go.Ab.Fn Try.prog 4 xs (.bool true) := by
  intro xs h
  obtain ⟨_, _, rfl, ⟨n, rfl, hn⟩, ⟨x, rfl⟩⟩ := allC2 h
  exact f4' n x hn

theorem spec (H : Type) (ds : List (DataW H)) (h : ds.length = [aN, aR].length) : Rows.topOpenSpec.fn H ds = { results := [.lit (.bool true)], args := ds } := by
  match ds, h with
  | [a, b], _ => rfl

set_option maxHeartbeats 4000000 in
set_option maxRecDepth 100000 in
theorem lifted (os : Os) (started : os.Started) (H : Type) (enc : TypeId × Value → H) (F : Stop.Interp) :
    ReturnsInHanded {} Try.checked os 4 .any ((Rows.OpenSpec.upto Rows.topOpenSpec).pre6 enc Try.prog Try.f4 Rows.topOpenUptoRow.domain false) (((Rows.OpenSpec.upto Rows.topOpenSpec).at F).post enc Try.prog Try.f4 false true false false) := by
  refine returnsInHanded_of_cond (C := Try.checked) (s := Rows.OpenSpec.upto Rows.topOpenSpec) (k := Rows.uptoSmall) rfl own started (by kernel_rfl) Try.func4
    (OpenSpec.witness (enc := enc) (C := Try.checked) (s := Rows.OpenSpec.upto Rows.topOpenSpec) (k := Rows.uptoSmall) rfl false
      ⟨#[], #[.agg #[.int .i64 0, .slice none 0 0], .agg #[.int .i64 0, .int .i64 0, .int .i64 0, .int .i64 0, .int .i64 0, .int .i64 0, .int .i64 0]], []⟩ 8 (by kernel_rfl) (by kernel_rfl) (by kernel_rfl)
      (x := ([.agg [.lit (.int .i64 0), .nil], .agg [.agg [.lit (.int .i64 0), .lit (.int .i64 0), .agg [.lit (.int .i64 0), .lit (.int .i64 0)]], .lit (.int .i64 0), .lit (.int .i64 0), .lit (.int .i64 0)]], [], [])) (by kernel_rfl) rfl (by kernel_rfl)) ?_
  intro W base args ds gs before hval hW _ hk _
  exact link [aN, aR] (by intro c hc; rcases List.mem_cons.1 hc with rfl | hc; exact z1200; rcases List.mem_cons.1 hc with rfl | hc; exact rdErr; cases hc) walked Try.params4 (by kernel_rfl) Rows.topOpenSpec rfl spec hval hW hk

theorem over : Rows.topOpenUptoRow.holds Try.pinned (Rows.OpenSpec.upto Rows.topOpenSpec) :=
  OpenClaim.holds_of_cond 4 Try.f4 rfl rfl rfl rfl rfl rfl rfl ⟨rfl, rfl, rfl, rfl, rfl⟩ rfl rfl rfl rfl rfl (by kernel_rfl) Try.func4 (by kernel_rfl)
    (of_decide_eq_true (by kernel_rfl)) (by unfold Func.isWrapper; first | (rw [if_pos (by decide +kernel)]; kernel_rfl) | (rw [if_neg (by decide +kernel)]; exact ⟨rfl, rfl⟩))
    (fun os started H enc _ F => lifted os started H enc F)

theorem proved : Rows.TopOpenUptoSaid :=
  over
#print axioms proved
end Go.Proofs.Ytfkbbaagifpjpaa.TopOpenUpto

