/- TopOverdue returns true and leaves its input as it was, where what it reads is of bulk at most 1048576. -/
import Derived.Test.YtfkbbaagifpjpaaWe
import Derived.WalkKit
import Derived.ProofKit
import Derived.OpenShut
import Derived.JoinedCond
set_option linter.unusedSimpArgs false
namespace Go.Proofs.Ytfkbbaagifpjpaa.TopOverdueUpto
open Go.ChangeShapes Go.WideShapes Go.ChangeAt Go.RowKit Go.Ab
set_option linter.unusedVariables false

theorem own : ownKnob Try.prog.godebug = none := by kernel_rfl

theorem walked : ∀ xs, AllC [aN, aH] xs → Go.Ab.Fn Try.prog 3 xs (.bool true) := by
  intro xs h
  obtain ⟨_, _, rfl, ⟨n, rfl, hn⟩, ⟨x, rfl, hx, hx2⟩⟩ := allC2 h
  exact f3' n x hn hx hx2

theorem spec (H : Type) (ds : List (DataW H)) (h : ds.length = [aN, aH].length) : Rows.topOverdueSpec.fn H ds = { results := [.lit (.bool true)], args := ds } := by
  match ds, h with
  | [a, b], _ => rfl

set_option maxHeartbeats 4000000 in
set_option maxRecDepth 100000 in
theorem lifted (os : Os) (started : os.Started) (H : Type) (enc : TypeId × Value → H) (F : Stop.Interp) :
    ReturnsInHanded {} Try.checked os 3 .any ((Rows.OpenSpec.upto Rows.topOverdueSpec).pre6 enc Try.prog Try.f3 Rows.topOverdueUptoRow.domain false) (((Rows.OpenSpec.upto Rows.topOverdueSpec).at F).post enc Try.prog Try.f3 false true false false) := by
  refine returnsInHanded_of_cond (C := Try.checked) (s := Rows.OpenSpec.upto Rows.topOverdueSpec) (k := Rows.uptoSmall) rfl own started (by kernel_rfl) Try.func3
    (OpenSpec.witness (enc := enc) (C := Try.checked) (s := Rows.OpenSpec.upto Rows.topOverdueSpec) (k := Rows.uptoSmall) rfl false
      ⟨#[], #[.agg #[.int .i64 0, .slice none 0 0], .agg #[.int .i64 0, .int .i64 0, .int .i64 0, .int .i64 0, .int .i64 0, .int .i64 0, .int .i64 0, .int .i64 0, .slice none 0 0, .int .i64 0, .slice none 0 0]], []⟩ 8 (by kernel_rfl) (by kernel_rfl) (by kernel_rfl)
      (x := ([.agg [.lit (.int .i64 0), .nil], .agg [.agg [.agg [.lit (.int .i64 0), .lit (.int .i64 0), .agg [.lit (.int .i64 0), .lit (.int .i64 0)]], .lit (.int .i64 0), .lit (.int .i64 0), .lit (.int .i64 0), .lit (.int .i64 0), .nil], .lit (.int .i64 0), .nil]], [], [])) (by kernel_rfl) rfl (by kernel_rfl)) ?_
  intro W base args ds gs before hval hW _ hk _
  exact link [aN, aH] (by intro c hc; rcases List.mem_cons.1 hc with rfl | hc; exact z1200; rcases List.mem_cons.1 hc with rfl | hc; exact z1171; cases hc) walked Try.params3 (by kernel_rfl) Rows.topOverdueSpec rfl spec hval hW hk

theorem over : Rows.topOverdueUptoRow.holds Try.pinned (Rows.OpenSpec.upto Rows.topOverdueSpec) :=
  OpenClaim.holds_of_cond 3 Try.f3 rfl rfl rfl rfl rfl rfl rfl ⟨rfl, rfl, rfl, rfl, rfl⟩ rfl rfl rfl rfl rfl (by kernel_rfl) Try.func3 (by kernel_rfl)
    (of_decide_eq_true (by kernel_rfl)) (by unfold Func.isWrapper; first | (rw [if_pos (by decide +kernel)]; kernel_rfl) | (rw [if_neg (by decide +kernel)]; exact ⟨rfl, rfl⟩))
    (fun os started H enc _ F => lifted os started H enc F)

theorem proved : Rows.TopOverdueUptoSaid :=
  over
#print axioms proved
end Go.Proofs.Ytfkbbaagifpjpaa.TopOverdueUpto


