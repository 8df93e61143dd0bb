/- PowerLevels returns true and leaves its input as it was, where what it reads is of bulk at most 1048576. -/
import Derived.Test.YtlcbalngfpgjdaaWf
import Derived.WalkKit
import Derived.ProofKit
import Derived.OpenShut
import Derived.JoinedCond
set_option linter.unusedSimpArgs false
namespace Go.Proofs.Ytlcbalngfpgjdaa.PowerLevelsUpto
open Go.ChangeShapes Go.WideShapes Go.ChangeAt Go.RowKit Go.Ab
set_option linter.unusedVariables false

theorem own : ownKnob Try.prog.godebug = none := by kernel_rfl

theorem walked : ∀ xs, AllC [aP, aB, aW] xs → Go.Ab.Fn Try.prog 13 xs (.bool true) := by
  intro xs h
  obtain ⟨_, _, _, rfl, ⟨p, rfl, hp⟩, ⟨l, rfl, hl⟩, ⟨m, rfl, hm⟩⟩ := allC3 h
  exact f13 p l m hp hl hm

theorem spec (H : Type) (ds : List (DataW H)) (h : ds.length = [aP, aB, aW].length) : Rows.powerLevelsSpec.fn H ds = { results := [.lit (.bool true)], args := ds } := by
  match ds, h with
  | [a, b, c], _ => rfl

set_option maxHeartbeats 4000000 in
set_option maxRecDepth 100000 in
theorem lifted (os : Os) (started : os.Started) (H : Type) (enc : TypeId × Value → H) (F : Stop.Interp) :
    ReturnsInHanded {} Try.checked os 13 .any ((Rows.OpenSpec.upto Rows.powerLevelsSpec).pre6 enc Try.prog Try.f13 Rows.powerLevelsUptoRow.domain false) (((Rows.OpenSpec.upto Rows.powerLevelsSpec).at F).post enc Try.prog Try.f13 false true false false) := by
  refine returnsInHanded_of_cond (C := Try.checked) (s := Rows.OpenSpec.upto Rows.powerLevelsSpec) (k := Rows.uptoSmall) rfl own started (by kernel_rfl) Try.func13
    (OpenSpec.witness (enc := enc) (C := Try.checked) (s := Rows.OpenSpec.upto Rows.powerLevelsSpec) (k := Rows.uptoSmall) rfl false
      ⟨#[], #[.agg #[.slice none 0 0, .slice none 0 0, .slice none 0 0, .int .i64 0, .int .i64 0, .int .i64 0, .int .i64 0, .int .i64 0, .int .i64 0, .int .i64 0, .int .i64 0, .int .i64 0, .slice none 0 0], .slice none 0 0, .slice none 0 0], []⟩ 8 (by kernel_rfl) (by kernel_rfl) (by kernel_rfl)
      (x := ([.agg [.agg [.nil], .nil, .nil, .lit (.int .i64 0), .lit (.int .i64 0), .lit (.int .i64 0), .agg [.lit (.int .i64 0), .lit (.int .i64 0), .lit (.int .i64 0)], .lit (.int .i64 0), .lit (.int .i64 0), .lit (.int .i64 0), .nil], .nil, .nil], [], [])) (by kernel_rfl) rfl (by kernel_rfl)) ?_
  intro W base args ds gs before hval hW _ hk _
  exact link [aP, aB, aW] (fun c hc => rdAll c (by simp only [List.mem_cons, List.not_mem_nil, or_false] at hc ⊢; rcases hc with rfl | rfl | rfl <;> simp)) walked Try.params13 (by kernel_rfl) Rows.powerLevelsSpec rfl spec hval hW hk

theorem over : Rows.powerLevelsUptoRow.holds Try.pinned (Rows.OpenSpec.upto Rows.powerLevelsSpec) :=
  OpenClaim.holds_of_cond 13 Try.f13 rfl rfl rfl rfl rfl rfl rfl ⟨rfl, rfl, rfl, rfl, rfl⟩ rfl rfl rfl rfl rfl (by kernel_rfl) Try.func13 (by kernel_rfl)
    (of_decide_eq_true (by kernel_rfl)) (by unfold Func.isWrapper; first | (rw [if_pos (by decide +kernel)]; kernel_rfl) | (rw [if_neg (by decide +kernel)]; exact ⟨rfl, rfl⟩))
    (fun os started H enc _ F => lifted os started H enc F)

theorem proved : Rows.PowerLevelsUptoSaid :=
  over
#print axioms proved
end Go.Proofs.Ytlcbalngfpgjdaa.PowerLevelsUpto

