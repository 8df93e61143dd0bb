/- TopFuelled returns true and leaves its input as it was, where what it reads is of bulk at most 1048576. -/
import Derived.Test.YtnlodbjgmfmlnaaGreatWf
import Derived.WalkKit
import Derived.ProofKit
import Derived.OpenShut
import Derived.JoinedCond
set_option linter.unusedSimpArgs false
namespace Go.Proofs.YtnlodbjgmfmlnaaGreat.TopFuelledUpto
open Go.ChangeShapes Go.WideShapes Go.ChangeAt Go.RowKit Go.Ab
set_option linter.unusedVariables false

theorem own : ownKnob Tryz.prog.godebug = none := by kernel_rfl

theorem walked : ∀ xs, AllC [aS, aP] xs → Go.Ab.Fn Tryz.prog 8 xs (.bool true) := by
  intro xs h
  obtain ⟨_, _, rfl, ⟨s, rfl, hs, _⟩, ⟨p, rfl, hp⟩⟩ := allC2 h
  exact zf8 s p hs hp

theorem spec (H : Type) (ds : List (DataW H)) (h : ds.length = [aS, aP].length) : Rows.topFuelledSpec.fn H ds = { results := [.lit (.bool true)], args := ds } := by
  match ds, h with
  | [a, b], _ => rfl

set_option maxHeartbeats 4000000 in
set_option maxRecDepth 100000 in
theorem lifted (os : Os) (started : os.Started) (H : Type) (enc : TypeId × Value → H) (F : Stop.Interp) :
    ReturnsInHanded {} Tryz.checked os 8 .any ((Rows.OpenSpec.upto Rows.topFuelledSpec).pre6 enc Tryz.prog Tryz.f8 Rows.topFuelledUptoRow.domain false) (((Rows.OpenSpec.upto Rows.topFuelledSpec).at F).post enc Tryz.prog Tryz.f8 false true false false) := by
  refine returnsInHanded_of_cond (C := Tryz.checked) (s := Rows.OpenSpec.upto Rows.topFuelledSpec) (k := Rows.uptoSmall) rfl own started (by kernel_rfl) Tryz.func8
    (OpenSpec.witness (enc := enc) (C := Tryz.checked) (s := Rows.OpenSpec.upto Rows.topFuelledSpec) (k := Rows.uptoSmall) rfl false
      ⟨#[], #[.agg #[.slice none 0 0, .slice none 0 0, .int .i64 0, .int .i64 0, .int .i64 0, .int .i64 0, .int .i64 0, .slice none 0 0], .agg #[.slice none 0 0, .slice none 0 0, .slice none 0 0, .int .i64 0, .int .i64 0, .int .i64 0, .int .i64 0, .int .i64 0, .int .i64 0, .int .i64 0, .int .i64 0, .int .i64 0, .slice none 0 0]], []⟩ 8 (by kernel_rfl) (by kernel_rfl) (by kernel_rfl)
      (x := ([.agg [.agg [.nil], .nil, .agg [.lit (.int .i64 0), .lit (.int .i64 0), .lit (.int .i64 0), .agg [.lit (.int .i64 0), .lit (.int .i64 0)]], .nil], .agg [.agg [.nil], .nil, .nil, .lit (.int .i64 0), .lit (.int .i64 0), .lit (.int .i64 0), .agg [.lit (.int .i64 0), .lit (.int .i64 0), .lit (.int .i64 0)], .lit (.int .i64 0), .lit (.int .i64 0), .lit (.int .i64 0), .nil]], [], [])) (by kernel_rfl) rfl (by kernel_rfl)) ?_
  intro W base args ds gs before hval hW _ hk _
  exact link [aS, aP] (by intro c hc; rcases List.mem_cons.1 hc with rfl | hc; exact rdSupp; rcases List.mem_cons.1 hc with rfl | hc; exact rdPlant; cases hc) walked Tryz.params8 (by kernel_rfl) Rows.topFuelledSpec rfl spec hval hW hk

theorem over : Rows.topFuelledUptoRow.holds Tryz.pinned (Rows.OpenSpec.upto Rows.topFuelledSpec) :=
  OpenClaim.holds_of_cond 8 Tryz.f8 rfl rfl rfl rfl rfl rfl rfl ⟨rfl, rfl, rfl, rfl, rfl⟩ rfl rfl rfl rfl rfl (by kernel_rfl) Tryz.func8 (by kernel_rfl)
    (of_decide_eq_true (by kernel_rfl)) (by unfold Func.isWrapper; first | (rw [if_pos (by decide +kernel)]; kernel_rfl) | (rw [if_neg (by decide +kernel)]; exact ⟨rfl, rfl⟩))
    (fun os started H enc _ F => lifted os started H enc F)

theorem proved : Rows.TopFuelledUptoSaid :=
  over
#print axioms proved
end Go.Proofs.YtnlodbjgmfmlnaaGreat.TopFuelledUpto


