/- KitchenComers returns true and leaves its input as it was, where what it reads is of bulk at most 1048576. -/
import Derived.Test.YtgjnckiifffneaaWe
import Derived.WalkKit
import Derived.ProofKit
import Derived.OpenShut
import Derived.JoinedCond
set_option linter.unusedSimpArgs false
namespace Go.Proofs.Ytgjnckiifffneaa.KitchenComersUpto
open Go.ChangeShapes Go.WideShapes Go.ChangeAt Go.RowKit Go.Ab
set_option linter.unusedVariables false

theorem own : ownKnob Try.prog.godebug = none := by kernel_rfl

theorem walked : ∀ xs, AllC [aQ, aL, aU] xs → Go.Ab.Fn Try.prog 5 xs (.bool true) := by
  intro xs h
  obtain ⟨_, _, _, rfl, ⟨k, rfl, hk⟩, ⟨b, rfl, hb⟩, ⟨u, rfl, hu⟩⟩ := z1048 h
  exact zf5 k b.M b.C b.no u hk hb.m hb.mr hb.c hb.cr hu

theorem spec (H : Type) (ds : List (DataW H)) (h : ds.length = [aQ, aL, aU].length) : Rows.kitchenComersSpec.fn H ds = { results := [.lit (.bool true)], args := ds } := by
  match ds, h with
  | [a, b, c], _ => rfl

set_option maxHeartbeats 4000000 in
set_option maxRecDepth 100000 in
theorem lifted (os : Os) (started : os.Started) (H : Type) (enc : TypeId × Value → H) (F : Stop.Interp) :
    ReturnsInHanded {} Try.checked os 5 .any ((Rows.OpenSpec.upto Rows.kitchenComersSpec).pre6 enc Try.prog Try.f5 Rows.kitchenComersUptoRow.domain false) (((Rows.OpenSpec.upto Rows.kitchenComersSpec).at F).post enc Try.prog Try.f5 false true false false) := by
  refine returnsInHanded_of_cond (C := Try.checked) (s := Rows.OpenSpec.upto Rows.kitchenComersSpec) (k := Rows.uptoSmall) rfl own started (by kernel_rfl) Try.func5
    (OpenSpec.witness (enc := enc) (C := Try.checked) (s := Rows.OpenSpec.upto Rows.kitchenComersSpec) (k := Rows.uptoSmall) rfl false
      ⟨#[], #[.agg #[.slice none 0 0, .slice none 0 0, .slice none 0 0, .slice none 0 0], .agg #[.slice none 0 0, .slice none 0 0, .int .i64 0], .slice none 0 0], []⟩ 8 (by kernel_rfl) (by kernel_rfl) (by kernel_rfl)
      (x := ([.agg [.nil, .nil, .nil, .nil], .agg [.nil, .nil, .lit (.int .i64 0)], .nil], [], [])) (by kernel_rfl) rfl (by kernel_rfl)) ?_
  intro W base args ds gs before hval hW _ hk _
  exact z1060 [aQ, aL, aU] (by intro c hc; rcases List.mem_cons.1 hc with rfl | hc; exact z1041; rcases List.mem_cons.1 hc with rfl | hc; exact z968; rcases List.mem_cons.1 hc with rfl | hc; exact z1009; cases hc) walked Try.params5 (by kernel_rfl) Rows.kitchenComersSpec rfl spec hval hW hk

theorem over : Rows.kitchenComersUptoRow.holds Try.pinned (Rows.OpenSpec.upto Rows.kitchenComersSpec) :=
  OpenClaim.holds_of_cond 5 Try.f5 rfl rfl rfl rfl rfl rfl rfl ⟨rfl, rfl, rfl, rfl, rfl⟩ rfl rfl rfl rfl rfl (by kernel_rfl) Try.func5 (by kernel_rfl)
    (of_decide_eq_true (by kernel_rfl)) (by unfold Func.isWrapper; first | (rw [if_pos (by decide +kernel)]; kernel_rfl) | (rw [if_neg (by decide +kernel)]; exact ⟨rfl, rfl⟩))
    (fun os started H enc _ F => lifted os started H enc F)

theorem proved : Rows.KitchenComersUptoSaid :=
  over
#print axioms proved
end Go.Proofs.Ytgjnckiifffneaa.KitchenComersUpto


