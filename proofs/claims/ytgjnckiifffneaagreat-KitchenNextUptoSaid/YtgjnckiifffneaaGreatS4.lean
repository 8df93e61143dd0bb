/- KitchenNext returns true and leaves its input as it was, where what it reads is of bulk at most 1048576. -/
import Derived.Test.YtgjnckiifffneaaGreatWf
import Derived.WalkKit
import Derived.ProofKit
import Derived.OpenShut
import Derived.JoinedCond
set_option linter.unusedSimpArgs false
namespace Go.Proofs.YtgjnckiifffneaaGreat.KitchenNextUpto
open Go.ChangeShapes Go.WideShapes Go.ChangeAt Go.RowKit Go.Ab
set_option linter.unusedVariables false

theorem own : ownKnob Tryz.prog.godebug = none := by kernel_rfl

theorem walked : ∀ xs, AllC [aQ, aL, aO] xs → Go.Ab.Fn Tryz.prog 4 xs (.bool true) := by
  intro xs h
  obtain ⟨_, _, _, rfl, ⟨k, rfl, hk⟩, ⟨b, rfl, hb⟩, ⟨z, rfl, hz, _⟩⟩ := allC3 h
  exact zf4 k b.M b.C b.no z.supp z.carrier z.len hk hb.m hb.mr hb.c hb.cr hz

theorem spec (H : Type) (ds : List (DataW H)) (h : ds.length = [aQ, aL, aO].length) : Rows.kitchenNextSpec.fn H ds = { results := [.lit (.bool true)], args := ds } := by
  match ds, h with
  | [a, b, c], _ => rfl

set_option maxHeartbeats 4000000 in
set_option maxRecDepth 100000 in
theorem lifted (os : Os) (started : os.Started) (H : Type) (enc : TypeId × Value → H) (F : Stop.Interp) :
    ReturnsInHanded {} Tryz.checked os 4 .any ((Rows.OpenSpec.upto Rows.kitchenNextSpec).pre6 enc Tryz.prog Tryz.f4 Rows.kitchenNextUptoRow.domain false) (((Rows.OpenSpec.upto Rows.kitchenNextSpec).at F).post enc Tryz.prog Tryz.f4 false true false false) := by
  refine returnsInHanded_of_cond (C := Tryz.checked) (s := Rows.OpenSpec.upto Rows.kitchenNextSpec) (k := Rows.uptoSmall) rfl own started (by kernel_rfl) Tryz.func4
    (OpenSpec.witness (enc := enc) (C := Tryz.checked) (s := Rows.OpenSpec.upto Rows.kitchenNextSpec) (k := Rows.uptoSmall) rfl false
      ⟨#[], #[.agg #[.slice none 0 0, .slice none 0 0, .slice none 0 0, .slice none 0 0], .agg #[.slice none 0 0, .slice none 0 0, .int .i64 0], .agg #[.slice none 0 0, .slice none 0 0, .int .i64 0, .int .i64 0, .int .i64 0, .int .i64 0, .int .i64 0, .slice none 0 0, .int .i64 0, .int .i64 0]], []⟩ 8 (by kernel_rfl) (by kernel_rfl) (by kernel_rfl)
      (x := ([.agg [.nil, .nil, .nil, .nil], .agg [.nil, .nil, .lit (.int .i64 0)], .agg [.agg [.agg [.nil], .nil, .agg [.lit (.int .i64 0), .lit (.int .i64 0), .lit (.int .i64 0), .agg [.lit (.int .i64 0), .lit (.int .i64 0)]], .nil], .lit (.int .i64 0), .lit (.int .i64 0)]], [], [])) (by kernel_rfl) rfl (by kernel_rfl)) ?_
  intro W base args ds gs before hval hW _ hk _
  exact link [aQ, aL, aO] (by intro c hc; rcases List.mem_cons.1 hc with rfl | hc; exact rdKit; rcases List.mem_cons.1 hc with rfl | hc; exact z1142; rcases List.mem_cons.1 hc with rfl | hc; exact z1141; cases hc) walked Tryz.params4 (by kernel_rfl) Rows.kitchenNextSpec rfl spec hval hW hk

theorem over : Rows.kitchenNextUptoRow.holds Tryz.pinned (Rows.OpenSpec.upto Rows.kitchenNextSpec) :=
  OpenClaim.holds_of_cond 4 Tryz.f4 rfl rfl rfl rfl rfl rfl rfl ⟨rfl, rfl, rfl, rfl, rfl⟩ rfl rfl rfl rfl rfl (by kernel_rfl) Tryz.func4 (by kernel_rfl)
    (of_decide_eq_true (by kernel_rfl)) (by unfold Func.isWrapper; first | (rw [if_pos (by decide +kernel)]; kernel_rfl) | (rw [if_neg (by decide +kernel)]; exact ⟨rfl, rfl⟩))
    (fun os started H enc _ F => lifted os started H enc F)

theorem proved : Rows.KitchenNextUptoSaid :=
  over
#print axioms proved
end Go.Proofs.YtgjnckiifffneaaGreat.KitchenNextUpto


