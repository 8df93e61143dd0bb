/- KitchenCooks returns true and leaves its input as it was, where what it reads is of bulk at most 1048576. -/
import Derived.Test.YtgjnckiifffneaaWf
import Derived.WalkKit
import Derived.ProofKit
import Derived.OpenShut
import Derived.JoinedCond
set_option linter.unusedSimpArgs false
namespace Go.Proofs.Ytgjnckiifffneaa.KitchenCooksUpto
open Go.ChangeShapes Go.WideShapes Go.ChangeAt Go.RowKit Go.Ab
set_option linter.unusedVariables false

theorem own : ownKnob Try.prog.godebug = none := by kernel_rfl

theorem walked : ∀ xs, AllC [aQ, aL] xs → Go.Ab.Fn Try.prog 10 xs (.bool true) := by
  intro xs h
  obtain ⟨_, _, rfl, ⟨k, rfl, hk⟩, ⟨b, rfl, hb⟩⟩ := z997 h
  exact z1063 k b.M b.C b.no hk hb.m hb.mr hb.c hb.cr

theorem spec (H : Type) (ds : List (DataW H)) (h : ds.length = [aQ, aL].length) : Rows.kitchenCooksSpec.fn H ds = { results := [.lit (.bool true)], args := ds } := by
  match ds, h with
  | [a, b], _ => rfl

set_option maxHeartbeats 4000000 in
set_option maxRecDepth 100000 in
theorem lifted (os : Os) (started : os.Started) (H : Type) (enc : TypeId × Value → H) (F : Stop.Interp) :
    ReturnsInHanded {} Try.checked os 10 .any ((Rows.OpenSpec.upto Rows.kitchenCooksSpec).pre6 enc Try.prog Try.f10 Rows.kitchenCooksUptoRow.domain false) (((Rows.OpenSpec.upto Rows.kitchenCooksSpec).at F).post enc Try.prog Try.f10 false true false false) := by
  refine returnsInHanded_of_cond (C := Try.checked) (s := Rows.OpenSpec.upto Rows.kitchenCooksSpec) (k := Rows.uptoSmall) rfl own started (by kernel_rfl) Try.func10
    (OpenSpec.witness (enc := enc) (C := Try.checked) (s := Rows.OpenSpec.upto Rows.kitchenCooksSpec) (k := Rows.uptoSmall) rfl false
      ⟨#[], #[.agg #[.slice none 0 0, .slice none 0 0, .slice none 0 0, .slice none 0 0], .agg #[.slice none 0 0, .slice none 0 0, .int .i64 0]], []⟩ 8 (by kernel_rfl) (by kernel_rfl) (by kernel_rfl)
      (x := ([.agg [.nil, .nil, .nil, .nil], .agg [.nil, .nil, .lit (.int .i64 0)]], [], [])) (by kernel_rfl) rfl (by kernel_rfl)) ?_
  intro W base args ds gs before hval hW _ hk _
  exact z1010 [aQ, aL] (by intro c hc; rcases List.mem_cons.1 hc with rfl | hc; exact z990; rcases List.mem_cons.1 hc with rfl | hc; exact z915; cases hc) walked Try.params10 (by kernel_rfl) Rows.kitchenCooksSpec rfl spec hval hW hk

theorem over : Rows.kitchenCooksUptoRow.holds Try.pinned (Rows.OpenSpec.upto Rows.kitchenCooksSpec) :=
  OpenClaim.holds_of_cond 10 Try.f10 rfl rfl rfl rfl rfl rfl rfl ⟨rfl, rfl, rfl, rfl, rfl⟩ rfl rfl rfl rfl rfl (by kernel_rfl) Try.func10 (by kernel_rfl)
    (of_decide_eq_true (by kernel_rfl)) (by unfold Func.isWrapper; first | (rw [if_pos (by decide +kernel)]; kernel_rfl) | (rw [if_neg (by decide +kernel)]; exact ⟨rfl, rfl⟩))
    (fun os started H enc _ F => lifted os started H enc F)

theorem proved : Rows.KitchenCooksUptoSaid :=
  over
#print axioms proved
end Go.Proofs.Ytgjnckiifffneaa.KitchenCooksUpto


