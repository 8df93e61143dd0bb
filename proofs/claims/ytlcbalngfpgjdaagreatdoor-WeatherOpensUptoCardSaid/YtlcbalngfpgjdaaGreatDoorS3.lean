/- WeatherOpens returns true and leaves its input as it was, where what it reads is of bulk at most 1048576: the card, over the package variable that is tied to the program's text. -/
import Derived.Test.YtlcbalngfpgjdaaGreatDoorWf
import Derived.Test.YtlcbalngfpgjdaaGreatDoorCards
import Derived.Test.YtlcbalngfpgjdaaGreatDoorTie
import Derived.WalkKit
import Derived.ProofKit
import Derived.OpenShut
import Derived.JoinedCond
import Derived.Deep.DeepHandedRow
set_option linter.unusedSimpArgs false
namespace Go.Proofs.YtlcbalngfpgjdaaGreatDoor.WeatherOpensUpto
open Go.ChangeShapes Go.WideShapes Go.ChangeAt Go.RowKit Go.Ab
set_option linter.unusedVariables false

theorem own : ownKnob Tryz.prog.godebug = none := by kernel_rfl

theorem walked : ∀ xs, AllC [aF, aS, aX] xs → Go.Ab.Fn Tryz.prog 3 xs (.bool true) := by
  intro xs h
  obtain ⟨_, _, _, rfl, ⟨F, rfl, hF⟩, ⟨l, rfl, hl⟩, ⟨u, rfl, hu, hu2⟩⟩ := allC3 h
  exact f3 F l u hF hl hu hu2

theorem spec (H : Type) (ds : List (DataW H)) (h : ds.length = [aF, aS, aX].length) : Rows.weatherOpensSpec.fn H ds = { results := [.lit (.bool true)], args := ds } := by
  match ds, h with
  | [a, b, c], _ => rfl

noncomputable def laidWorld (os : Os) : World :=
  { World.holding Tryz.prog os ⟨#[], #[], []⟩ with heap := (World.holding Tryz.prog os ⟨#[], #[], []⟩).heap.modify 0 fun
      | .cells _ t frozen => .cells #[.int .i64 200, .int .i64 100, .int .i64 (-50), .int .i64 50] t frozen
      | o => o }
theorem laid_met (os : Os) : laidMet Tryz.prog Rows.weatherOpensUptoRow.laid ((laidWorld os).forCall (fun _ _ => 0) ⟨#[], #[.agg #[.slice none 0 0], .slice none 0 0, .agg #[.int .i64 0, .slice none 0 0, .slice none 0 0, .int .i64 0]], []⟩).memory :=
  laidMet_of_run' 8 (by kernel_rfl) (by kernel_rfl)
theorem reads (os : Os) {H : Type} (enc : TypeId × Value → H) : ∃ places, DataW.whole enc Tryz.prog ((laidWorld os).forCall (fun _ _ => 0) ⟨#[], #[.agg #[.slice none 0 0], .slice none 0 0, .agg #[.int .i64 0, .slice none 0 0, .slice none 0 0, .int .i64 0]], []⟩).memory Tryz.f3.params.toList Rows.weatherOpensSpec.vars false #[(.agg #[.slice none 0 0] : Value), (.slice none 0 0 : Value), (.agg #[.int .i64 0, .slice none 0 0, .slice none 0 0, .int .i64 0] : Value)].toList 12 = some ([.agg [.nil], .nil, .agg [.agg [.lit (.int .i64 0), .nil], .nil, .lit (.int .i64 0)]], [], places) :=
  ⟨[], by kernel_rfl⟩

set_option maxHeartbeats 4000000 in
set_option maxRecDepth 100000 in
theorem lifted (os : Os) (started : os.Started) (H : Type) (enc : TypeId × Value → H) (F : Stop.Interp) :
    ReturnsInHanded {} Tryz.checked os 3 .any ((Rows.OpenSpec.upto Rows.weatherOpensSpec).preRow enc Tryz.prog Tryz.f3 Rows.weatherOpensUptoRow.domain false Rows.weatherOpensUptoRow.laid) (((Rows.OpenSpec.upto Rows.weatherOpensSpec).at F).post enc Tryz.prog Tryz.f3 false true false false) := by
  obtain ⟨places, hx⟩ := reads os enc
  refine returnsInHanded_of_row (C := Tryz.checked) (s := Rows.OpenSpec.upto Rows.weatherOpensSpec) own started (by kernel_rfl) Tryz.func3
    (witness_row_at (enc := enc) (C := Tryz.checked) false (laidWorld os) #[.agg #[.slice none 0 0], .slice none 0 0, .agg #[.int .i64 0, .slice none 0 0, .slice none 0 0, .int .i64 0]] rfl (by kernel_rfl) (by kernel_rfl) (by kernel_rfl)
      (OpenSpec.preRow_of_cond 12 hx (by kernel_rfl) (fun k hk => by cases hk; kernel_rfl) (by kernel_rfl) (laid_met os))) ?_
  intro W base args ds gs before hval hW _ hk _ hX _ _
  exact link [aF, aS, aX] (by intro c hc; rcases List.mem_cons.1 hc with rfl | hc; exact rdFore; rcases List.mem_cons.1 hc with rfl | hc; exact rdSights; rcases List.mem_cons.1 hc with rfl | hc; exact rdRuled; cases hc) walked Tryz.params3 (by kernel_rfl) Rows.weatherOpensSpec rfl spec hval hW (hk _ rfl) hX

theorem over : Rows.WeatherOpensUptoSaid :=
  OpenClaim.holds_of_cond 3 Tryz.f3 rfl rfl rfl rfl rfl rfl rfl ⟨rfl, rfl, rfl, rfl, rfl⟩ rfl rfl rfl rfl rfl (by kernel_rfl) Tryz.func3 (by kernel_rfl)
    (of_decide_eq_true (by kernel_rfl)) (by unfold Func.isWrapper; first | (rw [if_pos (by decide +kernel)]; kernel_rfl) | (rw [if_neg (by decide +kernel)]; exact ⟨rfl, rfl⟩))
    (fun os started H enc _ F => by rw [OpenClaim.pre_eq_preRow]; exact lifted os started H enc F)

theorem plain (f : FuncId) (fn : Func) (hf : Tryz.pinned.checked.prog.funcNamed "bivouac/bivouaclaw05.WeatherOpens" = some f) (hfn : Tryz.pinned.checked.prog.funcs[f]? = some fn) :
    false = Tryz.pinned.checked.prog.looks [] ∧ ∀ (j : Nat) t, fn.params[j]? = some t → Tryz.pinned.checked.prog.wantsStandIn t = false := by
  obtain rfl : f = 3 := Option.some.inj ((show Tryz.prog.funcNamed "bivouac/bivouaclaw05.WeatherOpens" = some 3 by kernel_rfl).symm.trans hf) |>.symm
  obtain rfl : fn = Tryz.f3 := (Option.some.inj (Tryz.func3.symm.trans hfn)).symm
  refine ⟨by kernel_rfl, fun j t ht => ?_⟩
  have hall : (Tryz.f3.params.toList.all fun u => !Tryz.prog.wantsStandIn u) = true := by kernel_rfl
  have hm : t ∈ Tryz.f3.params.toList := by simpa using Array.mem_of_getElem? ht
  exact (show Tryz.prog.wantsStandIn t = false by simpa using List.all_eq_true.1 hall t hm)

theorem proved : Rows.WeatherOpensUptoCardSaid :=
  Claim7.holds_tied_plain_at .later [] _ _ _ _ over (fun _ h => by cases h) (by kernel_rfl) (fun _ h => by cases h) weatherOpensUpto_row_tie rfl ⟨rfl, rfl⟩ (by kernel_rfl) rfl plain (by kernel_rfl)
#print axioms proved
end Go.Proofs.YtlcbalngfpgjdaaGreatDoor.WeatherOpensUpto


